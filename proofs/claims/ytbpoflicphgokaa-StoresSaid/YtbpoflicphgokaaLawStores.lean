/- The row of Stores, out of its plain statement (Pure.Stores) and the printed contract. -/
import Derived.Test.YtbpoflicphgokaaRows
import Derived.Test.YtbpoflicphgokaaZ18x3
import Derived.Test.YtbpoflicphgokaaZ18x4
import Derived.Test.YtbpoflicphgokaaPureStores
import Derived.WalkKit
import Derived.ProofKit
import Derived.OpenShut
import Derived.ShutString
import Derived.ChangeOld
import Derived.Below
import Derived.SizedLaws
namespace Go.Proofs.Ytbpoflicphgokaa.stores
open Go.ChangeShapes Go.WideShapes Go.ChangeAt Go.RowKit Go.Joins Go.Deep Go.Proofs.YtbpoflicphgokaaW.PrintWords Go.Proofs.Ytbpoflicphgokaa.Opn Go.Proofs.Ytbpoflicphgokaa.O18 Go.Proofs.Ytbpoflicphgokaa.Q18
open Go.ChangeMaps (open_string shut_string)
set_option linter.unusedVariables false
theorem own:ownKnob Try.prog.godebug=none:=by kernel_rfl
theorem laidOut:laidOutB Try.prog=true:=by kernel_rfl
set_option maxRecDepth 100000 in
theorem lifted (os:Os) (started:os.Started) (H:Type) (enc:TypeId × Value->H):
    ReturnsInHanded {} Try.checked os 5 .any (Rows.storesSpec.pre6 enc Try.prog Try.f5 Rows.storesRow.domain false) (Rows.storesSpec.post enc Try.prog Try.f5 false true false false):=by
  refine returnsInHanded_of_change_sized (C:=Try.checked) own started (by kernel_rfl) Try.func5
    (ChangeSpec.witness6 (enc:=enc) (C:=Try.checked) false ⟨#[],#[.slice none 0 0,.agg #[.int .i64 0,.int .i64 0,.int .i64 0,.slice none 0 0],.int .i64 0],[]⟩ 12 (by kernel_rfl) (by kernel_rfl) (by kernel_rfl) (by kernel_rfl)) ?_
  intro W base args ds gs before hval0 hW hcnd hsz0 _
  have hsz:(DataW.weightsEach Try.prog (Try.f5.params.toList++Rows.storesSpec.plain.varTypes Try.prog) (ds++gs)).all (· <=reachBytes)=true:=hsz0
  have hval:∀(j:Nat) t v,Try.f5.params[j]? =some t->args[j]? =some v->Value.okWide Try.prog W .any base t v:=hval0
  have hW':=hW
  obtain⟨p,q,hA0,hV,rfl,hfz,hnd⟩:=hW
  have hA:DataW.TrodAll enc Try.prog W 0 (λ_=>true) true Try.f5.params.toList args.toList ds p:=hA0
  rw[Try.params5]at hA hval hsz
  obtain⟨v0,vs0,d0,ds0,p0,q0,hargs,rfl,rfl,h0,r0⟩:=trodAll_cons hA
  obtain⟨v1,vs1,d1,ds1,p1,q1,rfl,rfl,rfl,h1,r1⟩:=trodAll_cons r0
  obtain⟨v2,vs2,d2,ds2,p2,q2,rfl,rfl,rfl,h2,r2⟩:=trodAll_cons r1
  obtain⟨rfl,rfl,rfl⟩:=trodAll_nil r2
  obtain rfl:args=#[v0,v1,v2]:=by cases args;simp_all
  obtain⟨rfl,rfl⟩:=trodVars_none hV
  have k0:=h0
  have lt0:∀x∈p0,x.block<W.heap.size:=by obtain⟨m,hm⟩:=k0;exact DataW.trod_lt m _ _ _ hm
  obtain⟨B0,n0,c0,rfl⟩:=okWide_slice Try.underlying24 (hval 0 24 v0 rfl rfl)
  obtain⟨l0,w0,e0,hr0,hc0⟩:∃l,(l.length*48<=140737488351232/\l.length<=maxLen/\∀y∈l,R32 y)/\n0=l.length/\Kd.C k32 W B0 l.length l/\l.length<=c0:=by
    obtain⟨fuel,hf⟩:=h0
    have hf':DataW.trod enc Try.prog W 0 (λ_=>true) true fuel 24 [Value.slice B0 n0 c0]=some (d0,p0):=by simpa[Value.cells]using hf
    obtain⟨l,⟨A',c',e,lc,hC⟩,hR⟩:=(opn_slice (d:=k32) (B:=48) Try.underlying24 (by kernel_rfl) (by kernel_rfl) opn32) hf' (wt_arg hsz (j:=0) (t:=24) rfl rfl)
    simp only[List.cons.injEq,Value.slice.injEq,and_true]at e
    obtain⟨rfl,rfl,rfl⟩:=e
    exact⟨l,hR,rfl,hC,lc⟩
  subst e0
  have k1:=h1
  have lt1:∀x∈p1,x.block<W.heap.size:=by obtain⟨m,hm⟩:=k1;exact DataW.trod_lt m _ _ _ hm
  obtain⟨v1_0,v1_1,v1_2,v1_3,y1_0,y1_1,y1_2,y1_3,m1,rfl,rfl,rfl,g1_0,g1_1,g1_2,g1_3⟩:=open_agg4 Try.underlying32 (by kernel_rfl) (by kernel_rfl) (hval 1 32 v1 rfl rfl) h1
  obtain⟨a1_0,e1_0,w1_0⟩:=(opn_int Try.underlying3) g1_0 (wt_field (j:=0) (f:=3) Try.underlying32 (wt_arg hsz (j:=1) (t:=32) rfl rfl) rfl rfl)
  obtain rfl:v1_0=Value.int .i64 a1_0:=by have z: [v1_0]=[Value.int .i64 a1_0]:=e1_0;simpa using z
  obtain⟨a1_1,e1_1,w1_1⟩:=(opn_int Try.underlying3) g1_1 (wt_field (j:=1) (f:=3) Try.underlying32 (wt_arg hsz (j:=1) (t:=32) rfl rfl) rfl rfl)
  obtain rfl:v1_1=Value.int .i64 a1_1:=by have z: [v1_1]=[Value.int .i64 a1_1]:=e1_1;simpa using z
  obtain⟨a1_2,e1_2,w1_2⟩:=(opn_int Try.underlying3) g1_2 (wt_field (j:=2) (f:=3) Try.underlying32 (wt_arg hsz (j:=1) (t:=32) rfl rfl) rfl rfl)
  obtain rfl:v1_2=Value.int .i64 a1_2:=by have z: [v1_2]=[Value.int .i64 a1_2]:=e1_2;simpa using z
  obtain⟨l1_3,⟨A1_3,c1_3,e1_3,hc1_3,hr1_3⟩,w1_3⟩:=(opn_slice (d:=k56) (B:=16) Try.underlying30 (by kernel_rfl) (by kernel_rfl) opn56) g1_3 (wt_field (j:=3) (f:=30) Try.underlying32 (wt_arg hsz (j:=1) (t:=32) rfl rfl) rfl rfl)
  obtain rfl:v1_3=Value.slice A1_3 l1_3.length c1_3:=by simpa using e1_3
  obtain⟨a2,rfl,rfl,rfl,w2⟩:=open_int Try.underlying3 (hval 2 3 v2 rfl rfl) h2
  clear hA0 hval0 hsz0 hsz
  obtain⟨k,hP⟩:=Pure.Stores l0 a1_0 a1_1 a1_2 l1_3 a2 w0 w1_0 w1_1 w1_2 w1_3 w2
  refine(Q18.watchwordlaw18_Stores.calls k B0 c0 l0 a1_0 a1_1 a1_2 A1_3 c1_3 l1_3 a2 true W hr0 hc0 hr1_3 hc1_3 hP rfl).mono λe W' ⟨he,bel0⟩=>?_
  have bel:Below W.heap.size W W':=bel0
  subst he
  exact⟨_,rfl,_,_,_,[],_,[],hW',trodAll_mk1 (shut_bool Try.underlying4 _),(trodAll_cons_mk (Below.trod laidOut (by kernel_rfl) (of_decide_eq_true (by kernel_rfl)) k0 bel lt0) (trodAll_cons_mk (Below.trod laidOut (by kernel_rfl) (of_decide_eq_true (by kernel_rfl)) k1 bel lt1) (trodAll_cons_mk (shut_int Try.underlying3 w2) trodAll_mk0))),rfl,bel.frame _,λh=>by cases h⟩
theorem over:Rows.storesRow.holds Try.pinned (OpenSpec.ofChange Rows.storesSpec):=
  OpenClaim.holds_of_wide 5 Try.f5 rfl rfl rfl rfl rfl rfl rfl ⟨rfl,rfl,rfl,rfl,rfl⟩ rfl rfl rfl rfl rfl (by kernel_rfl) Try.func5 (by kernel_rfl)
    (of_decide_eq_true (by kernel_rfl)) (by unfold Func.isWrapper;first|(rw[if_pos (by decide+kernel)];kernel_rfl)|(rw[if_neg (by decide+kernel)];exact⟨rfl,rfl⟩))
    (λos started H enc _=>lifted os started H enc)
theorem proved:Rows.StoresSaid:=over
#print axioms proved
end Go.Proofs.Ytbpoflicphgokaa.stores
namespace Go.Proofs.Ytbpoflicphgokaa
theorem stores_holds:Rows.StoresSaid:=stores.proved
end Go.Proofs.Ytbpoflicphgokaa
