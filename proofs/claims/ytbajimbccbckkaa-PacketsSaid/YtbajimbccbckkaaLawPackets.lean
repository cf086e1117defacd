/- The row of Packets, out of its plain statement (Pure.Packets) and the printed contract. -/
import Derived.Test.YtbajimbccbckkaaRows
import Derived.Test.YtbajimbccbckkaaZ12kx4
import Derived.Test.YtbajimbccbckkaaZ12kx5
import Derived.Test.YtbajimbccbckkaaPurePackets
import Derived.WalkKit
import Derived.ProofKit
import Derived.OpenShut
import Derived.ShutString
import Derived.ChangeOld
import Derived.Below
import Derived.SizedLaws
namespace Go.Proofs.Ytbajimbccbckkaa.packets
open Go.ChangeShapes Go.WideShapes Go.ChangeAt Go.RowKit Go.Joins Go.Deep Go.Proofs.YtbajimbccbckkaaW.PrintWords Go.Proofs.Ytbajimbccbckkaa.Opn Go.Proofs.Ytbajimbccbckkaa.O12k Go.Proofs.Ytbajimbccbckkaa.Q12k
open Go.ChangeMaps (open_string shut_string)
set_option linter.unusedVariables false
theorem own:ownKnob Try.prog.godebug=none:=by kernel_rfl
theorem laidOut:laidOutB Try.prog=true:=by kernel_rfl
set_option maxRecDepth 100000 in
theorem lifted (os:Os) (started:os.Started) (H:Type) (enc:TypeId × Value->H):
    ReturnsInHanded {} Try.checked os 3 .any (Rows.packetsSpec.pre6 enc Try.prog Try.f3 Rows.packetsRow.domain false) (Rows.packetsSpec.post enc Try.prog Try.f3 false true false false):=by
  refine returnsInHanded_of_change_sized (C:=Try.checked) own started (by kernel_rfl) Try.func3
    (ChangeSpec.witness6 (enc:=enc) (C:=Try.checked) false ⟨#[],#[.agg #[.int .i64 0,.int .i64 0,.slice none 0 0,.slice none 0 0,.slice none 0 0],.string ByteArray.empty],[]⟩ 12 (by kernel_rfl) (by kernel_rfl) (by kernel_rfl) (by kernel_rfl)) ?_
  intro W base args ds gs before hval0 hW hcnd hsz0 _
  have hsz:(DataW.weightsEach Try.prog (Try.f3.params.toList++Rows.packetsSpec.plain.varTypes Try.prog) (ds++gs)).all (· <=reachBytes)=true:=hsz0
  have hval:∀(j:Nat) t v,Try.f3.params[j]? =some t->args[j]? =some v->Value.okWide Try.prog W .any base t v:=hval0
  have hW':=hW
  obtain⟨p,q,hA0,hV,rfl,hfz,hnd⟩:=hW
  have hA:DataW.TrodAll enc Try.prog W 0 (λ_=>true) true Try.f3.params.toList args.toList ds p:=hA0
  rw[Try.params3]at hA hval hsz
  obtain⟨v0,vs0,d0,ds0,p0,q0,hargs,rfl,rfl,h0,r0⟩:=trodAll_cons hA
  obtain⟨v1,vs1,d1,ds1,p1,q1,rfl,rfl,rfl,h1,r1⟩:=trodAll_cons r0
  obtain⟨rfl,rfl,rfl⟩:=trodAll_nil r1
  obtain rfl:args=#[v0,v1]:=by cases args;simp_all
  obtain⟨rfl,rfl⟩:=trodVars_none hV
  have k0:=h0
  have lt0:∀x∈p0,x.block<W.heap.size:=by obtain⟨m,hm⟩:=k0;exact DataW.trod_lt m _ _ _ hm
  obtain⟨v0_0,v0_1,v0_2,v0_3,v0_4,y0_0,y0_1,y0_2,y0_3,y0_4,m0,rfl,rfl,rfl,g0_0,g0_1,g0_2,g0_3,g0_4⟩:=open_agg5 Try.underlying26 (by kernel_rfl) (by kernel_rfl) (hval 0 26 v0 rfl rfl) h0
  obtain⟨a0_0,e0_0,w0_0⟩:=(opn_int Try.underlying3) g0_0 (wt_field (j:=0) (f:=3) Try.underlying26 (wt_arg hsz (j:=0) (t:=26) rfl rfl) rfl rfl)
  obtain rfl:v0_0=Value.int .i64 a0_0:=by have z: [v0_0]=[Value.int .i64 a0_0]:=e0_0;simpa using z
  obtain⟨a0_1,e0_1,w0_1⟩:=(opn_int Try.underlying3) g0_1 (wt_field (j:=1) (f:=3) Try.underlying26 (wt_arg hsz (j:=0) (t:=26) rfl rfl) rfl rfl)
  obtain rfl:v0_1=Value.int .i64 a0_1:=by have z: [v0_1]=[Value.int .i64 a0_1]:=e0_1;simpa using z
  obtain⟨l0_2,⟨A0_2,c0_2,e0_2,hc0_2,hr0_2⟩,w0_2⟩:=(opn_slice (d:=(Kd.int .i64)) (B:=8) Try.underlying22 (by kernel_rfl) (by kernel_rfl) (opn_int Try.underlying3)) g0_2 (wt_field (j:=2) (f:=22) Try.underlying26 (wt_arg hsz (j:=0) (t:=26) rfl rfl) rfl rfl)
  obtain rfl:v0_2=Value.slice A0_2 l0_2.length c0_2:=by simpa using e0_2
  obtain⟨l0_3,⟨A0_3,c0_3,e0_3,hc0_3,hr0_3⟩,w0_3⟩:=(opn_slice (d:=k45) (B:=48) Try.underlying23 (by kernel_rfl) (by kernel_rfl) opn45) g0_3 (wt_field (j:=3) (f:=23) Try.underlying26 (wt_arg hsz (j:=0) (t:=26) rfl rfl) rfl rfl)
  obtain rfl:v0_3=Value.slice A0_3 l0_3.length c0_3:=by simpa using e0_3
  obtain⟨l0_4,⟨A0_4,c0_4,e0_4,hc0_4,hr0_4⟩,w0_4⟩:=(opn_slice (d:=k47) (B:=32) Try.underlying24 (by kernel_rfl) (by kernel_rfl) opn47) g0_4 (wt_field (j:=4) (f:=24) Try.underlying26 (wt_arg hsz (j:=0) (t:=26) rfl rfl) rfl rfl)
  obtain rfl:v0_4=Value.slice A0_4 l0_4.length c0_4:=by simpa using e0_4
  obtain⟨a1,rfl,rfl,rfl,y1⟩:=open_string Try.underlying9 (hval 1 9 v1 rfl rfl) h1
  have w1:a1.size<=140737488351232:=by
    have z:=sized_string hsz (j:=1) (t:=9) rfl rfl
    rw[Array.length_toList]at z
    exact z
  clear hA0 hval0 hsz0 hsz
  obtain⟨k,hP⟩:=Pure.Packets a0_0 a0_1 l0_2 l0_3 l0_4 a1 w0_0 w0_1 w0_2 w0_3 w0_4 w1
  refine(Q12k.watchwordlaw12_Packets.calls k a0_0 a0_1 A0_2 c0_2 l0_2 A0_3 c0_3 l0_3 A0_4 c0_4 l0_4 a1 true W hr0_2 hc0_2 hr0_3 hc0_3 hr0_4 hc0_4 hP rfl).mono λe W' ⟨he,bel0⟩=>?_
  have bel:Below W.heap.size W W':=bel0
  subst he
  exact⟨_,rfl,_,_,_,[],_,[],hW',trodAll_mk1 (shut_bool Try.underlying4 _),(trodAll_cons_mk (Below.trod laidOut (by kernel_rfl) (of_decide_eq_true (by kernel_rfl)) k0 bel lt0) (trodAll_cons_mk (shut_string Try.underlying9 y1) trodAll_mk0)),rfl,bel.frame _,λh=>by cases h⟩
theorem over:Rows.packetsRow.holds Try.pinned (OpenSpec.ofChange Rows.packetsSpec):=
  OpenClaim.holds_of_wide 3 Try.f3 rfl rfl rfl rfl rfl rfl rfl ⟨rfl,rfl,rfl,rfl,rfl⟩ rfl rfl rfl rfl rfl (by kernel_rfl) Try.func3 (by kernel_rfl)
    (of_decide_eq_true (by kernel_rfl)) (by unfold Func.isWrapper;first|(rw[if_pos (by decide+kernel)];kernel_rfl)|(rw[if_neg (by decide+kernel)];exact⟨rfl,rfl⟩))
    (λos started H enc _=>lifted os started H enc)
theorem proved:Rows.PacketsSaid:=over
#print axioms proved
end Go.Proofs.Ytbajimbccbckkaa.packets
namespace Go.Proofs.Ytbajimbccbckkaa
theorem packets_holds:Rows.PacketsSaid:=packets.proved
end Go.Proofs.Ytbajimbccbckkaa
