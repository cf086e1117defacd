/- Written by a program of this session (out of what the print wrote for this seat): the functions' walks, packed. -/
import Derived.Test.YtbajimbccbckkaaZ12kx4
namespace Go.Proofs.Ytbajimbccbckkaa.L12
open Go.RowKit Go.Proofs.YtbajimbccbckkaaW.PrintWords Go.Proofs.YtbajimbccbckkaaW.PrintLast Go.Proofs.YtbajimbccbckkaaW.PrintMore Go.Proofs.Ytbajimbccbckkaa.Base Go.Proofs.Ytbajimbccbckkaa.Q12k
set_option linter.unusedVariables false
set_option linter.unusedSimpArgs false
theorem none_two {α β:Type} (l:List α) (m:List β) (hl:l.length<=1000000000000000000) (hm:m.length<=1000000000000000000):(wrap64 ((l.length:Int)+(m.length:Int))==0)=decide (l=[]/\m=[]):=by
  rw[wrap_id (by omega) (by omega),<-nil_len,Bool.eq_iff_iff,beq_iff_eq,decide_eq_true_eq]
  omega
theorem ref_PkMay_f {t r:Int} {xs:List Int} {us:List S45} {hs:List S47} {M:Nat} (hx:xs.length<=1000000000000000000) (ha:us.length<=1000000000000000000) (hh:hs.length<=1000000000000000000)
    (hM:∀x∈us,x.f3.length<M) (hM2:M<=9223372036854775807) {k:Nat} (hk:xs.length+us.length+hs.length+M+60<k):watchwordref9_PacketMay.f k t r xs us hs=some (decide (PkOk t r xs us hs)):=by
  unfold watchwordref9_PacketMay.f
  rw[He.rh_router,Option.bind_some]
  by_cases hr:1<=r/\r<=4
  · rw[if_pos (decide_eq_true hr)]
    by_cases t1:t=1
    · subst t1
      rw[if_pos rfl,He.rh_May_f (show xs.length<=9223372036854775807 by omega) (show xs.length<k by omega),Option.bind_some]
      by_cases h:He.heard 0 xs=true
      · rw[if_pos h,none_two _ _ ha hh]
        refine congrArg some (decide_eq_decide.2 ⟨λz=>⟨hr,.inl ⟨rfl,h,z.1,z.2⟩⟩,λz=>?_⟩)
        rcases z.2 with z|z|z
        · exact⟨z.2.2.1,z.2.2.2⟩
        · exact absurd z.1 (by decide)
        · exact absurd z.1 (by decide)
      · rw[if_neg h]
        refine congrArg some (decide_eq_false λz=>?_).symm
        rcases z.2 with z|z|z
        · exact h z.2.1
        · exact absurd z.1 (by decide)
        · exact absurd z.1 (by decide)
    · rw[if_neg t1]
      by_cases t4:t=4
      · subst t4
        rw[if_pos rfl,ref_UpdMay_f (show us.length<=9223372036854775807 by omega) hM hM2 (show us.length+M+10<k by omega),Option.bind_some]
        by_cases h:upd 0 us=true
        · rw[if_pos h,none_two _ _ hx hh]
          refine congrArg some (decide_eq_decide.2 ⟨λz=>⟨hr,.inr (.inl ⟨rfl,h,z.1,z.2⟩)⟩,λz=>?_⟩)
          rcases z.2 with z|z|z
          · exact absurd z.1 (by decide)
          · exact⟨z.2.2.1,z.2.2.2⟩
          · exact absurd z.1 (by decide)
        · rw[if_neg h]
          refine congrArg some (decide_eq_false λz=>?_).symm
          rcases z.2 with z|z|z
          · exact absurd z.1 (by decide)
          · exact h z.2.1
          · exact absurd z.1 (by decide)
      · rw[if_neg t4]
        by_cases t5:t=5
        · subst t5
          rw[if_pos rfl,Ak.ref_AckMay_f (show hs.length<=9223372036854775807 by omega) (show hs.length<k by omega),Option.bind_some]
          by_cases h:Ak.heads 0 hs=true
          · rw[if_pos h,none_two _ _ hx ha]
            refine congrArg some (decide_eq_decide.2 ⟨λz=>⟨hr,.inr (.inr ⟨rfl,h,z.1,z.2⟩)⟩,λz=>?_⟩)
            rcases z.2 with z|z|z
            · exact absurd z.1 (by decide)
            · exact absurd z.1 (by decide)
            · exact⟨z.2.2.1,z.2.2.2⟩
          · rw[if_neg h]
            refine congrArg some (decide_eq_false λz=>?_).symm
            rcases z.2 with z|z|z
            · exact absurd z.1 (by decide)
            · exact absurd z.1 (by decide)
            · exact h z.2.1
        · rw[if_neg t5]
          refine congrArg some (decide_eq_false λz=>?_).symm
          rcases z.2 with z|z|z
          · exact t1 z.1
          · exact t4 z.1
          · exact t5 z.1
  · rw[if_neg (λz=>hr (of_decide_eq_true z))]
    exact congrArg some (decide_eq_false λz=>hr z.1).symm
theorem ref_PkPut_f {t r:Int} {xs:List Int} {us:List S45} {hs:List S47} {M:Nat} (hx:xs.length<=1000000000000000000) (ha:us.length<=1000000000000000000) (hh:hs.length<=1000000000000000000)
    (hM:∀x∈us,x.f3.length<M) (hM2:M<=9223372036854775807) {k:Nat} (hk:xs.length+us.length+hs.length+M+60<k):
    watchwordref9_PutPacket.f k t r xs us hs=some (if PkOk t r xs us hs then(strOfNums (pbytes t r xs us hs),0)else(⟨#[]⟩,1200)):=by
  unfold watchwordref9_PutPacket.f
  rw[ref_PkMay_f hx ha hh hM hM2 hk,Option.bind_some]
  by_cases hp:PkOk t r xs us hs
  · have hl:=plist_len hp
    have hd:=pk_head hp
    have hz:(strOfNums (plist t xs us hs)).size =(plist t xs us hs).length :=strOf_size _
    have hw:wrap64 (12+(((strOfNums (plist t xs us hs)).size :Nat):Int))=12+((plist t xs us hs).length :Int):=by rw[hz,wrap_id (by omega) (by omega)]
    rw[if_pos (decide_eq_true hp),if_pos hp,He.rh_Put_f (show xs.length<=9223372036854775807 by omega) (show xs.length<k by omega),Option.bind_some]
    have fin:∀s,s=strOfNums (plist t xs us hs)->((watchwordref1_PutHead.f k t r (wrap64 (12+((s.size:Nat):Int)))).bind λbt=>if bt.1.size+s.size<=9223372036854775807 then some (bt.1++s,(0:Int))else none)=some (strOfNums (pbytes t r xs us hs),0):=by
      rintro s rfl
      rw[hw,Hd.ref_PutHead_f (show 8<=k by omega),if_pos hd,Option.bind_some]
      simp only[strOf_size]
      rw[if_pos (by rw[Hd.hdr_len];omega),strOf_append];rfl
    rcases hp.2 with⟨rfl,h,_,_⟩|⟨rfl,h,_,_⟩|⟨rfl,h,_,_⟩
    · rw[if_neg (by decide),if_neg (by decide),if_pos h]
      exact fin _ rfl
    · rw[if_pos rfl,ref_PutUpd_f (show us.length<=9223372036854775807 by omega) hM hM2 (show us.length+M+10<k by omega) (show 50<=k by omega),if_pos h,Option.bind_some]
      exact fin _ rfl
    · rw[if_neg (by decide),if_pos rfl,Ak.ref_PutAck_f (show hs.length<=9223372036854775807 by omega) (show hs.length+10<k by omega),if_pos h,Option.bind_some]
      exact fin _ rfl
  · rw[if_neg (λz=>hp (of_decide_eq_true z)),if_neg hp]
theorem ref_PkGet_f {a:ByteArray} (hs:a.size<=140737488355328) {k:Nat} (hk:2001<=k):watchwordref9_GetPacket.f k a=some (tellP (getPkt (B a))):=by
  obtain⟨k,rfl⟩:∃m,k=m+1:=⟨k-1,by omega⟩
  have hbl:=B_len a
  have hby:Byt ((B a).drop 12):=λx hx=>B_byt a x (List.mem_of_mem_drop hx)
  unfold watchwordref9_GetPacket.f getPkt
  rw[Hd.ref_GetHead_f (by omega),Option.bind_some]
  by_cases h0:(Hd.getHead (B a)).2.2.2 =0
  · rw[if_pos h0]
    obtain⟨g1,g2,g3⟩:=getHead_ok h0
    by_cases h1:(Hd.getHead (B a)).2.2.1 =(a.size:Int)
    · rw[show((Hd.getHead (B a)).2.2.1 !=(a.size:Int))=false from by rw[h1];exact bne_self_eq_false _,if_pos (⟨h0,by rw[h1,hbl]⟩:(Hd.getHead (B a)).2.2.2 =0/\(Hd.getHead (B a)).2.2.1 =((B a).length :Int))]
      have hz:a.size<=512:=by have:=g1.2.2.2.2;omega
      have hz1:(12:Int)<=(a.size:Int):=by omega
      have hz2:(a.extract 12 a.size).size <=512:=by rw[size_tail];omega
      simp only[watchwordref9_GetPacket.j0,Bool.false_eq_true,if_false]
      rw[if_pos hz1,if_pos hz1,if_pos hz1]
      generalize Hd.getHead (B a)=g at*
      by_cases h2:g.1=1
      · rw[if_pos h2,if_pos h2,He.rh_Get_f (show(a.extract 12 a.size).size <=17592186044415 by omega) (show 2*(a.extract 12 a.size).size +5<k by omega),Option.bind_some,B_tail]
        by_cases h3:(He.getHello ((B a).drop 12)).2 =0
        · rw[if_pos h3,if_pos h3];rfl
        · rw[if_neg h3,if_neg h3];rfl
      rw[if_neg h2,if_neg h2]
      by_cases h4:g.1=4
      · rw[if_pos h4,if_pos h4,ref_GetUpd_f (show(a.extract 12 a.size).size <=281474976710656 by omega) (show 1500<=k by omega),Option.bind_some,B_tail,refUpd_eq hby]
        cases hg:getUpd ((B a).drop 12)with
        |none=>simp only[tellU];exact(if_neg (show ¬((1000:Int)=0)by decide)).trans rfl
        |some out=>simp only[tellU,if_true];rfl
      rw[if_neg h4,if_neg h4,Ak.ref_GetAck_f (show(a.extract 12 a.size).size <=140737488351232 by omega) (show 700<=k by omega),Option.bind_some,B_tail,Ak.refAck_eq hby]
      by_cases h3:(Ak.getAck ((B a).drop 12)).2 =0
      · rw[if_pos h3,if_pos h3];rfl
      · rw[if_neg h3,if_neg h3];rfl
    · rw[show((Hd.getHead (B a)).2.2.1 !=(a.size:Int))=true from bne_iff_ne.mpr h1,if_neg (λhh:(Hd.getHead (B a)).2.2.2 =0/\(Hd.getHead (B a)).2.2.1 =((B a).length :Int)=>h1 (by rw[hh.2,hbl]))]
      simp only[watchwordref9_GetPacket.j0,if_true];rfl
  · rw[if_neg h0,if_neg (λhh:(Hd.getHead (B a)).2.2.2 =0/\(Hd.getHead (B a)).2.2.1 =((B a).length :Int)=>h0 hh.1)]
    simp only[watchwordref9_GetPacket.j0,if_true];rfl
end Go.Proofs.Ytbajimbccbckkaa.L12
namespace Go.Proofs.Ytbajimbccbckkaa.Opn
open Go.RowKit Go.Proofs.YtbajimbccbckkaaW.PrintWords Go.Proofs.YtbajimbccbckkaaW.PrintLast Go.Proofs.YtbajimbccbckkaaW.PrintMore
open Go.Joins Go.ChangeShapes Go.WideShapes Go.Deep
set_option linter.unusedVariables false
def Opn {α:Type} (P:Program) (t:TypeId) (d:Kd α) (R:α->Prop):Prop:=
  ∀ {H:Type} {enc:TypeId × Value->H} {w:World} {base:Nat} {spare:Nat->Bool} {held:Bool} {fuel:Nat} {cs:List Value} {x:DataW H × List MemPlace},
    DataW.trod enc P w base spare held fuel t cs=some x->(∀n∈x.1.weights P t,n<=reachBytes)->∃a,d.K w a cs/\R a
theorem opn_int {P:Program} {t:TypeId} {k:IntKind} (ht:P.underlying t=some (.int k)):Opn P t (Kd.int k) (λa=>(Lit.int k a).wf =true):=by
  intro H enc w base spare held fuel cs x h _
  obtain⟨a,rfl,rfl,wa⟩:=DataW.trod_int ht h
  exact⟨a,rfl,wa⟩
theorem opn_string {P:Program} {t:TypeId} (ht:P.underlying t=some .string):Opn P t Kd.string (λs=>s.size<=140737488351232):=by
  intro H enc w base spare held fuel cs x h hw
  obtain⟨s,rfl,rfl,hs⟩:=DataW.trod_string ht h
  refine⟨s,rfl,?_⟩
  have:=hw s.data.toList.length (by simp[DataW.weights])
  rw[Array.length_toList]at this
  exact this
theorem cells_at {w:World} {base:Nat} {a:Addr} {n:Nat} {cs:List Value} (h:w.cells? base a n=some cs):∀i u,cs[i]? =some u->w.cell? (a.add i)=some u:=by
  obtain⟨_,hl,hat⟩:=World.cells?_some h
  intro i u hu
  have hi:i<n:=by have:=(List.getElem?_eq_some_iff.1 hu).1;omega
  rw[hat i hi];exact hu
theorem opn_slice {α:Type} {P:Program} {t e:TypeId} {d:Kd α} {R:α->Prop} {B:Nat} (ht:P.underlying t=some (.slice e)) (hc:P.cellsOf e=d.sz) (hB:P.bytesOf e=B) (ho:Opn P e d R):
    Opn P t (Kd.slice e d) (λl=>l.length*B<=140737488351232/\l.length<=maxLen/\∀a∈l,R a):=by
  intro H enc w base spare held fuel cs x h hw
  rcases open_slice ht h with⟨rfl,rfl⟩|⟨ad,len,cap,m,n,D,Pl,rfl,hb,hl,hm,hmm,rfl,hi⟩
  · exact⟨[],⟨none,0,rfl,Nat.le_refl _,rfl,by simp,λh=>absurd h (by simp)⟩,by simp,by simp[maxLen],λa ha=>by cases ha⟩
  · have hlm:len<=m:=by rw[hmm];split <;> omega
    have hwt:∀i,i<len->∀n∈(D i).weights P e,n<=reachBytes:=by
      intro i hi' n hn
      refine hw n ?_
      simp only[DataW.weights,ht,List.mem_cons,List.mem_append]
      refine Or.inr (Or.inl ?_)
      have key:∀(l:List (DataW H)) (y:DataW H),y∈l->∀n∈y.weights P e,n∈DataW.weightsAll P e l:=by
        intro l
        induction l with
        |nil=>intro y hy;cases hy
        | cons z l ih=>
          intro y hy n hn
          simp only[DataW.weightsAll,List.mem_append]
          rcases List.mem_cons.mp hy with rfl|hy
          · exact Or.inl hn
          · exact Or.inr (ih y hy n hn)
      exact key _ (D i) (List.mem_map.mpr ⟨i,by simpa using hi',rfl⟩) n hn
    have hex:∀i,i<len->∃a cs',d.K w a cs'/\R a/\w.cells? base (ad.add (i*P.cellsOf e)) (P.cellsOf e)=some cs':=by
      intro i hi'
      obtain⟨cs',h1,h2⟩:=hi i (by omega)
      obtain⟨a,hK,hR⟩:=ho h2 (hwt i hi')
      exact⟨a,cs',hK,hR,h1⟩
    have hw0:len*B<=reachBytes:=by
      have:=hw ((((List.range len).map D).length +((List.range (m-len)).map λj=>D (len+j)).length)*P.bytesOf e) (by simp[DataW.weights,ht])
      rw[hB]at this
      simp only[List.length_map,List.length_range]at this
      exact Nat.le_trans (Nat.mul_le_mul_right _ (by omega)) this
    obtain⟨l,hll,hl2⟩:∃l:List α,l.length=len/\∀i a,l[i]? =some a->∃cs',d.K w a cs'/\R a/\w.cells? base (ad.add (i*P.cellsOf e)) (P.cellsOf e)=some cs':=by
      clear hw0 hwt hw hlm hmm hm hl hi h
      induction len with
      |zero=>exact⟨[],rfl,λi a h=>by simp at h⟩
      | succ k ih=>
        obtain⟨l,hll,hl2⟩:=ih (λi hi'=>hex i (by omega))
        obtain⟨a,cs',h1,h2,h3⟩:=hex k (by omega)
        refine⟨l++[a],by simp[hll],λi b hb=>?_⟩
        by_cases hik:i<l.length
        · rw[List.getElem?_append_left hik]at hb
          exact hl2 i b hb
        · have hlt:=(List.getElem?_eq_some_iff.1 hb).1
          rw[List.length_append,List.length_singleton]at hlt
          have:i=l.length:=by omega
          subst this
          rw[List.getElem?_append_right (Nat.le_refl _)]at hb
          simp at hb
          subst hb
          rw[hll]
          exact⟨cs',h1,h2,h3⟩
    have hmax:len<=maxLen:=Nat.le_trans hl hm
    refine⟨l,⟨some ad,cap,by rw[hll],by omega,⟨rfl,by rw[hll];unfold maxLen at hmax;omega,λ_=>⟨ad,rfl,λj p hj=>?_⟩⟩⟩,by rw[hll];exact hw0,by rw[hll];exact hmax,λa ha=>?_⟩
    · obtain⟨cs',h1,_,h3⟩:=hl2 j p hj
      refine⟨cs',d.K_len h1,h1,λi u hu=>?_⟩
      have:=cells_at h3 i u hu
      rw[Go.Deep.add_add,hc]at this
      exact this
    · obtain⟨i,hi',rfl⟩:=List.mem_iff_getElem.mp ha
      obtain⟨_,_,hR,_⟩:=hl2 i _ (List.getElem?_eq_getElem hi')
      exact hR
theorem wt_field {H:Type} {P:Program} {t f:TypeId} {fs:Array Field} {parts:List (DataW H)} {y:DataW H} {j:Nat} (ht:P.underlying t=some (.struct fs)) (hw:∀n∈(DataW.agg parts).weights P t,n<=reachBytes)
    (hf:(fs.toList.map (·.type))[j]? =some f) (hy:parts[j]? =some y):∀n∈y.weights P f,n<=reachBytes:=by
  intro n hn
  refine hw n ?_
  simp only[DataW.weights,ht]
  exact DataW.weights_mem_each hf hy n hn
theorem wt_arg {H:Type} {P:Program} {ts:List TypeId} {ds:List (DataW H)} {j:Nat} {t:TypeId} {d:DataW H} (h:(DataW.weightsEach P ts ds).all (· <=reachBytes)=true) (ht:ts[j]? =some t) (hd:ds[j]? =some d):∀n∈d.weights P t,n<=reachBytes:=by
  intro n hn
  have:=List.all_eq_true.1 h _ (DataW.weights_mem_each ht hd n hn)
  simpa using this
section
variable {H : Type} {enc : TypeId × Value → H} {P : Program} {w : World} {base : Nat} {spare : Nat → Bool} {held : Bool}
theorem open_agg5 {r:Reach} {b0:Nat} {t:TypeId} {f0 f1 f2 f3 f4:Field} {v:Value} {d:DataW H} {p:List MemPlace} (hs:P.underlying t=some (.struct #[f0,f1,f2,f3,f4])) (hone:oneCellFields P #[f0,f1,f2,f3,f4]=true) (hC:P.cellsOf t=5)
    (hv:Value.okWide P w r b0 t v) (h:DataW.Trod enc P w base spare held t v d p):
    ∃ (v0 v1 v2 v3 v4:Value) (y0 y1 y2 y3 y4:DataW H × List MemPlace) (n:Nat),v= .agg #[v0,v1,v2,v3,v4]/\d= .agg [y0.1,y1.1,y2.1,y3.1,y4.1]/\p=y0.2++(y1.2++(y2.2++(y3.2++y4.2)))/\
      DataW.trod enc P w base spare held n f0.type [v0]=some y0/\DataW.trod enc P w base spare held n f1.type [v1]=some y1/\DataW.trod enc P w base spare held n f2.type [v2]=some y2/\DataW.trod enc P w base spare held n f3.type [v3]=some y3/\DataW.trod enc P w base spare held n f4.type [v4]=some y4:=by
  obtain⟨cs,rfl,hsz⟩:=okWide_struct hs hv
  obtain⟨l⟩:=cs
  match l,hsz.trans hC with
  | [c0,c1,c2,c3,c4],_=>
    obtain⟨fuel,hf⟩:=h
    obtain⟨xs,n,_,hx,_,hlen,hg⟩:=DataW.trod_struct hs hf
    obtain⟨o0,k0⟩:=hone_of hone 0 f0 rfl
    obtain⟨o1,k1⟩:=hone_of hone 1 f1 rfl
    obtain⟨o2,k2⟩:=hone_of hone 2 f2 rfl
    obtain⟨o3,k3⟩:=hone_of hone 3 f3 rfl
    obtain⟨o4,k4⟩:=hone_of hone 4 f4 rfl
    match xs,hlen with
    | [y0,y1,y2,y3,y4],_=>
      simp only[Prod.mk.injEq]at hx
      exact⟨c0,c1,c2,c3,c4,y0,y1,y2,y3,y4,n,rfl,by simpa using hx.1,by simpa using hx.2,by simpa[Value.cells,o0,k0]using hg 0 f0 rfl,by simpa[Value.cells,o1,k1]using hg 1 f1 rfl,by simpa[Value.cells,o2,k2]using hg 2 f2 rfl,by simpa[Value.cells,o3,k3]using hg 3 f3 rfl,by simpa[Value.cells,o4,k4]using hg 4 f4 rfl⟩
theorem open_agg6 {r:Reach} {b0:Nat} {t:TypeId} {f0 f1 f2 f3 f4 f5:Field} {v:Value} {d:DataW H} {p:List MemPlace} (hs:P.underlying t=some (.struct #[f0,f1,f2,f3,f4,f5])) (hone:oneCellFields P #[f0,f1,f2,f3,f4,f5]=true) (hC:P.cellsOf t=6)
    (hv:Value.okWide P w r b0 t v) (h:DataW.Trod enc P w base spare held t v d p):
    ∃ (v0 v1 v2 v3 v4 v5:Value) (y0 y1 y2 y3 y4 y5:DataW H × List MemPlace) (n:Nat),v= .agg #[v0,v1,v2,v3,v4,v5]/\d= .agg [y0.1,y1.1,y2.1,y3.1,y4.1,y5.1]/\p=y0.2++(y1.2++(y2.2++(y3.2++(y4.2++y5.2))))/\
      DataW.trod enc P w base spare held n f0.type [v0]=some y0/\DataW.trod enc P w base spare held n f1.type [v1]=some y1/\DataW.trod enc P w base spare held n f2.type [v2]=some y2/\DataW.trod enc P w base spare held n f3.type [v3]=some y3/\DataW.trod enc P w base spare held n f4.type [v4]=some y4/\DataW.trod enc P w base spare held n f5.type [v5]=some y5:=by
  obtain⟨cs,rfl,hsz⟩:=okWide_struct hs hv
  obtain⟨l⟩:=cs
  match l,hsz.trans hC with
  | [c0,c1,c2,c3,c4,c5],_=>
    obtain⟨fuel,hf⟩:=h
    obtain⟨xs,n,_,hx,_,hlen,hg⟩:=DataW.trod_struct hs hf
    obtain⟨o0,k0⟩:=hone_of hone 0 f0 rfl
    obtain⟨o1,k1⟩:=hone_of hone 1 f1 rfl
    obtain⟨o2,k2⟩:=hone_of hone 2 f2 rfl
    obtain⟨o3,k3⟩:=hone_of hone 3 f3 rfl
    obtain⟨o4,k4⟩:=hone_of hone 4 f4 rfl
    obtain⟨o5,k5⟩:=hone_of hone 5 f5 rfl
    match xs,hlen with
    | [y0,y1,y2,y3,y4,y5],_=>
      simp only[Prod.mk.injEq]at hx
      exact⟨c0,c1,c2,c3,c4,c5,y0,y1,y2,y3,y4,y5,n,rfl,by simpa using hx.1,by simpa using hx.2,by simpa[Value.cells,o0,k0]using hg 0 f0 rfl,by simpa[Value.cells,o1,k1]using hg 1 f1 rfl,by simpa[Value.cells,o2,k2]using hg 2 f2 rfl,by simpa[Value.cells,o3,k3]using hg 3 f3 rfl,by simpa[Value.cells,o4,k4]using hg 4 f4 rfl,by simpa[Value.cells,o5,k5]using hg 5 f5 rfl⟩
end
end Go.Proofs.Ytbajimbccbckkaa.Opn
namespace Go.Proofs.Ytbajimbccbckkaa.O12k
open Go.RowKit Go.Proofs.YtbajimbccbckkaaW.PrintWords Go.Proofs.YtbajimbccbckkaaW.PrintLast Go.Proofs.YtbajimbccbckkaaW.PrintMore Go.Proofs.Ytbajimbccbckkaa.Opn Go.Proofs.Ytbajimbccbckkaa.Q12k
open Go.Joins Go.ChangeShapes Go.WideShapes Go.Deep
set_option linter.unusedVariables false
def R109 (x:S109):Prop:=(Lit.int .i64 x.f0).wf =true/\(Lit.int .i64 x.f1).wf =true
set_option maxRecDepth 100000 in
theorem opn109:Opn Try.prog 109 k109 R109:=by
  intro H enc w base spare held fuel cs x h hw
  obtain⟨xs,n,_,rfl,hl,hlen,hf⟩:=DataW.trod_struct Try.underlying109 h
  have hl':cs.length=2:=hl.trans (by kernel_rfl)
  match cs,hl',xs,hlen with
  | [c0,c1],_,[y0,y1],_=>
    have g0:DataW.trod enc Try.prog w base spare held n 3 [c0]=some y0:=by
      have hk:Try.prog.cellsOf 3=1:=by kernel_rfl
      have z:DataW.trod enc Try.prog w base spare held n 3 ((([c0,c1]:List Value).drop 0).take (Try.prog.cellsOf 3))=some y0:=hf 0 _ rfl
      rw[hk]at z
      exact z
    obtain⟨a0,e0,r0⟩:=(opn_int Try.underlying3) g0 (wt_field (j:=0) Try.underlying109 hw rfl rfl)
    have g1:DataW.trod enc Try.prog w base spare held n 3 [c1]=some y1:=by
      have hk:Try.prog.cellsOf 3=1:=by kernel_rfl
      have z:DataW.trod enc Try.prog w base spare held n 3 ((([c0,c1]:List Value).drop 1).take (Try.prog.cellsOf 3))=some y1:=hf 1 _ rfl
      rw[hk]at z
      exact z
    obtain⟨a1,e1,r1⟩:=(opn_int Try.underlying3) g1 (wt_field (j:=1) Try.underlying109 hw rfl rfl)
    exact⟨⟨a0,a1⟩,⟨[c0],[c1],rfl,e0,e1⟩,⟨r0,r1⟩⟩
def R45 (x:S45):Prop:=(Lit.int .i64 x.f0).wf =true/\(Lit.int .i64 x.f1).wf =true/\(Lit.int .i64 x.f2).wf =true/\(x.f3.length*16<=140737488351232/\x.f3.length<=maxLen/\∀y∈x.f3,R109 y)
set_option maxRecDepth 100000 in
theorem opn45:Opn Try.prog 45 k45 R45:=by
  intro H enc w base spare held fuel cs x h hw
  obtain⟨xs,n,_,rfl,hl,hlen,hf⟩:=DataW.trod_struct Try.underlying45 h
  have hl':cs.length=4:=hl.trans (by kernel_rfl)
  match cs,hl',xs,hlen with
  | [c0,c1,c2,c3],_,[y0,y1,y2,y3],_=>
    have g0:DataW.trod enc Try.prog w base spare held n 3 [c0]=some y0:=by
      have hk:Try.prog.cellsOf 3=1:=by kernel_rfl
      have z:DataW.trod enc Try.prog w base spare held n 3 ((([c0,c1,c2,c3]:List Value).drop 0).take (Try.prog.cellsOf 3))=some y0:=hf 0 _ rfl
      rw[hk]at z
      exact z
    obtain⟨a0,e0,r0⟩:=(opn_int Try.underlying3) g0 (wt_field (j:=0) Try.underlying45 hw rfl rfl)
    have g1:DataW.trod enc Try.prog w base spare held n 3 [c1]=some y1:=by
      have hk:Try.prog.cellsOf 3=1:=by kernel_rfl
      have z:DataW.trod enc Try.prog w base spare held n 3 ((([c0,c1,c2,c3]:List Value).drop 1).take (Try.prog.cellsOf 3))=some y1:=hf 1 _ rfl
      rw[hk]at z
      exact z
    obtain⟨a1,e1,r1⟩:=(opn_int Try.underlying3) g1 (wt_field (j:=1) Try.underlying45 hw rfl rfl)
    have g2:DataW.trod enc Try.prog w base spare held n 3 [c2]=some y2:=by
      have hk:Try.prog.cellsOf 3=1:=by kernel_rfl
      have z:DataW.trod enc Try.prog w base spare held n 3 ((([c0,c1,c2,c3]:List Value).drop 2).take (Try.prog.cellsOf 3))=some y2:=hf 2 _ rfl
      rw[hk]at z
      exact z
    obtain⟨a2,e2,r2⟩:=(opn_int Try.underlying3) g2 (wt_field (j:=2) Try.underlying45 hw rfl rfl)
    have g3:DataW.trod enc Try.prog w base spare held n 43 [c3]=some y3:=by
      have hk:Try.prog.cellsOf 43=1:=by kernel_rfl
      have z:DataW.trod enc Try.prog w base spare held n 43 ((([c0,c1,c2,c3]:List Value).drop 3).take (Try.prog.cellsOf 43))=some y3:=hf 3 _ rfl
      rw[hk]at z
      exact z
    obtain⟨a3,e3,r3⟩:=(opn_slice (d:=k109) (B:=16) Try.underlying43 (by kernel_rfl) (by kernel_rfl) opn109) g3 (wt_field (j:=3) Try.underlying45 hw rfl rfl)
    exact⟨⟨a0,a1,a2,a3⟩,⟨[c0],[c1,c2,c3],rfl,e0,⟨[c1],[c2,c3],rfl,e1,⟨[c2],[c3],rfl,e2,e3⟩⟩⟩,⟨r0,r1,r2,r3⟩⟩
def R47 (x:S47):Prop:=(Lit.int .i64 x.f0).wf =true/\(Lit.int .i64 x.f1).wf =true/\(Lit.int .i64 x.f2).wf =true/\(Lit.int .i64 x.f3).wf =true
set_option maxRecDepth 100000 in
theorem opn47:Opn Try.prog 47 k47 R47:=by
  intro H enc w base spare held fuel cs x h hw
  obtain⟨xs,n,_,rfl,hl,hlen,hf⟩:=DataW.trod_struct Try.underlying47 h
  have hl':cs.length=4:=hl.trans (by kernel_rfl)
  match cs,hl',xs,hlen with
  | [c0,c1,c2,c3],_,[y0,y1,y2,y3],_=>
    have g0:DataW.trod enc Try.prog w base spare held n 3 [c0]=some y0:=by
      have hk:Try.prog.cellsOf 3=1:=by kernel_rfl
      have z:DataW.trod enc Try.prog w base spare held n 3 ((([c0,c1,c2,c3]:List Value).drop 0).take (Try.prog.cellsOf 3))=some y0:=hf 0 _ rfl
      rw[hk]at z
      exact z
    obtain⟨a0,e0,r0⟩:=(opn_int Try.underlying3) g0 (wt_field (j:=0) Try.underlying47 hw rfl rfl)
    have g1:DataW.trod enc Try.prog w base spare held n 3 [c1]=some y1:=by
      have hk:Try.prog.cellsOf 3=1:=by kernel_rfl
      have z:DataW.trod enc Try.prog w base spare held n 3 ((([c0,c1,c2,c3]:List Value).drop 1).take (Try.prog.cellsOf 3))=some y1:=hf 1 _ rfl
      rw[hk]at z
      exact z
    obtain⟨a1,e1,r1⟩:=(opn_int Try.underlying3) g1 (wt_field (j:=1) Try.underlying47 hw rfl rfl)
    have g2:DataW.trod enc Try.prog w base spare held n 3 [c2]=some y2:=by
      have hk:Try.prog.cellsOf 3=1:=by kernel_rfl
      have z:DataW.trod enc Try.prog w base spare held n 3 ((([c0,c1,c2,c3]:List Value).drop 2).take (Try.prog.cellsOf 3))=some y2:=hf 2 _ rfl
      rw[hk]at z
      exact z
    obtain⟨a2,e2,r2⟩:=(opn_int Try.underlying3) g2 (wt_field (j:=2) Try.underlying47 hw rfl rfl)
    have g3:DataW.trod enc Try.prog w base spare held n 3 [c3]=some y3:=by
      have hk:Try.prog.cellsOf 3=1:=by kernel_rfl
      have z:DataW.trod enc Try.prog w base spare held n 3 ((([c0,c1,c2,c3]:List Value).drop 3).take (Try.prog.cellsOf 3))=some y3:=hf 3 _ rfl
      rw[hk]at z
      exact z
    obtain⟨a3,e3,r3⟩:=(opn_int Try.underlying3) g3 (wt_field (j:=3) Try.underlying47 hw rfl rfl)
    exact⟨⟨a0,a1,a2,a3⟩,⟨[c0],[c1,c2,c3],rfl,e0,⟨[c1],[c2,c3],rfl,e1,⟨[c2],[c3],rfl,e2,e3⟩⟩⟩,⟨r0,r1,r2,r3⟩⟩
end Go.Proofs.Ytbajimbccbckkaa.O12k
