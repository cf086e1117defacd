/- Packets: the code's packets are the document's; no condition beyond the row's own. -/
import Derived.Test.YtbajimbccbckkaaZ12kx4
import Derived.Test.YtbajimbccbckkaaZ12kx5
namespace Go.Proofs.Ytbajimbccbckkaa.Pure
open Go.RowKit Go.Proofs.YtbajimbccbckkaaW.PrintWords Go.Proofs.YtbajimbccbckkaaW.PrintLast Go.Proofs.YtbajimbccbckkaaW.PrintMore Go.Proofs.Ytbajimbccbckkaa.Base Go.Proofs.Ytbajimbccbckkaa.Q12k Go.Proofs.Ytbajimbccbckkaa.L12 Go.Proofs.Ytbajimbccbckkaa.O12k
set_option linter.unusedVariables false
theorem copyLsa_f {r s g:Int} {l:List S109} (hl:l.length<8796093022208):watchwordlaw0_CopyLsa.f r s g l=some (r,s,g,l):=by
  simp only[watchwordlaw0_CopyLsa.f,Option.bind_some,List.length_nil,List.nil_append]
  rw[if_pos (by omega)]
theorem copyLsas_l {l:List S45} (hn:l.length<2932031007402) (hM:∀x∈l,x.f3.length<8796093022208):∀(d k i:Nat) (acc:List S45),acc.length=i->i+d=l.length->d<k->
    watchwordlaw0_CopyLsas.l0 k l acc (i:Int)=some (acc++l.drop i):=by
  intro d
  induction d with
  | zero=>
    intro k i acc ha hi hk
    obtain⟨k,rfl⟩:∃m,k=m+1:=⟨k-1,by omega⟩
    simp only[watchwordlaw0_CopyLsas.l0]
    rw[if_neg (by omega),List.drop_of_length_le (by omega),List.append_nil]
  | succ d ih=>
    intro k i acc ha hi hk
    obtain⟨k,rfl⟩:∃m,k=m+1:=⟨k-1,by omega⟩
    have hlt:i<l.length:=by omega
    have h4:wrap64 ((i:Int)+1)=((i+1:Nat):Int):=by rw[wrap_id (by omega) (by omega)];omega
    have hm:=hM _ (rdU_mem hlt)
    simp only[watchwordlaw0_CopyLsas.l0]
    rw[if_pos (by omega),if_pos (by omega),copyLsa_f hm,Option.bind_some,if_pos (by omega),h4,ih k (i+1) _ (by rw[List.length_append];simp only[List.length_cons,List.length_nil];omega) (by omega) (by omega),dropU_at hlt,List.append_assoc]
    rfl
theorem copyLsas_f {l:List S45} (hn:l.length<2932031007402) (hM:∀x∈l,x.f3.length<8796093022208) {k:Nat} (hk:l.length<k):watchwordlaw0_CopyLsas.f k l=some l:=
  copyLsas_l hn hM l.length k 0 [] rfl (by omega) hk
theorem pk_num (x:Int):watchwordlaw0_Num.f x=some x:=rfl
theorem pk_short {t r:Int} {xs:List Int} {us:List S45} {hs:List S47} (h:PkOk t r xs us hs):xs.length<=4/\us.length<=4/\(∀y∈us,y.f3.length<=4)/\hs.length<=4:=by
  rcases h.2 with⟨_,g,rfl,rfl⟩|⟨_,g,rfl,rfl⟩|⟨_,g,rfl,rfl⟩
  · exact⟨He.heard_len g,Nat.zero_le _,(λy hy=>by cases hy),Nat.zero_le _⟩
  · exact⟨Nat.zero_le _,upd_len g,(λy hy=>usOk_len (upd_ok us 0 g y hy)),Nat.zero_le _⟩
  · exact⟨Nat.zero_le _,Nat.zero_le _,(λy hy=>by cases hy),Ak.heads_len g⟩
theorem told_short (b:List Int):(tellP (getPkt b)).2.2.1.length <=4/\(tellP (getPkt b)).2.2.2.1.length <=4/\(∀y∈(tellP (getPkt b)).2.2.2.1,y.f3.length<=4)/\(tellP (getPkt b)).2.2.2.2.1.length <=4:=by
  cases h:getPkt b with
  |none=>exact⟨Nat.zero_le _,Nat.zero_le _,(λy hy=>by cases hy),Nat.zero_le _⟩
  | some p=>
    obtain⟨t,r,xs,us,hs⟩:=p
    exact pk_short (getPkt_some h).1
theorem packet_May_f {t r:Int} {xs:List Int} {us:List S45} {hs:List S47} {M:Nat} (hx:xs.length<=1000000000000000000) (ha:us.length<=1000000000000000000) (hh:hs.length<=1000000000000000000)
    (hM:∀x∈us,x.f3.length<M) (hM2:M<=9223372036854775807) {k:Nat} (hk:xs.length+us.length+hs.length+M<k) (hk2:35<=k):packet_May.f k t r xs us hs=some (decide (PkOk t r xs us hs)):=by
  unfold packet_May.f
  rw[packet_list_f hx ha hh hM hM2 hk hk2,Option.bind_some,lsa_Router_f]
  by_cases h2:(listR t xs us hs).2 =true
  · rw[if_pos h2,Option.bind_some]
    exact congrArg some (decide_eq_decide.2 ⟨λhr=>(listR_true h2 r hr).1,λh=>h.1⟩)
  · rw[if_neg h2]
    exact congrArg some (decide_eq_false λh=>h2 (listR_ok h)).symm
theorem copyPk {t r:Int} {xs:List Int} {us:List S45} {hs:List S47} (hx:xs.length<17592186044416) (ha:us.length<2932031007402) (hM:∀x∈us,x.f3.length<8796093022208) (hh:hs.length<4398046511104) {k:Nat} (hk:us.length<k):
    watchwordlaw0_CopyPacket.f k t r xs us hs=some (t,r,xs,us,hs):=by
  unfold watchwordlaw0_CopyPacket.f
  simp only[Option.bind_some,List.length_nil,List.nil_append,Nat.zero_add,copyLsas_f ha hM hk]
  rw[if_pos hx,if_pos hh]
theorem core {t r:Int} {xs:List Int} {us:List S45} {hs:List S47} {b:ByteArray} {L M k:Nat} (hx:xs.length<17592186044416) (ha:us.length<2932031007402) (hM:∀x∈us,x.f3.length<8796093022208) (hh:hs.length<4398046511104) (hb:b.size<=140737488351232)
    (hk:xs.length+us.length+hs.length+8796093022208+3000<=k):watchwordlaw12_Packets.f k t r xs us hs b=some true:=by
  obtain⟨k,rfl⟩:∃m,k=m+1:=⟨k-1,by omega⟩
  have x1:xs.length<=1000000000000000000:=by omega
  have x2:us.length<=1000000000000000000:=by omega
  have x3:hs.length<=1000000000000000000:=by omega
  have m2:8796093022208<=9223372036854775807:=by decide
  have k1:xs.length+us.length+hs.length+8796093022208+60<k+1:=by omega
  have k2:xs.length+us.length+hs.length+8796093022208<k+1:=by omega
  have k3:xs.length+us.length+hs.length+8796093022208<k:=by omega
  have k4:us.length<k+1:=by omega
  have k5:35<=k+1:=by omega
  have k6:2001<=k+1:=by omega
  have k7:2000<=k+1:=by omega
  have k8:800<=k:=by omega
  have k9:100<k:=by omega
  have hb2:b.size<=140737488355328:=by omega
  clear hk
  obtain⟨s1,s2,s3,s4⟩:=told_short (B b)
  generalize hg:tellP (getPkt (B b))=g at s1 s2 s3 s4
  have e1:packet_Get.f (k+1) b=some g:=by rw[packet_Get_f hb2 k7,hg]
  have e2:watchwordref9_GetPacket.f (k+1) b=some g:=by rw[ref_PkGet_f hb2 k6,hg]
  have c:g.2.2.1.length<=1000/\g.2.2.2.1.length<=1000000/\(∀y∈g.2.2.2.1,y.f3.length<=1000)/\g.2.2.2.2.1.length<=1000:=⟨by omega,by omega,λy hy=>by have:=s3 y hy;omega,by omega⟩
  have same:∀q,100<q->watchwordlaw0_SamePacket.f q g.1 g.2.1 g.2.2.1 g.2.2.2.1 g.2.2.2.2.1 g.1 g.2.1 g.2.2.1 g.2.2.2.1 g.2.2.2.2.1=some true:=λq hq=>by
    rw[SameP_f (M:=5) (show g.2.2.1.length<=1000000000000000000 by omega) (show g.2.2.2.1.length<=1000000000000000000 by omega) (show g.2.2.2.2.1.length<=1000000000000000000 by omega) (λy hy=>Nat.lt_succ_of_le (s3 y hy)) (by decide) (by omega)]
    simp
  unfold watchwordlaw12_Packets.f
  rw[e1,Option.bind_some,if_pos c,copyPk hx ha hM hh k4,Option.bind_some]
  unfold watchwordlaw12_Packets.g
  rw[packet_Put_f x1 x2 x3 hM m2 k2 k5,Option.bind_some,ref_PkPut_f x1 x2 x3 hM m2 k1,Option.bind_some,e1,Option.bind_some,e2,Option.bind_some,if_pos rfl,pk_num,Option.bind_some,if_pos rfl,same _ (by omega),Option.bind_some,if_pos rfl,pk_num,Option.bind_some,if_pos rfl,packet_May_f x1 x2 x3 hM m2 k2 k5,Option.bind_some,ref_PkMay_f x1 x2 x3 hM m2 k1,Option.bind_some,bne_self_eq_false]
  simp only[watchwordlaw12_Packets.j0]
  rw[if_neg (by decide),same k k9,Option.bind_some,SameP_f x1 x2 x3 hM m2 k3,Option.bind_some,if_pos (by simp),awake_ok k8]
  rfl
theorem Packets:∀(a0_0:Int) (a0_1:Int) (l0_2:List (Int)) (l0_3:List (S45)) (l0_4:List (S47)) (a1:ByteArray),(Lit.int .i64 a0_0).wf =true->(Lit.int .i64 a0_1).wf =true->(l0_2.length*8<=140737488351232/\l0_2.length<=maxLen/\∀y∈l0_2,(Lit.int .i64 y).wf =true)->(l0_3.length*48<=140737488351232/\l0_3.length<=maxLen/\∀y∈l0_3,R45 y)->(l0_4.length*32<=140737488351232/\l0_4.length<=maxLen/\∀y∈l0_4,R47 y)->a1.size<=140737488351232->∃k,watchwordlaw12_Packets.f k a0_0 a0_1 l0_2 l0_3 l0_4 a1=some true:=by
  intro t r xs us hs b _ _ hx hu hh hb
  obtain⟨k,hk⟩:∃k:Nat,xs.length+us.length+hs.length+8796093022208+3000<=k:=⟨_,Nat.le_refl _⟩
  exact⟨k,core (L:=0) (M:=0) (by have:=hx.1;omega) (by have:=hu.1;omega) (λx hm=>by have:=(hu.2.2 x hm).2.2.2.1;omega) (by have:=hh.1;omega) hb hk⟩
end Go.Proofs.Ytbajimbccbckkaa.Pure
