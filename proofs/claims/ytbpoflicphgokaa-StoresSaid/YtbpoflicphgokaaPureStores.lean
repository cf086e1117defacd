/- Stores: the code's stores are the document's, and what came in stays; no condition beyond the row's own. -/
import Derived.Test.YtbpoflicphgokaaZ18x3
import Derived.Test.YtbpoflicphgokaaZ18x4
namespace Go.Proofs.Ytbpoflicphgokaa.Pure
open Go.RowKit Go.Proofs.YtbpoflicphgokaaW.PrintWords Go.Proofs.YtbpoflicphgokaaW.PrintMore Go.Proofs.Ytbpoflicphgokaa.Base Go.Proofs.Ytbpoflicphgokaa.Q18 Go.Proofs.Ytbpoflicphgokaa.L18 Go.Proofs.Ytbpoflicphgokaa.O18
set_option linter.unusedVariables false
set_option linter.unusedSimpArgs false
theorem old_mem:∀(l:List S32),(oldOut l).length <=l.length/\(oldGone l).length <=l.length/\∀y∈oldOut l,∃x∈l,y.f3=x.f3
  | []=>⟨Nat.le_refl _,Nat.le_refl _,λy h=>by cases h⟩
  | x::l=>by
    obtain⟨h1,h2,h3⟩:=old_mem l
    unfold oldOut oldGone
    by_cases c:x.f2+1<60
    · rw[if_pos c,if_pos c]
      refine⟨by simpa using h1,by simp only[List.length_cons];omega,λy hy=>?_⟩
      rcases List.mem_cons.1 hy with rfl|hy
      · exact⟨x,List.mem_cons_self,rfl⟩
      · obtain⟨z,hz,e⟩:=h3 y hy
        exact⟨z,List.mem_cons_of_mem _ hz,e⟩
    · rw[if_neg c,if_neg c]
      refine⟨by simp only[List.length_cons];omega,by simpa using h2,λy hy=>?_⟩
      obtain⟨z,hz,e⟩:=h3 y hy
      exact⟨z,List.mem_cons_of_mem _ hz,e⟩
theorem with_both {l:List S32} {r s g:Int} {ls:List S56} {k:Nat} (hl:l.length<2932031007402) (hM:∀x∈l,x.f3.length<8796093022208) (hls:ls.length<8796093022208) (hk:2*l.length+8796093022208+ls.length+3000<=k):
    ∃b,store_With.f k l r s g ls=some b/\watchwordref18_WithLsa.f k l r s g ls=some b/\b.1.length<=4/\∀y∈b.1,y.f3.length<=4:=by
  by_cases h:St l=true/\LsaOk r s g ls
  · have hs:=with_st (l:=l) h.1 (x:=⟨r,s,g,ls⟩) h.2
    exact⟨_,With_f h.1 (x:=⟨r,s,g,ls⟩) h.2 (by omega),ref_With_f h.1 (x:=⟨r,s,g,ls⟩) h.2 (by omega),st_len hs,st_links hs⟩
  · exact⟨_,With_bad (by omega) hM (by decide) (by omega) (by omega) (by omega) (by omega) h,ref_With_bad (by omega) hM (by decide) (by omega) (by omega) (by omega) h,Nat.zero_le _,λy hy=>by cases hy⟩
theorem find_both {l:List S32} {t:Int} {k:Nat} (hl:l.length<2932031007402) (hM:∀x∈l,x.f3.length<8796093022208) (h1: -9223372036854775808<=t) (h2:t<=9223372036854775807) (hk:2*l.length+8796093022208+3000<=k):
    ∃d,store_Find.f k l t=some d/\watchwordref18_FindLsa.f k l t=some d/\d.2.2.2.1.length<=4:=by
  by_cases h:St l=true
  · refine⟨_,Find_any h h1 h2 (by omega),ref_Find_f h t (by omega),?_⟩
    cases hy:L18.look ukey t l with
    |none=>exact Nat.zero_le _
    |some y=>exact st_links h y (look_mem hy).1
  · have h:=Bool.eq_false_iff.mpr h
    exact⟨_,Find_bad (by omega) hM (by decide) (by omega) h t,ref_Find_bad (by omega) hM (by decide) (by omega) h t,Nat.zero_le _⟩
theorem older_both {l:List S32} {k:Nat} (hl:l.length<2932031007402) (hM:∀x∈l,x.f3.length<8796093022208) (hk:2*l.length+8796093022208+3000<=k):
    ∃q,store_Older.f k l=some q/\watchwordref18_OlderLsas.f k l=some q/\q.1.length<=4/\(∀y∈q.1,y.f3.length<=4)/\q.2.1.length<=4:=by
  by_cases h:St l=true
  · have h4:=st_len h
    obtain⟨m1,m2,m3⟩:=old_mem l
    refine⟨_,Older_f h (by omega),ref_Older_f h (by omega),Nat.le_trans m1 h4,λy hy=>?_,Nat.le_trans m2 h4⟩
    obtain⟨x,hx,e⟩:=m3 y hy
    rw[e]
    exact st_links h x hx
  · have h:=Bool.eq_false_iff.mpr h
    exact⟨_,Older_bad (by omega) hM (by decide) (by omega) h,ref_Older_bad (by omega) hM (by decide) (by omega) h,Nat.zero_le _,(λy hy=>by cases hy),Nat.zero_le _⟩
theorem core {l:List S32} {r s g:Int} {ls:List S56} {t:Int} {k:Nat} (hl:l.length<2932031007402) (hM:∀x∈l,x.f3.length<8796093022208) (hls:ls.length<8796093022208) (h1: -9223372036854775808<=t) (h2:t<=9223372036854775807)
    (hk:2*l.length+8796093022208+ls.length+3000<=k):watchwordlaw18_Stores.f (k+1) l r s g ls t=some true:=by
  obtain⟨⟨b1,b2,b3⟩,eb,eb',hb,hb'⟩:=with_both (k:=k+1) (r:=r) (s:=s) (g:=g) hl hM hls (by omega)
  obtain⟨⟨d1,d2,d3,d4,d5⟩,ed,ed',hd⟩:=find_both (k:=k+1) hl hM h1 h2 (by omega)
  obtain⟨⟨q1,q2,q3⟩,eq,eq',hq,hq',hq2⟩:=older_both (k:=k+1) hl hM (by omega)
  have em:=May_f (l:=l) (M:=8796093022208) (by omega) hM (by decide) (show l.length+8796093022208<k+1 by omega)
  have em':=ref_StoreMay_f (l:=l) (M:=8796093022208) (by omega) hM (by decide) (show 2*l.length+8796093022208+20<k+1 by omega)
  have sb:watchwordlaw0_SameLsas.f (k+1) b1 b1=some true:=by
    rw[SameU_f (M:=5) (show b1.length<=9223372036854775807 by have:b1.length<=4:=hb;omega) (λx hx=>Nat.lt_succ_of_le (hb' x hx)) (by decide) (by have:b1.length<=4:=hb;omega)];simp
  have sq:watchwordlaw0_SameLsas.f (k+1) q1 q1=some true:=by
    rw[SameU_f (M:=5) (show q1.length<=9223372036854775807 by have:q1.length<=4:=hq;omega) (λx hx=>Nat.lt_succ_of_le (hq' x hx)) (by decide) (by have:q1.length<=4:=hq;omega)];simp
  have sd:watchwordlaw0_SameLsa.f (k+1) d1 d2 d3 d4 d1 d2 d3 d4=some true:=by
    rw[SameLsa_f (show d4.length<=9223372036854775807 by have:d4.length<=4:=hd;omega) (by have:d4.length<=4:=hd;omega)];simp
  have si:watchwordlaw0_SameInts.f (k+1) q2 q2=some true:=by
    rw[SameInts_f (show q2.length<=9223372036854775807 by have:q2.length<=4:=hq2;omega) (by have:q2.length<=4:=hq2;omega)];simp
  have sx:watchwordlaw0_SameLsas.f k l l=some true:=by
    rw[SameU_f (M:=8796093022208) (by omega) hM (by decide) (by omega)];simp
  have sy:watchwordlaw0_SameLsa.f k r s g ls r s g ls=some true:=by
    rw[SameLsa_f (by omega) (by omega)];simp
  have aw:=awake_ok (k:=k) (by omega)
  have c:(b1.length<=1000000/\∀y∈b1,y.f3.length<=1000)/\d4.length<=1000/\q1.length<=1000000/\∀y∈q1,y.f3.length<=1000:=
    ⟨⟨Nat.le_trans hb (by decide),λy hy=>Nat.le_trans (hb' y hy) (by decide)⟩,Nat.le_trans hd (by decide),Nat.le_trans hq (by decide),λy hy=>Nat.le_trans (hq' y hy) (by decide)⟩
  unfold watchwordlaw18_Stores.f
  rw[copyLsas_f hl hM (by omega),Option.bind_some,copyLsa_f hls,Option.bind_some,eb,Option.bind_some,ed,Option.bind_some,eq,Option.bind_some,if_pos c]
  unfold watchwordlaw18_Stores.g
  rw[eb,Option.bind_some,eb',Option.bind_some,ed,Option.bind_some,ed',Option.bind_some,eq,Option.bind_some,eq',Option.bind_some,sb,Option.bind_some,if_pos rfl,if_neg (by simp),num_f,Option.bind_some,if_pos rfl,sd,Option.bind_some,if_pos rfl,if_neg (by simp),sq,Option.bind_some,if_pos rfl,si,Option.bind_some,if_pos rfl,num_f,Option.bind_some,if_pos rfl,em,Option.bind_some,em',Option.bind_some,bne_self_eq_false]
  simp only[watchwordlaw18_Stores.j0]
  rw[if_neg (by decide),sx,Option.bind_some,if_pos rfl,sy,Option.bind_some,if_pos rfl,aw]
  rfl
theorem Stores:∀(l0:List (S32)) (a1_0:Int) (a1_1:Int) (a1_2:Int) (l1_3:List (S56)) (a2:Int),(l0.length*48<=140737488351232/\l0.length<=maxLen/\∀y∈l0,R32 y)->(Lit.int .i64 a1_0).wf =true->(Lit.int .i64 a1_1).wf =true->(Lit.int .i64 a1_2).wf =true->(l1_3.length*16<=140737488351232/\l1_3.length<=maxLen/\∀y∈l1_3,R56 y)->(Lit.int .i64 a2).wf =true->∃k,watchwordlaw18_Stores.f k l0 a1_0 a1_1 a1_2 l1_3 a2=some true:=by
  intro l r s g ls t hl _ _ _ hls ht
  obtain⟨k,hk⟩:∃k:Nat,2*l.length+8796093022208+ls.length+3000<=k:=⟨_,Nat.le_refl _⟩
  have ht: -9223372036854775808<=t/\t<=9223372036854775807:=by
    have h:=ht;simp[Lit.wf,IntKind.min,IntKind.max,IntKind.signed,IntKind.bits]at h;omega
  exact⟨k+1,core (by have:=hl.1;omega) (λx hx=>by have:=(hl.2.2 x hx).2.2.2.1;omega) (by have:=hls.1;omega) ht.1 ht.2 hk⟩
end Go.Proofs.Ytbpoflicphgokaa.Pure
