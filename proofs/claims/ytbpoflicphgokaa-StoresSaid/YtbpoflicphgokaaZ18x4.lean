/- Written by a program of this session (out of what the print wrote for this seat): the functions' walks, packed. -/
import Derived.Test.YtbpoflicphgokaaZ18x3
namespace Go.Proofs.Ytbpoflicphgokaa.L18
open Go.RowKit Go.Proofs.YtbpoflicphgokaaW.PrintWords Go.Proofs.YtbpoflicphgokaaW.PrintLast Go.Proofs.YtbpoflicphgokaaW.PrintMore Go.Proofs.Ytbpoflicphgokaa.Base Go.Proofs.Ytbpoflicphgokaa.Q18
set_option linter.unusedVariables false
set_option linter.unusedSimpArgs false
theorem lsa_One_f (x:Int):lsa_One.f x=some (strOfNums (e1 x)):=rfl
theorem lsa_Two_f (x:Int):lsa_Two.f x=some (strOfNums (e2 x)):=rfl
theorem lsa_Four_f (x:Int):lsa_Four.f x=some (strOfNums (e4 x)):=by
  simp only[lsa_Four.f,lsa_Two_f,Option.bind_some,strOf_append,strOf_size,e2_len]
  rw[if_pos (by decide)]
  have h1:x/65536/256=x/16777216:=by omega
  simp only[e2,e4,List.cons_append,List.nil_append,h1]
instance:DecidableEq S56:=λa b=>decidable_of_iff (a.f0=b.f0/\a.f1=b.f1) (by cases a;cases b;simp)
def LinkOk (rt:Int) (x:S56):Prop:=1<=x.f0/\x.f0<=4/\x.f0≠rt/\1<=x.f1/\x.f1<=65535
instance (rt:Int) (x:S56):Decidable (LinkOk rt x):=by unfold LinkOk;infer_instance
def links (rt:Int):Int->List S56->Bool
  |_,[]=>true
  |p,x::l=>if LinkOk rt x/\p<x.f0 then links rt x.f0 l else false
theorem links_short {rt:Int} :∀(l:List S56) (p:Int),0<=p->links rt p l=true->l.length=0\/(l.length:Int)<=4-p
  | [],_,_,_=> .inl rfl
  | x::l,p,h0,h=>by
    unfold links at h
    by_cases hc:LinkOk rt x/\p<x.f0
    · rw[if_pos hc]at h
      have h4:=hc.1.2.1
      rcases links_short l x.f0 (by omega) h with h1|h1
      · right;simp only[List.length_cons,h1];omega
      · right;simp only[List.length_cons];omega
    · rw[if_neg hc]at h;cases h
theorem links_len {rt:Int} {l:List S56} (h:links rt 0 l=true):l.length<=4:=by
  rcases links_short l 0 (by omega) h with h1|h1 <;> omega
theorem rdL_at {l:List S56} {i:Nat} (h:i<l.length):rd_T56 l (i:Int)=l[i]:=by
  unfold rd_T56;rw[Int.toNat_natCast,List.getD_eq_getElem?_getD,List.getElem?_eq_getElem h];rfl
def prevL (l:List S56) (i:Nat):Int:=if i=0 then 0 else(rd_T56 l ((i:Int)-1)).f0
theorem prevL_succ (l:List S56) (i:Nat):prevL l (i+1)=(rd_T56 l (i:Int)).f0 :=by
  unfold prevL;rw[if_neg (by omega)]
  have:((i+1:Nat):Int)-1=(i:Int):=by omega
  rw[this]
theorem dropL_at {l:List S56} {i:Nat} (h:i<l.length):l.drop i=rd_T56 l (i:Int)::l.drop (i+1):=by
  rw[List.drop_eq_getElem_cons h,rdL_at h]
theorem lsa_Router_f (x:Int):lsa_Router.f x=some (decide (1<=x/\x<=4)):=by
  unfold lsa_Router.f
  by_cases h:x>=1
  · rw[if_pos h];simp[show(1:Int)<=x from h]
  · rw[if_neg h];simp[show ¬(1:Int)<=x from h]
theorem lsa_Links_l {l:List S56} {rt:Int} (hn:l.length<=9223372036854775807):∀(d k i:Nat),i+d=l.length->d<k->
    lsa_Links.l0 k l rt l (l.length:Int) (i:Int)=some (links rt (prevL l i) (l.drop i)):=by
  intro d
  induction d with
  | zero=>
    intro k i hi hk
    obtain⟨k,rfl⟩:∃m,k=m+1:=⟨k-1,by omega⟩
    simp only[lsa_Links.l0]
    rw[if_neg (by omega),List.drop_of_length_le (by omega)]
    rfl
  | succ d ih=>
    intro k i hi hk
    obtain⟨k,rfl⟩:∃m,k=m+1:=⟨k-1,by omega⟩
    have hlt:i<l.length:=by omega
    have h4:wrap64 ((i:Int)+1)=((i+1:Nat):Int):=by rw[wrap_id (by omega) (by omega)];omega
    have h5:wrap64 ((i:Int)-1)=(i:Int)-1:=wrap_id (by omega) (by omega)
    have hr:=ih k (i+1) (by omega) (by omega)
    simp only[lsa_Links.l0,lsa_Router_f,Option.bind_some,decide_eq_true_eq]
    rw[if_pos (by omega),if_pos (by omega),if_pos (by omega),h4,h5,hr,prevL_succ,dropL_at hlt]
    generalize hx:rd_T56 l (i:Int)=x
    by_cases c1:1<=x.f0/\x.f0<=4
    · rw[if_pos c1]
      by_cases c2:x.f0=rt
      · rw[if_pos c2];unfold links;rw[if_neg (λhh=>hh.1.2.2.1 c2)]
      rw[if_neg c2]
      by_cases c3:x.f1<1
      · rw[if_pos c3];unfold links;rw[if_neg (λhh=>by have:=hh.1.2.2.2.1;omega)]
      rw[if_neg c3]
      by_cases c4:x.f1>65535
      · rw[if_pos c4];unfold links;rw[if_neg (λhh=>by have:=hh.1.2.2.2.2;omega)]
      rw[if_neg c4]
      have hok:LinkOk rt x:=⟨c1.1,c1.2,c2,by omega,by omega⟩
      by_cases h0:(i:Int)>0
      · rw[if_pos h0,if_pos (by omega),if_pos (by omega)]
        have hp:prevL l i=(rd_T56 l ((i:Int)-1)).f0 :=by unfold prevL;rw[if_neg (by omega)]
        by_cases hg:(rd_T56 l ((i:Int)-1)).f0 >=x.f0
        · rw[if_pos hg];unfold links;rw[if_neg (by rw[hp];omega)]
        · rw[if_neg hg];conv=>rhs;unfold links
          rw[if_pos ⟨hok,by rw[hp];omega⟩]
      · rw[if_neg h0]
        have hp:prevL l i=0:=by unfold prevL;rw[if_pos (by omega)]
        conv=>rhs;unfold links
        rw[if_pos ⟨hok,by rw[hp];omega⟩]
    · rw[if_neg c1];unfold links;rw[if_neg (λhh=>c1 ⟨hh.1.1,hh.1.2.1⟩)]
theorem lsa_Links_f {l:List S56} {rt:Int} (hn:l.length<=9223372036854775807) {k:Nat} (hk:l.length<k):lsa_Links.f k l rt=some (links rt 0 l):=
  lsa_Links_l hn l.length k 0 (by omega) hk
def LsaOk (r s g:Int) (l:List S56):Prop:=1<=r/\r<=4/\1<=s/\s<=2147483647/\0<=g/\g<=60/\links r 0 l=true
instance (r s g:Int) (l:List S56):Decidable (LsaOk r s g l):=by unfold LsaOk;infer_instance
theorem lsa_May_f {r s g:Int} {l:List S56} (hn:l.length<=9223372036854775807) {k:Nat} (hk:l.length<k):lsa_May.f k r s g l=some (decide (LsaOk r s g l)):=by
  simp only[lsa_May.f,lsa_Links_f hn hk,lsa_Router_f,Option.bind_some]
  unfold lsa_Serial.f lsa_Age.f
  by_cases h1:1<=r/\r<=4
  · unfold LsaOk
    by_cases h3:s>=1
    · by_cases h4:s<=2147483647
      · by_cases h5:g>=0
        · by_cases h6:g<=60
          · simp[h1.1,h1.2,h3,h4,h5,h6]
          · simp[h1.1,h1.2,h3,h4,h5,h6]
        · simp[h1.1,h1.2,h3,h4,h5]
      · simp[h1.1,h1.2,h3,h4]
    · simp[h1.1,h1.2,h3]
  · rw[decide_eq_false h1,if_neg (by decide),decide_eq_false (λhh:LsaOk r s g l=>h1 ⟨hh.1,hh.2.1⟩)]
def lbytes (x:S56):List Int:=e1 x.f0++e2 x.f1
theorem lbytes_byt (x:S56):Byt (lbytes x):=byt_append (e1_byt _) (e2_byt _)
theorem lbytes_len (x:S56):(lbytes x).length =3:=rfl
theorem lflat_byt (l:List S56):Byt (l.flatMap lbytes):=by
  intro y hy
  obtain⟨x,_,hx⟩:=List.mem_flatMap.mp hy
  exact lbytes_byt x y hx
theorem lflat_len (l:List S56):(l.flatMap lbytes).length =3*l.length:=by
  induction l with
  |nil=>rfl
  |cons x l ih=>rw[List.flatMap_cons,List.length_append,ih,lbytes_len,List.length_cons];omega
def bodyB (r s:Int) (l:List S56):List Int:=((e1 r++e4 s)++e1 (l.length:Int))++l.flatMap lbytes
theorem bodyB_byt (r s:Int) (l:List S56):Byt (bodyB r s l):=byt_append (byt_append (byt_append (e1_byt _) (e4_byt _)) (e1_byt _)) (lflat_byt l)
theorem bodyB_len (r s:Int) (l:List S56):(bodyB r s l).length =6+3*l.length:=by
  unfold bodyB;simp only[List.length_append,lflat_len,e1_len,e4_len]
theorem lsa_body_l {l:List S56} (hn:l.length<=255):∀(d k i:Nat) (acc:List Int),i+d=l.length->d<k->acc.length<=10+3*i->
    lsa_body.l0 k (strOfNums acc) l (l.length:Int) (i:Int)=some (strOfNums (acc++(l.drop i).flatMap lbytes)):=by
  intro d
  induction d with
  | zero=>
    intro k i acc hi hk ha
    obtain⟨k,rfl⟩:∃m,k=m+1:=⟨k-1,by omega⟩
    simp only[lsa_body.l0]
    rw[if_neg (by omega),List.drop_of_length_le (by omega)]
    simp
  | succ d ih=>
    intro k i acc hi hk ha
    obtain⟨k,rfl⟩:∃m,k=m+1:=⟨k-1,by omega⟩
    have hlt:i<l.length:=by omega
    have h4:wrap64 ((i:Int)+1)=((i+1:Nat):Int):=by rw[wrap_id (by omega) (by omega)];omega
    simp only[lsa_body.l0,lsa_One_f,lsa_Two_f,Option.bind_some,strOf_append,strOf_size,List.length_append,e1_len,e2_len]
    rw[if_pos (by omega),if_pos (by omega),if_pos (by omega),if_pos (by decide),if_pos (by omega),h4,
      ih k (i+1) _ (by omega) (by omega) (by simp only[List.length_append,e1_len,e2_len];omega),dropL_at hlt,List.flatMap_cons]
    simp only[lbytes,List.append_assoc]
theorem lsa_body_f {r s g:Int} {l:List S56} (hn:l.length<=255) {k:Nat} (hk:l.length<k):lsa_body.f k r s g l=some (strOfNums (bodyB r s l)):=by
  simp only[lsa_body.f,lsa_One_f,lsa_Four_f,Option.bind_some,strOf_append,strOf_size,List.length_append,e1_len,e4_len]
  rw[if_pos (by decide),if_pos (by decide)]
  exact lsa_body_l hn l.length k 0 _ (by omega) hk (by simp only[List.length_append,e1_len,e4_len];omega)
def fl:Int->Int->List Int->Int
  |a,b,[]=>256*b+a
  |a,b,x::l=>fl ((a+x) % 255) ((b+(a+x) % 255) % 255) l
theorem fl_range:∀(l:List Int) (a b:Int),0<=a/\a<255->0<=b/\b<255->0<=fl a b l/\fl a b l<=65278
  | [],a,b,ha,hb=>by unfold fl;omega
  |x::l,a,b,ha,hb=>by unfold fl;exact fl_range l _ _ (by omega) (by omega)
def flSum (l:List Int):Int:=fl 0 0 l
theorem flSum_range (l:List Int):0<=flSum l/\flSum l<=65278:=fl_range l 0 0 (by omega) (by omega)
theorem fletch_Sum_l {s:ByteArray} (hs:s.size<=140737488351232):∀(d k i:Nat) (a b:Int),i+d=s.size->d<k->0<=a/\a<255->0<=b/\b<255->
    fletch_Sum.l0 k s a b (s.size:Int) (i:Int)=some (fl a b ((B s).drop i)):=by
  intro d
  induction d with
  | zero=>
    intro k i a b hi hk ha hb
    obtain⟨k,rfl⟩:∃m,k=m+1:=⟨k-1,by omega⟩
    simp only[fletch_Sum.l0]
    rw[if_neg (by omega),List.drop_of_length_le (by rw[B_len];omega),wrap_id (x:=256*b) (by omega) (by omega),wrap_id (by omega) (by omega)]
    rfl
  | succ d ih=>
    intro k i a b hi hk ha hb
    obtain⟨k,rfl⟩:∃m,k=m+1:=⟨k-1,by omega⟩
    have hlt:i<(B s).length :=by rw[B_len];omega
    have hd:(B s).drop i=(B s).getD i 0::(B s).drop (i+1):=by
      rw[List.drop_eq_getElem_cons hlt,List.getD_eq_getElem?_getD,List.getElem?_eq_getElem hlt,Option.getD_some]
    have hbt:bt s (i:Int)=(B s).getD i 0:=by rw[bt_B,Int.toNat_natCast]
    have hr:=byt_getD (B_byt s) i
    have h4:wrap64 ((i:Int)+1)=((i+1:Nat):Int):=by rw[wrap_id (by omega) (by omega)];omega
    simp only[fletch_Sum.l0]
    rw[if_pos (by omega),if_pos (by omega),if_pos (by omega),hbt,h4,hd]
    generalize (B s).getD i 0=x at hr |-
    rw[wrap_id (x:=x) (by omega) (by omega),wrap_id (x:=a+x) (by omega) (by omega),Int.tmod_eq_emod_of_nonneg (a:=a+x) (by omega),
      wrap_id (x:=b+(a+x) % 255) (by omega) (by omega),Int.tmod_eq_emod_of_nonneg (a:=b+(a+x) % 255) (by omega),
      ih k (i+1) _ _ (by omega) (by omega) (by omega) (by omega)]
    rfl
theorem fletch_Sum_f {s:ByteArray} (hs:s.size<=140737488351232) {k:Nat} (hk:s.size<k):fletch_Sum.f k s=some (flSum (B s)):=
  fletch_Sum_l hs s.size k 0 0 0 (by omega) hk (by omega) (by omega)
theorem lsa_Head_f {r s g:Int} {l:List S56} (hn:l.length<=9223372036854775807) {k:Nat} (hk:l.length<k) (h20:20<=k):
    lsa_Head.f k r s g l=some (if LsaOk r s g l then(r,s,g,flSum (bodyB r s l),0)else(0,0,0,0,700)):=by
  simp only[lsa_Head.f,lsa_May_f hn hk,Option.bind_some,decide_eq_true_eq]
  by_cases h:LsaOk r s g l
  · have h4:=links_len h.2.2.2.2.2.2
    have hb:=bodyB_len r s l
    rw[if_pos h,if_pos h,lsa_body_f (by omega) hk]
    simp only[Option.bind_some]
    rw[fletch_Sum_f (by rw[strOf_size];omega) (by rw[strOf_size];omega),B_strOf (bodyB_byt r s l)]
    rfl
  · rw[if_neg h,if_neg h]
theorem SameL_l {l m:List S56} (hn:l.length<=9223372036854775807) (he:l.length=m.length):∀(d k i:Nat),i+d=l.length->d<k->
    watchwordlaw0_SameLinks.l0 k l m (i:Int)=some (decide (l.drop i=m.drop i)):=by
  intro d
  induction d with
  | zero=>
    intro k i hi hk
    obtain⟨k,rfl⟩:∃m,k=m+1:=⟨k-1,by omega⟩
    simp only[watchwordlaw0_SameLinks.l0]
    rw[if_neg (by omega),List.drop_of_length_le (by omega),List.drop_of_length_le (by omega)]
    simp
  | succ d ih=>
    intro k i hi hk
    obtain⟨k,rfl⟩:∃m,k=m+1:=⟨k-1,by omega⟩
    have h4:wrap64 ((i:Int)+1)=((i+1:Nat):Int):=by rw[wrap_id (by omega) (by omega)];omega
    simp only[watchwordlaw0_SameLinks.l0]
    rw[if_pos (by omega),if_pos (by omega),if_pos (by omega),h4,ih k (i+1) (by omega) (by omega),dropL_at (l:=l) (i:=i) (by omega),dropL_at (l:=m) (i:=i) (by omega)]
    generalize rd_T56 l (i:Int)=x
    generalize rd_T56 m (i:Int)=y
    have hx:(!(x.f0==y.f0)||(!(x.f1==y.f1)))= !decide (x=y):=by
      cases x;cases y
      rw[Bool.eq_iff_iff]
      simp
    rw[hx]
    by_cases hc:x=y
    · rw[hc];simp
    · simp[hc]
theorem SameL_f {l m:List S56} (hn:l.length<=9223372036854775807) {k:Nat} (hk:l.length<k):watchwordlaw0_SameLinks.f k l m=some (decide (l=m)):=by
  unfold watchwordlaw0_SameLinks.f
  by_cases h:l.length=m.length
  · rw[if_pos (by omega)]
    have:=SameL_l hn h l.length k 0 (by omega) hk
    rw[List.drop_zero,List.drop_zero]at this
    exact this
  · rw[if_neg (by omega),decide_eq_false (λe=>h (by rw[e]))]
theorem SameLsa_f {r s g r' s' g':Int} {l m:List S56} (hn:l.length<=9223372036854775807) {k:Nat} (hk:l.length<k):
    watchwordlaw0_SameLsa.f k r s g l r' s' g' m=some (decide (r=r'/\s=s'/\g=g'/\l=m)):=by
  unfold watchwordlaw0_SameLsa.f
  rw[SameL_f hn hk]
  by_cases h1:r=r'
  · by_cases h2:s=s'
    · by_cases h3:g=g'
      · rw[if_pos h1,if_pos h2,if_pos h3];simp[h1,h2,h3]
      · rw[if_pos h1,if_pos h2,if_neg h3];simp[h3]
    · rw[if_pos h1,if_neg h2];simp[h2]
  · rw[if_neg h1];simp[h1]
def UsOk (x:S32):Prop:=LsaOk x.f0 x.f1 x.f2 x.f3
instance (x:S32):Decidable (UsOk x):=by unfold UsOk;infer_instance
instance:DecidableEq S32:=λa b=>decidable_of_iff (a.f0=b.f0/\a.f1=b.f1/\a.f2=b.f2/\a.f3=b.f3) (by cases a;cases b;simp)
def upd:Int->List S32->Bool
  |_,[]=>true
  |p,x::l=>if UsOk x/\p<x.f0 then upd x.f0 l else false
theorem upd_short:∀(l:List S32) (p:Int),0<=p->upd p l=true->l.length=0\/(l.length:Int)<=4-p
  | [],_,_,_=> .inl rfl
  | x::l,p,h0,h=>by
    unfold upd at h
    by_cases hc:UsOk x/\p<x.f0
    · rw[if_pos hc]at h
      have h4:=hc.1.2.1
      rcases upd_short l x.f0 (by omega) h with h1|h1
      · right;simp only[List.length_cons,h1];omega
      · right;simp only[List.length_cons];omega
    · rw[if_neg hc]at h;cases h
theorem upd_len {l:List S32} (h:upd 0 l=true):l.length<=4:=by
  rcases upd_short l 0 (by omega) h with h1|h1 <;> omega
theorem usOk_len {x:S32} (h:UsOk x):x.f3.length<=4:=links_len h.2.2.2.2.2.2
theorem rdU_at {l:List S32} {i:Nat} (h:i<l.length):rd_T32 l (i:Int)=l[i]:=by
  unfold rd_T32;rw[Int.toNat_natCast,List.getD_eq_getElem?_getD,List.getElem?_eq_getElem h];rfl
theorem rdU_mem {l:List S32} {i:Nat} (h:i<l.length):rd_T32 l (i:Int)∈l:=by rw[rdU_at h];exact List.getElem_mem h
def prevU (l:List S32) (i:Nat):Int:=if i=0 then 0 else(rd_T32 l ((i:Int)-1)).f0
theorem prevU_succ (l:List S32) (i:Nat):prevU l (i+1)=(rd_T32 l (i:Int)).f0 :=by
  unfold prevU;rw[if_neg (by omega)]
  have:((i+1:Nat):Int)-1=(i:Int):=by omega
  rw[this]
theorem dropU_at {l:List S32} {i:Nat} (h:i<l.length):l.drop i=rd_T32 l (i:Int)::l.drop (i+1):=by
  rw[List.drop_eq_getElem_cons h,rdU_at h]
theorem update_May_l {l:List S32} {M:Nat} (hn:l.length<=9223372036854775807) (hM:∀x∈l,x.f3.length<M) (hM2:M<=9223372036854775807):∀(d k i:Nat),i+d=l.length->d+M<k->
    update_May.l0 k l l (l.length:Int) (i:Int)=some (upd (prevU l i) (l.drop i)):=by
  intro d
  induction d with
  | zero=>
    intro k i hi hk
    obtain⟨k,rfl⟩:∃m,k=m+1:=⟨k-1,by omega⟩
    simp only[update_May.l0]
    rw[if_neg (by omega),List.drop_of_length_le (by omega)]
    rfl
  | succ d ih=>
    intro k i hi hk
    obtain⟨k,rfl⟩:∃m,k=m+1:=⟨k-1,by omega⟩
    have hlt:i<l.length:=by omega
    have h4:wrap64 ((i:Int)+1)=((i+1:Nat):Int):=by rw[wrap_id (by omega) (by omega)];omega
    have h5:wrap64 ((i:Int)-1)=(i:Int)-1:=wrap_id (by omega) (by omega)
    have hr:=ih k (i+1) (by omega) (by omega)
    have hm:=hM _ (rdU_mem hlt)
    simp only[update_May.l0]
    rw[if_pos (by omega),if_pos (by omega),if_pos (by omega),h4,h5,hr,prevU_succ,dropU_at hlt]
    generalize rd_T32 l (i:Int)=x at hm |-
    rw[lsa_May_f (by omega) (show x.f3.length<k by omega)]
    simp only[Option.bind_some,decide_eq_true_eq]
    by_cases c1:LsaOk x.f0 x.f1 x.f2 x.f3
    · rw[if_pos c1]
      have hok:UsOk x:=c1
      have h1:=c1.1
      by_cases h0:(i:Int)>0
      · rw[if_pos h0,if_pos (by omega),if_pos (by omega)]
        have hp:prevU l i=(rd_T32 l ((i:Int)-1)).f0 :=by unfold prevU;rw[if_neg (by omega)]
        by_cases hg:(rd_T32 l ((i:Int)-1)).f0 >=x.f0
        · rw[if_pos hg];unfold upd;rw[if_neg (by rw[hp];omega)]
        · rw[if_neg hg];conv=>rhs;unfold upd
          rw[if_pos ⟨hok,by rw[hp];omega⟩]
      · rw[if_neg h0]
        have hp:prevU l i=0:=by unfold prevU;rw[if_pos (by omega)]
        conv=>rhs;unfold upd
        rw[if_pos ⟨hok,by rw[hp];omega⟩]
    · rw[if_neg c1];unfold upd;rw[if_neg (λhh=>c1 hh.1)]
theorem update_May_f {l:List S32} {M:Nat} (hn:l.length<=9223372036854775807) (hM:∀x∈l,x.f3.length<M) (hM2:M<=9223372036854775807) {k:Nat} (hk:l.length+M<k):
    update_May.f k l=some (upd 0 l):=update_May_l hn hM hM2 l.length k 0 (by omega) hk
theorem SameU_l {l m:List S32} {M:Nat} (hn:l.length<=9223372036854775807) (hM:∀x∈l,x.f3.length<M) (hM2:M<=9223372036854775807) (he:l.length=m.length):∀(d k i:Nat),i+d=l.length->d+M<k->
    watchwordlaw0_SameLsas.l0 k l m (i:Int)=some (decide (l.drop i=m.drop i)):=by
  intro d
  induction d with
  | zero=>
    intro k i hi hk
    obtain⟨k,rfl⟩:∃m,k=m+1:=⟨k-1,by omega⟩
    simp only[watchwordlaw0_SameLsas.l0]
    rw[if_neg (by omega),List.drop_of_length_le (by omega),List.drop_of_length_le (by omega)]
    simp
  | succ d ih=>
    intro k i hi hk
    obtain⟨k,rfl⟩:∃m,k=m+1:=⟨k-1,by omega⟩
    have h4:wrap64 ((i:Int)+1)=((i+1:Nat):Int):=by rw[wrap_id (by omega) (by omega)];omega
    have hm:=hM _ (rdU_mem (show i<l.length by omega))
    simp only[watchwordlaw0_SameLsas.l0]
    rw[if_pos (by omega),if_pos (by omega),if_pos (by omega),h4,ih k (i+1) (by omega) (by omega),dropU_at (l:=l) (i:=i) (by omega),dropU_at (l:=m) (i:=i) (by omega)]
    generalize rd_T32 l (i:Int)=x at hm |-
    generalize rd_T32 m (i:Int)=y
    rw[SameLsa_f (by omega) (show x.f3.length<k by omega),Option.bind_some]
    have hx:(x.f0=y.f0/\x.f1=y.f1/\x.f2=y.f2/\x.f3=y.f3)↔x=y:=by
      cases x;cases y;simp
    by_cases hc:x=y
    · rw[decide_eq_true (hx.mpr hc),if_pos rfl,hc];simp
    · rw[decide_eq_false (λhh=>hc (hx.mp hh)),if_neg (by decide),decide_eq_false (λhh=>hc (List.cons.inj hh).1)]
theorem SameU_f {l m:List S32} {M:Nat} (hn:l.length<=9223372036854775807) (hM:∀x∈l,x.f3.length<M) (hM2:M<=9223372036854775807) {k:Nat} (hk:l.length+M<k):watchwordlaw0_SameLsas.f k l m=some (decide (l=m)):=by
  unfold watchwordlaw0_SameLsas.f
  by_cases h:l.length=m.length
  · rw[if_pos (by omega)]
    have:=SameU_l hn hM hM2 h l.length k 0 (by omega) hk
    rw[List.drop_zero,List.drop_zero]at this
    exact this
  · rw[if_neg (by omega),decide_eq_false (λe=>h (by rw[e]))]
theorem drop_at {l:List Int} {i:Nat} (h:i<l.length):l.drop i=rd l (i:Int)::l.drop (i+1):=by
  have e:rd l (i:Int)=l[i]:=by unfold rd;rw[Int.toNat_natCast,List.getD_eq_getElem?_getD,List.getElem?_eq_getElem h];rfl
  rw[List.drop_eq_getElem_cons h,e]
theorem SameInts_l {l m:List Int} (hn:l.length<=9223372036854775807) (he:l.length=m.length):∀(d k i:Nat),i+d=l.length->d<k->
    watchwordlaw0_SameInts.l0 k l m (i:Int)=some (decide (l.drop i=m.drop i)):=by
  intro d
  induction d with
  | zero=>
    intro k i hi hk
    obtain⟨k,rfl⟩:∃m,k=m+1:=⟨k-1,by omega⟩
    simp only[watchwordlaw0_SameInts.l0]
    rw[if_neg (by omega),List.drop_of_length_le (by omega),List.drop_of_length_le (by omega)]
    rfl
  | succ d ih=>
    intro k i hi hk
    obtain⟨k,rfl⟩:∃m,k=m+1:=⟨k-1,by omega⟩
    have h4:wrap64 ((i:Int)+1)=((i+1:Nat):Int):=by rw[wrap_id (by omega) (by omega)];omega
    simp only[watchwordlaw0_SameInts.l0]
    rw[if_pos (by omega),if_pos (by omega),if_pos (by omega),h4,ih k (i+1) (by omega) (by omega),drop_at (l:=l) (i:=i) (by omega),drop_at (l:=m) (i:=i) (by omega)]
    by_cases hc:rd l (i:Int)=rd m (i:Int)
    · rw[if_pos hc,hc];simp only[List.cons.injEq,true_and]
    · rw[if_neg hc];simp only[List.cons.injEq,hc,false_and,decide_false]
theorem SameInts_f {l m:List Int} (hn:l.length<=9223372036854775807) {k:Nat} (hk:l.length<k):watchwordlaw0_SameInts.f k l m=some (decide (l=m)):=by
  unfold watchwordlaw0_SameInts.f
  by_cases h:l.length=m.length
  · rw[if_pos (by omega)]
    exact SameInts_l hn h l.length k 0 (by omega) hk
  · rw[if_neg (by omega),decide_eq_false (λe=>h (by rw[e]))]
theorem copyLsa_f {r s g:Int} {l:List S56} (hl:l.length<8796093022208):watchwordlaw0_CopyLsa.f r s g l=some (r,s,g,l):=by
  simp only[watchwordlaw0_CopyLsa.f,Option.bind_some,List.length_nil,List.nil_append]
  rw[if_pos (by omega)]
theorem copyLsas_l {l:List S32} (hn:l.length<2932031007402) (hM:∀x∈l,x.f3.length<8796093022208):∀(d k i:Nat) (acc:List S32),acc.length=i->i+d=l.length->d<k->
    watchwordlaw0_CopyLsas.l0 k l acc (i:Int)=some (acc++l.drop i):=by
  intro d
  induction d with
  | zero=>
    intro k i acc ha hi hk
    obtain⟨k,rfl⟩:∃m,k=m+1:=⟨k-1,by omega⟩
    simp only[watchwordlaw0_CopyLsas.l0]
    rw[if_neg (by omega),List.drop_of_length_le (by omega),List.append_nil]
  | succ d ih=>
    intro k i acc ha hi hk
    obtain⟨k,rfl⟩:∃m,k=m+1:=⟨k-1,by omega⟩
    have hlt:i<l.length:=by omega
    have h4:wrap64 ((i:Int)+1)=((i+1:Nat):Int):=by rw[wrap_id (by omega) (by omega)];omega
    have hm:=hM _ (rdU_mem hlt)
    simp only[watchwordlaw0_CopyLsas.l0]
    rw[if_pos (by omega),if_pos (by omega),copyLsa_f hm,Option.bind_some,if_pos (by omega),h4,ih k (i+1) _ (by rw[List.length_append];simp only[List.length_cons,List.length_nil];omega) (by omega) (by omega),dropU_at hlt,List.append_assoc]
    rfl
theorem copyLsas_f {l:List S32} (hn:l.length<2932031007402) (hM:∀x∈l,x.f3.length<8796093022208) {k:Nat} (hk:l.length<k):watchwordlaw0_CopyLsas.f k l=some l:=
  copyLsas_l hn hM l.length k 0 [] rfl (by omega) hk
def AckOk (r s g m:Int):Prop:=1<=r/\r<=4/\1<=s/\s<=2147483647/\0<=g/\g<=60/\0<=m/\m<=65535
instance (r s g m:Int):Decidable (AckOk r s g m):=by unfold AckOk;infer_instance
theorem ack_Head_f (r s g m:Int):ack_Head.f r s g m=some (decide (AckOk r s g m)):=by
  unfold ack_Head.f lsa_Router.f lsa_Serial.f lsa_Age.f AckOk
  by_cases h1:r>=1
  · by_cases h2:r<=4
    · by_cases h3:s>=1
      · by_cases h4:s<=2147483647
        · by_cases h5:g>=0
          · by_cases h6:g<=60
            · by_cases h7:m>=0
              · simp[h1,h2,h3,h4,h5,h6,h7]
              · simp[h1,h2,h3,h4,h5,h6,h7]
            · simp[h1,h2,h3,h4,h5,h6]
          · simp[h1,h2,h3,h4,h5]
        · simp[h1,h2,h3,h4]
      · simp[h1,h2,h3]
    · simp[h1,h2]
  · simp[h1]
def sgn (a b:Int):Int:=if a<b then-1 else if b<a then 1 else 0
def gone (g:Int):Int:=if g=60 then 1 else 0
def cmp3 (s g m s' g' m':Int):Int:=if s≠s' then sgn s s' else if m≠m' then sgn m m' else gone g-gone g'
theorem cmp_Compare_f (a b:Int):cmp_Compare_int.f a b=some (sgn a b):=by
  have hn:∀x:Int,cmp_isNaN_int.f x=some false:=by intro x;simp[cmp_isNaN_int.f]
  simp only[cmp_Compare_int.f,hn,Option.bind_some,Bool.false_eq_true,if_false]
  unfold sgn
  by_cases h1:a<b
  · rw[if_pos h1,if_pos h1]
  · rw[if_neg h1,if_neg h1]
    by_cases h2:a>b
    · rw[if_pos h2,if_pos (show b<a from h2)]
    · rw[if_neg h2,if_neg (show ¬b<a from h2)]
theorem or_step (k:Nat) (l:List Int) (i:Nat) (h:i<l.length) (hl:l.length<=100):
    cmp_Or_int.l0 (k+1) 0 l (l.length:Int) (i:Int)=if rd l (i:Int)=0 then cmp_Or_int.l0 k 0 l (l.length:Int) ((i+1:Nat):Int)else some (rd l (i:Int)):=by
  have w:wrap64 ((i:Int)+1)=((i+1:Nat):Int):=by rw[wrap_id (by omega) (by omega)];omega
  simp only[cmp_Or_int.l0]
  rw[if_pos (by omega),if_pos (by omega),if_pos (by omega),w]
theorem or_end (k:Nat) (l:List Int):cmp_Or_int.l0 (k+1) 0 l (l.length:Int) (l.length:Int)=some 0:=by
  simp only[cmp_Or_int.l0]
  rw[if_neg (by omega)]
theorem cmp_Or_f {k:Nat} (hk:4<=k) (x y z:Int):cmp_Or_int.f k [x,y,z]=some (if x≠0 then x else if y≠0 then y else z):=by
  obtain⟨k,rfl⟩:∃m,k=m+4:=⟨k-4,by omega⟩
  have s0:=or_step (k+3) [x,y,z] 0 (by simp) (by simp)
  have s1:=or_step (k+2) [x,y,z] 1 (by simp) (by simp)
  have s2:=or_step (k+1) [x,y,z] 2 (by simp) (by simp)
  have s3:=or_end k [x,y,z]
  rw[show rd [x,y,z] ((0:Nat):Int)=x from rfl]at s0
  rw[show rd [x,y,z] ((1:Nat):Int)=y from rfl]at s1
  rw[show rd [x,y,z] ((2:Nat):Int)=z from rfl]at s2
  refine Eq.trans s0 ?_
  by_cases hx:x=0
  · rw[if_pos hx,if_neg (λh=>h hx)]
    refine Eq.trans s1 ?_
    by_cases hy:y=0
    · rw[if_pos hy,if_neg (λh=>h hy)]
      refine Eq.trans s2 ?_
      by_cases hz:z=0
      · rw[if_pos hz,hz];rw[hz]at s3;exact s3
      · rw[if_neg hz]
    · rw[if_neg hy,if_pos hy]
  · rw[if_neg hx,if_pos hx]
theorem gone_f (a b c d:Int):newer_gone.f a b c d=some (gone c):=by
  unfold newer_gone.f gone;split <;> rfl
theorem gone_range (g:Int):0<=gone g/\gone g<=1:=by unfold gone;split <;> omega
theorem sgn_zero (a b:Int):sgn a b=0↔a=b:=by
  unfold sgn
  by_cases h1:a<b
  · rw[if_pos h1];omega
  · rw[if_neg h1]
    by_cases h2:b<a
    · rw[if_pos h2];omega
    · rw[if_neg h2];omega
theorem or_cmp3 (s g m s' g' m':Int):(if sgn s s'≠0 then sgn s s' else if sgn m m'≠0 then sgn m m' else gone g-gone g')=cmp3 s g m s' g' m':=by
  unfold cmp3
  simp only[ne_eq,sgn_zero]
theorem newer_j0 {k:Nat} (hk:4<=k) (a0 a1 a2 a3 b0 b1 b2 b3:Int):newer_Compare.j0 (k+1) false a0 a1 a2 a3 b0 b1 b2 b3=some (cmp3 a1 a2 a3 b1 b2 b3,0):=by
  have h1:=gone_range a2
  have h2:=gone_range b2
  have hw:wrap64 (gone a2-gone b2)=gone a2-gone b2:=wrap_id (by omega) (by omega)
  simp only[newer_Compare.j0,Bool.false_eq_true,if_false,cmp_Compare_f,gone_f,Option.bind_some,hw,cmp_Or_f hk,or_cmp3]
theorem newer_Compare_f {k:Nat} (hk:5<=k) (a0 a1 a2 a3 b0 b1 b2 b3:Int):newer_Compare.f k a0 a1 a2 a3 b0 b1 b2 b3=
    some (if AckOk a0 a1 a2 a3/\AckOk b0 b1 b2 b3/\a0=b0 then(cmp3 a1 a2 a3 b1 b2 b3,0)else(0,1700)):=by
  obtain⟨k,rfl⟩:∃m,k=m+1:=⟨k-1,by omega⟩
  have ht:newer_Compare.j0 (k+1) true a0 a1 a2 a3 b0 b1 b2 b3=some (0,1700):=by simp[newer_Compare.j0]
  simp only[newer_Compare.f,ack_Head_f,Option.bind_some,decide_eq_true_eq]
  by_cases h1:AckOk a0 a1 a2 a3
  · rw[if_pos h1]
    by_cases h2:AckOk b0 b1 b2 b3
    · rw[if_pos h2]
      by_cases h3:a0=b0
      · have:(a0 !=b0)=false:=by simp[h3]
        rw[this,newer_j0 (by omega),if_pos ⟨h1,h2,h3⟩]
      · have:(a0 !=b0)=true:=by simp[h3]
        rw[this,ht,if_neg (λh=>h3 h.2.2)]
    · rw[if_neg h2,ht,if_neg (λh=>h2 h.2.1)]
  · rw[if_neg h1,ht,if_neg (λh=>h1 h.1)]
section
variable {α : Type}
def rises (ok:α->Bool) (key:α->Int):Int->List α->Bool
  |_,[]=>true
  |p,x::l=>if ok x=true/\p<key x then rises ok key (key x) l else false
def ins (key:α->Int) (x:α):List α->List α
  | []=>[x]
  |y::l=>if key y<key x then y::ins key x l else if key y=key x then x::l else x::y::l
def look (key:α->Int) (q:Int):List α->Option α
  | []=>none
  |y::l=>if key y=q then some y else look key q l
variable {ok : α → Bool} {key : α → Int}
theorem rises_cons {p:Int} {x:α} {l:List α} :rises ok key p (x::l)=true↔(ok x=true/\p<key x)/\rises ok key (key x) l=true:=by
  show(if ok x=true/\p<key x then rises ok key (key x) l else false)=true↔_
  by_cases h:ok x=true/\p<key x
  · rw[if_pos h];exact⟨λh'=>⟨h,h'⟩,λh'=>h'.2⟩
  · rw[if_neg h];constructor
    · intro h';cases h'
    · intro h';exact absurd h'.1 h
theorem rises_lower:∀ {l:List α} {p q:Int},rises ok key p l=true->q<=p->rises ok key q l=true
  | [],_,_,_,_=>rfl
  | x::l,p,q,h,hq=>by
    obtain⟨⟨h1,h2⟩,h3⟩:=rises_cons.mp h
    exact rises_cons.mpr ⟨⟨h1,by omega⟩,h3⟩
theorem rises_mem:∀ {l:List α} {p:Int},rises ok key p l=true->∀x∈l,ok x=true/\p<key x
  | [],_,_,_,hx=>by cases hx
  | y::l,p,h,x,hx=>by
    obtain⟨⟨h1,h2⟩,h3⟩:=rises_cons.mp h
    rcases List.mem_cons.mp hx with rfl|hx
    · exact⟨h1,h2⟩
    · have:=rises_mem h3 x hx
      exact⟨this.1,by omega⟩
theorem rises_length:∀ {l:List α} {p:Int} (b:Int),rises ok key p l=true->(∀x,ok x=true->key x<=b)->p<=b->(l.length:Int)<=b-p
  | [],p,b,_,_,hp=>by simp;omega
  | x::l,p,b,h,hb,hp=>by
    obtain⟨⟨h1,h2⟩,h3⟩:=rises_cons.mp h
    have:=rises_length b h3 hb (hb x h1)
    simp only[List.length_cons];omega
theorem rises_ok {l:List α} {p:Int} (h:rises ok key p l=true) {i:Nat} (hi:i<l.length):ok l[i]=true:=(rises_mem h _ (List.getElem_mem hi)).1
theorem ins_rises:∀ {l:List α} {p:Int} {x:α},rises ok key p l=true->ok x=true->p<key x->rises ok key p (ins key x l)=true
  | [],p,x,_,h1,h2=>rises_cons.mpr ⟨⟨h1,h2⟩,rfl⟩
  | y::l,p,x,h,h1,h2=>by
    obtain⟨⟨a1,a2⟩,a3⟩:=rises_cons.mp h
    show rises ok key p (if key y<key x then y::ins key x l else if key y=key x then x::l else x::y::l)=true
    by_cases c1:key y<key x
    · rw[if_pos c1];exact rises_cons.mpr ⟨⟨a1,a2⟩,ins_rises a3 h1 c1⟩
    · rw[if_neg c1]
      by_cases c2:key y=key x
      · rw[if_pos c2];exact rises_cons.mpr ⟨⟨h1,h2⟩,rises_lower a3 (by omega)⟩
      · rw[if_neg c2];exact rises_cons.mpr ⟨⟨h1,h2⟩,rises_cons.mpr ⟨⟨a1,by omega⟩,a3⟩⟩
theorem look_lt:∀ {l:List α} {p q:Int},rises ok key p l=true->q<=p->look key q l=none
  | [],_,_,_,_=>rfl
  | x::l,p,q,h,hq=>by
    obtain⟨⟨h1,h2⟩,h3⟩:=rises_cons.mp h
    unfold look
    rw[if_neg (by omega)]
    exact look_lt h3 (by omega)
theorem look_mem:∀ {l:List α} {q:Int} {x:α},look key q l=some x->x∈l/\key x=q
  | [],_,_,h=>by cases h
  | y::l,q,x,h=>by
    unfold look at h
    by_cases c:key y=q
    · rw[if_pos c]at h;obtain rfl:=Option.some.inj h;exact⟨List.mem_cons_self,c⟩
    · rw[if_neg c]at h;have:=look_mem h;exact⟨List.mem_cons_of_mem _ this.1,this.2⟩
structure Place (key:α->Int) (l:List α) (q:Int) (p:Nat):Prop where
  le:p<=l.length
  lo:∀j (h:j<l.length),j<p->key l[j]<q
  hi:∀j (h:j<l.length),p<=j->q<=key l[j]
theorem place_of:∀ {l:List α} {p:Int},rises ok key p l=true->∀q,∃m,Place key l q m
  | [],_,_,q=>⟨0,by simp,λ_ h=>by simp at h,λ_ h=>by simp at h⟩
  | x::l,p,h,q=>by
    obtain⟨⟨h1,h2⟩,h3⟩:=rises_cons.mp h
    by_cases c:key x<q
    · obtain⟨m,hm⟩:=place_of h3 q
      refine⟨m+1,by simpa using hm.le,λj hj h=>?_,λj hj h=>?_⟩
      · cases j with
        |zero=>exact c
        |succ j=>exact hm.lo j (by simpa using hj) (by omega)
      · obtain⟨j,rfl⟩:∃m,j=m+1:=⟨j-1,by omega⟩
        exact hm.hi j (by simpa using hj) (by omega)
    · refine⟨0,Nat.zero_le _,λj _ h=>by omega,λj hj _=>?_⟩
      cases j with
      |zero=>show q<=key x;omega
      | succ j=>
        have hj':j<l.length:=by simpa using hj
        have:=(rises_mem h3 _ (List.getElem_mem hj')).2
        simp only[List.getElem_cons_succ];omega
theorem ins_place:∀ {l:List α} {b:Int} {x:α} {m:Nat},rises ok key b l=true->Place key l (key x) m->
    (∀h:m<l.length,key l[m]=key x->ins key x l=l.set m x)/\((∀h:m<l.length,key l[m]≠key x)->ins key x l=l.take m++[x]++l.drop m)
  | [],_,x,m,_,P=>by
    have:=P.le
    obtain rfl:m=0:=by simpa using this
    exact⟨λh=>by simp at h,λ_=>rfl⟩
  | y::l,b,x,m,h,P=>by
    obtain⟨⟨h1,h2⟩,h3⟩:=rises_cons.mp h
    cases m with
    | zero=>
      have c1:=P.hi 0 (by simp) (Nat.le_refl _)
      simp only[List.getElem_cons_zero]at c1
      refine⟨λ_ e=>?_,λe=>?_⟩
      · simp only[List.getElem_cons_zero]at e
        unfold ins;rw[if_neg (by omega),if_pos e];rfl
      · have e:=e (by simp)
        simp only[List.getElem_cons_zero]at e
        unfold ins;rw[if_neg (by omega),if_neg e];rfl
    | succ m=>
      have c1:=P.lo 0 (by simp) (by omega)
      simp only[List.getElem_cons_zero]at c1
      have P':Place key l (key x) m:=⟨by have:=P.le;simpa using this,λj hj hm=>P.lo (j+1) (by simpa using hj) (by omega),λj hj hm=>P.hi (j+1) (by simpa using hj) (by omega)⟩
      have ih:=ins_place h3 P'
      refine⟨λhl e=>?_,λe=>?_⟩
      · simp only[List.getElem_cons_succ]at e
        unfold ins;rw[if_pos c1,ih.1 (by simpa using hl) e];rfl
      · unfold ins;rw[if_pos c1,ih.2 (λhl=>by have:=e (by simpa using hl);simpa using this)];rfl
theorem look_place:∀ {l:List α} {b q:Int} {m:Nat},rises ok key b l=true->Place key l q m->
    (∀h:m<l.length,key l[m]=q->look key q l=some l[m])/\((∀h:m<l.length,key l[m]≠q)->look key q l=none)
  | [],_,q,m,_,P=>⟨λh=>by simp at h,λ_=>rfl⟩
  | y::l,b,q,m,h,P=>by
    obtain⟨⟨h1,h2⟩,h3⟩:=rises_cons.mp h
    cases m with
    | zero=>
      have c1:=P.hi 0 (by simp) (Nat.le_refl _)
      simp only[List.getElem_cons_zero]at c1
      refine⟨λ_ e=>?_,λe=>?_⟩
      · simp only[List.getElem_cons_zero]at e
        unfold look;rw[if_pos e];rfl
      · have e:=e (by simp)
        simp only[List.getElem_cons_zero]at e
        unfold look;rw[if_neg e]
        exact look_lt h3 (by omega)
    | succ m=>
      have c1:=P.lo 0 (by simp) (by omega)
      simp only[List.getElem_cons_zero]at c1
      have P':Place key l q m:=⟨by have:=P.le;simpa using this,λj hj hm=>P.lo (j+1) (by simpa using hj) (by omega),λj hj hm=>P.hi (j+1) (by simpa using hj) (by omega)⟩
      have ih:=look_place h3 P'
      refine⟨λhl e=>?_,λe=>?_⟩
      · simp only[List.getElem_cons_succ]at e
        unfold look;rw[if_neg (by omega),ih.1 (by simpa using hl) e];rfl
      · unfold look;rw[if_neg (by omega)];exact ih.2 (λhl=>by have:=e (by simpa using hl);simpa using this)
end
def ukey (x:S32):Int:=x.f0
def sok (x:S32):Bool:=decide (UsOk x/\x.f2<60)
theorem sok_iff {x:S32} :sok x=true↔UsOk x/\x.f2<60:=by unfold sok;exact decide_eq_true_iff
theorem sok_key {x:S32} (h:sok x=true):1<=ukey x/\ukey x<=4:=by have:=(sok_iff.1 h).1;exact⟨this.1,this.2.1⟩
abbrev St (l:List S32):Bool:=rises sok ukey 0 l
theorem upd_rises:∀(l:List S32) (p:Int),(upd p l&&l.all λx=>decide (x.f2<60))=rises sok ukey p l
  | [],_=>rfl
  | x::l,p=>by
    show((if UsOk x/\p<x.f0 then upd x.f0 l else false)&&_)=(if sok x=true/\p<ukey x then rises sok ukey (ukey x) l else false)
    rw[List.all_cons]
    by_cases h:UsOk x/\p<x.f0
    · rw[if_pos h]
      by_cases h2:x.f2<60
      · rw[if_pos ⟨sok_iff.2 ⟨h.1,h2⟩,h.2⟩,<-upd_rises l (ukey x),decide_eq_true h2,Bool.true_and];rfl
      · rw[if_neg (λz=>h2 (sok_iff.1 z.1).2),decide_eq_false h2];simp
    · rw[if_neg h,if_neg (λz=>h ⟨(sok_iff.1 z.1).1,z.2⟩)];rfl
theorem st_len {l:List S32} (h:St l=true):l.length<=4:=by
  have:=rises_length (ok:=sok) (key:=ukey) 4 h (λx hx=>(sok_key hx).2) (by omega)
  omega
theorem st_links {l:List S32} (h:St l=true):∀x∈l,x.f3.length<=4:=λx hx=>usOk_len (sok_iff.1 (rises_mem h x hx).1).1
theorem nx {i:Nat} (h:i<=4611686018427387904):wrap64 ((i:Int)+1)=((i+1:Nat):Int):=by rw[wrap_id (by omega) (by omega)];omega
theorem age_f (a b c:Int) (l:List S56):store_May_1.f a b c l=some (decide (c>=60)):=rfl
theorem idx_l {l:List S32} (hn:l.length<=4611686018427387904):∀(d k i:Nat),i+d=l.length->d<k->∃r:Int,api_Lsa_56.l0 k l (l.length:Int) (i:Int)=some r/\decide (r>=0)= !((l.drop i).all λx=>decide (x.f2<60)):=by
  intro d
  induction d with
  | zero=>
    intro k i hi hk
    obtain⟨k,rfl⟩:∃m,k=m+1:=⟨k-1,by omega⟩
    refine⟨-1,?_,by rw[List.drop_of_length_le (by omega)];rfl⟩
    simp only[api_Lsa_56.l0]
    rw[if_neg (by omega)]
  | succ d ih=>
    intro k i hi hk
    obtain⟨k,rfl⟩:∃m,k=m+1:=⟨k-1,by omega⟩
    have hlt:i<l.length:=by omega
    rw[dropU_at hlt,List.all_cons]
    simp only[api_Lsa_56.l0,age_f,Option.bind_some,decide_eq_true_eq]
    rw[if_pos (by omega),if_pos (by omega),if_pos (by omega),nx (by omega)]
    by_cases c:(rd_T32 l (i:Int)).f2 >=60
    · rw[if_pos c,decide_eq_false (show ¬(rd_T32 l (i:Int)).f2 <60 by omega)]
      exact⟨_,rfl,by rw[decide_eq_true (show(i:Int)>=0 by omega)];rfl⟩
    · rw[if_neg c,decide_eq_true (show(rd_T32 l (i:Int)).f2 <60 by omega),Bool.true_and]
      exact ih k (i+1) (by omega) (by omega)
theorem May_f {l:List S32} {M:Nat} (hn:l.length<=4611686018427387904) (hM:∀x∈l,x.f3.length<M) (hM2:M<=9223372036854775807) {k:Nat} (hk:l.length+M<k):store_May.f k l=some (St l):=by
  unfold store_May.f
  rw[update_May_f (by omega) hM hM2 hk]
  simp only[Option.bind_some]
  unfold St
  rw[<-upd_rises]
  by_cases h:upd 0 l=true
  · rw[if_pos h,h]
    obtain⟨r,e,hr⟩:=idx_l hn l.length k 0 (by omega) (by omega)
    unfold api_Lsa_36.f api_Lsa_56.f
    rw[show api_Lsa_56.l0 k l (l.length:Int) 0=some r from e]
    simp only[Option.bind_some]
    rw[hr]
    simp
  · rw[if_neg h,Bool.eq_false_iff.mpr h];rfl
theorem cloneL_f {l:List S56} (h:l.length<8796093022208):api_Link.f l=some l:=by
  unfold api_Link.f
  simp only[Option.bind_some,List.length_nil,List.nil_append]
  rw[if_pos (by omega)]
theorem copy_l {l:List S32} (hn:l.length<=4611686018427387904) (hL:∀x∈l,x.f3.length<8796093022208):∀(d k i:Nat),i+d=l.length->d<k->store_Copy.l0 k l (l.length:Int) (i:Int)=some l:=by
  intro d
  induction d with
  | zero=>
    intro k i hi hk
    obtain⟨k,rfl⟩:∃m,k=m+1:=⟨k-1,by omega⟩
    simp only[store_Copy.l0]
    rw[if_neg (by omega)]
  | succ d ih=>
    intro k i hi hk
    obtain⟨k,rfl⟩:∃m,k=m+1:=⟨k-1,by omega⟩
    have hlt:i<l.length:=by omega
    simp only[store_Copy.l0]
    rw[if_pos (by omega),if_pos (by omega),if_pos (by omega),cloneL_f (hL _ (rdU_mem hlt)),nx (by omega)]
    simp only[Option.bind_some,Int.toNat_natCast]
    have e:l.set i (⟨(rd_T32 l (i:Int)).f0,(rd_T32 l (i:Int)).f1,(rd_T32 l (i:Int)).f2,(rd_T32 l (i:Int)).f3⟩:S32)=l:=by
      rw[rdU_at hlt]
      exact List.set_getElem_self hlt
    rw[e]
    exact ih k (i+1) (by omega) (by omega)
theorem Copy_f {l:List S32} (hn:l.length<2932031007402) (hL:∀x∈l,x.f3.length<8796093022208) {k:Nat} (hk:l.length<k):store_Copy.f k l=some l:=by
  unfold store_Copy.f api_Lsa_50.f
  simp only[Option.bind_some,List.length_nil,List.nil_append]
  rw[if_pos (by omega)]
  exact copy_l (by omega) hL l.length k 0 (by omega) hk
theorem midw {i j:Nat} (h:i+j<=4611686018427387904):wrap64 ((i:Int)+(j:Int))=((i+j:Nat):Int)/\IntKind.u64.wrap (((i+j:Nat):Int))=((i+j:Nat):Int)/\(((i+j:Nat):Int))/2=(((i+j)/2:Nat):Int)/\wrap64 ((((i+j)/2:Nat):Int))=(((i+j)/2:Nat):Int)/\wrap64 ((((i+j)/2:Nat):Int)+1)=(((i+j)/2+1:Nat):Int):=by
  refine⟨?_,IntWalk.u64_in _ ⟨by omega,by omega⟩,by omega,wrap_id (by omega) (by omega),?_⟩
  · rw[wrap_id (by omega) (by omega)];omega
  · rw[wrap_id (by omega) (by omega)];omega
theorem at1_f (a b c:Int) (l:List S56) (r:Int):store_at_1.f a b c l r=some (wrap64 (a-r)):=rfl
theorem bs_any {l:List S32} (hn:l.length<=2305843009213693952) (t:Int):∀(d k i j:Nat),i+d=j->d<k->j<=l.length->
    ∃(m:Nat) (b:Bool),api_Lsa_int.l0 k l t (l.length:Int) (i:Int) (j:Int)=some ((m:Int),b)/\m<=l.length/\(b=true->m<l.length/\wrap64 ((rd_T32 l (m:Int)).f0 -t)=0):=by
  intro d
  induction d using Nat.strongRecOn with
  | _ d ih=>
    intro k i j hij hk hjn
    obtain⟨k,rfl⟩:∃q,k=q+1:=⟨k-1,by omega⟩
    simp only[api_Lsa_int.l0,at1_f,Option.bind_some]
    by_cases h0:i<j
    · have hh:(i+j)/2<l.length:=by omega
      obtain⟨e1,e2,e3,e4,e5⟩:=midw (i:=i) (j:=j) (by omega)
      simp only[e1,e2,e3,e4,e5]
      clear e1 e2 e3 e4 e5
      rw[if_pos (by omega),if_pos (by omega),if_pos (by omega)]
      by_cases hc:wrap64 ((rd_T32 l (((i+j)/2:Nat):Int)).f0 -t)<0
      · rw[if_pos hc]
        exact ih (j-((i+j)/2+1)) (by omega) k ((i+j)/2+1) j (by omega) (by omega) hjn
      · rw[if_neg hc]
        exact ih ((i+j)/2-i) (by omega) k i ((i+j)/2) (by omega) (by omega) (by omega)
    · rw[if_neg (by omega)]
      by_cases hl:i<l.length
      · rw[if_pos (by omega),if_pos (by omega),if_pos (by omega)]
        exact⟨i,_,rfl,by omega,λhb=>⟨hl,by simpa using hb⟩⟩
      · rw[if_neg (by omega)]
        exact⟨i,false,rfl,by omega,λh=>by cases h⟩
theorem bs_l {l:List S32} {t p:Int} {m:Nat} (hr:rises sok ukey p l=true) (ht:1<=t/\t<=4) (P:Place ukey l t m) (hn:l.length<=1000):
    ∀(d k i j:Nat),i+d=j->d<k->i<=m->m<=j->j<=l.length->
    api_Lsa_int.l0 k l t (l.length:Int) (i:Int) (j:Int)=some ((m:Int),if h:m<l.length then decide (ukey l[m]=t)else false):=by
  intro d
  induction d using Nat.strongRecOn with
  | _ d ih=>
    intro k i j hij hk him hmj hjn
    obtain⟨k,rfl⟩:∃q,k=q+1:=⟨k-1,by omega⟩
    have hw:∀ {q:Nat} (h:q<l.length),wrap64 (l[q].f0 -t)=ukey l[q]-t:=by
      intro q h
      have:=sok_key (rises_ok hr h)
      unfold ukey at this |-
      rw[wrap_id (by omega) (by omega)]
    simp only[api_Lsa_int.l0,at1_f,Option.bind_some]
    by_cases h0:i<j
    · have hh:(i+j)/2<l.length:=by omega
      obtain⟨e1,e2,e3,e4,e5⟩:=midw (i:=i) (j:=j) (by omega)
      simp only[e1,e2,e3,e4,e5,rdU_at hh]
      clear e1 e2 e3 e4 e5
      rw[if_pos (by omega),if_pos (by omega),if_pos (by omega)]
      simp only[hw hh]
      by_cases hc:ukey l[(i+j)/2]-t<0
      · rw[if_pos hc]
        have hm:(i+j)/2<m:=by
          apply Nat.lt_of_not_le;intro hle
          have:=P.hi _ hh hle;omega
        exact ih (j-((i+j)/2+1)) (by omega) k ((i+j)/2+1) j (by omega) (by omega) (by omega) hmj hjn
      · rw[if_neg hc]
        have hm:m<=(i+j)/2:=by
          apply Nat.le_of_not_lt;intro hlt
          have:=P.lo _ hh hlt;omega
        exact ih ((i+j)/2-i) (by omega) k i ((i+j)/2) (by omega) (by omega) him hm (by omega)
    · obtain rfl:i=m:=by omega
      rw[if_neg (by omega)]
      by_cases hl:i<l.length
      · rw[if_pos (by omega),if_pos (by omega),if_pos (by omega)]
        simp only[rdU_at hl,hw hl,dif_pos hl]
        congr 2
        by_cases hc:ukey l[i]=t
        · rw[hc];simp
        · have:ukey l[i]-t≠0:=by omega
          simp[this,hc]
      · rw[if_neg (by omega),dif_neg hl]
theorem at_f {l:List S32} {t p:Int} {m k:Nat} (hr:rises sok ukey p l=true) (ht:1<=t/\t<=4) (P:Place ukey l t m) (hn:l.length<=1000) (hk:l.length<k):
    store_at.f k l t=some ((m:Int),if h:m<l.length then decide (ukey l[m]=t)else false):=by
  unfold store_at.f api_Lsa_int.f
  rw[show api_Lsa_int.l0 k l t (l.length:Int) 0 (l.length:Int)=_ from bs_l hr ht P hn l.length k 0 l.length (by omega) hk (by omega) P.le (Nat.le_refl _)]
  rfl
theorem at_any {l:List S32} (hn:l.length<=2305843009213693952) (t:Int) {k:Nat} (hk:l.length<k):∃(m:Nat) (b:Bool),store_at.f k l t=some ((m:Int),b)/\m<=l.length/\(b=true->m<l.length/\wrap64 ((rd_T32 l (m:Int)).f0 -t)=0):=by
  obtain⟨m,b,e,h1,h2⟩:=bs_any hn t l.length k 0 l.length (by omega) hk (Nat.le_refl _)
  refine⟨m,b,?_,h1,h2⟩
  unfold store_at.f api_Lsa_int.f
  rw[show api_Lsa_int.l0 k l t (l.length:Int) 0 (l.length:Int)=_ from e]
  rfl
def tellF:Option S32->Int × Int × Int × (List S56) × Bool
  |none=>(0,0,0,[],false)
  |some y=>(y.f0,y.f1,y.f2,y.f3,true)
theorem Find_f {l:List S32} (h:St l=true) {t:Int} (ht:1<=t/\t<=4) {k:Nat} (hk:20<=k):store_Find.f k l t=some (tellF (look ukey t l)):=by
  have hl:=st_len h
  have hL:=st_links h
  obtain⟨m,P⟩:=place_of h t
  have lp:=look_place h P
  unfold store_Find.f
  rw[at_f h ht P (by omega) (by omega),May_f (M:=5) (by omega) (λx hx=>by have:=hL x hx;omega) (by omega) (by omega),h]
  simp only[Option.bind_some,if_true]
  by_cases hm:m<l.length
  · rw[dif_pos hm]
    by_cases hc:ukey l[m]=t
    · rw[decide_eq_true hc,if_pos rfl,if_pos (by omega),if_pos (by omega),rdU_at hm,cloneL_f (by have:=hL _ (List.getElem_mem hm);omega),lp.1 hm hc]
      rfl
    · rw[decide_eq_false hc,if_neg (by decide),lp.2 (λ_=>hc)]
      rfl
  · rw[dif_neg hm,if_neg (by decide),lp.2 (λh=>absurd h hm)]
    rfl
theorem Find_bad {l:List S32} {M:Nat} (hn:l.length<=2305843009213693952) (hM:∀x∈l,x.f3.length<M) (hM2:M<=9223372036854775807) {k:Nat} (hk:l.length+M<k) (h:St l=false) (t:Int):store_Find.f k l t=some (0,0,0,[],false):=by
  obtain⟨m,b,e,h1,h2⟩:=at_any hn t (show l.length<k by omega)
  unfold store_Find.f
  rw[e,May_f (by omega) hM hM2 hk,h]
  simp
def mark (x:S32):Int:=flSum (bodyB x.f0 x.f1 x.f3)
def nwr (x y:S32):Bool:=decide (cmp3 x.f1 x.f2 (mark x) y.f1 y.f2 (mark y)>0)
theorem Newer_f {x y:S32} (hx:UsOk x) (hy:UsOk y) (hk:x.f0=y.f0) {k:Nat} (h:30<=k):store_Newer.f k x.f0 x.f1 x.f2 x.f3 y.f0 y.f1 y.f2 y.f3=some (nwr x y):=by
  have lx:=usOk_len hx
  have ly:=usOk_len hy
  have mx:=flSum_range (bodyB x.f0 x.f1 x.f3)
  have my:=flSum_range (bodyB y.f0 y.f1 y.f3)
  unfold store_Newer.f
  rw[lsa_Head_f (by omega) (by omega) (by omega),lsa_Head_f (by omega) (by omega) (by omega),if_pos (show LsaOk x.f0 x.f1 x.f2 x.f3 from hx),if_pos (show LsaOk y.f0 y.f1 y.f2 y.f3 from hy)]
  simp only[Option.bind_some]
  have ax:AckOk x.f0 x.f1 x.f2 (flSum (bodyB x.f0 x.f1 x.f3)):=⟨hx.1,hx.2.1,hx.2.2.1,hx.2.2.2.1,hx.2.2.2.2.1,hx.2.2.2.2.2.1,mx.1,by omega⟩
  have ay:AckOk y.f0 y.f1 y.f2 (flSum (bodyB y.f0 y.f1 y.f3)):=⟨hy.1,hy.2.1,hy.2.2.1,hy.2.2.2.1,hy.2.2.2.2.1,hy.2.2.2.2.2.1,my.1,by omega⟩
  rw[newer_Compare_f (by omega),if_pos ⟨ax,ay,hk⟩]
  rfl
def del (q:Int):List S32->List S32
  | []=>[]
  |y::l=>if ukey y=q then l else y::del q l
theorem del_place:∀ {l:List S32} {b q:Int} {m:Nat},rises sok ukey b l=true->Place ukey l q m->∀h:m<l.length,ukey l[m]=q->del q l=l.take m++l.drop (m+1)
  | [],_,_,m,_,_,h,_=>by simp at h
  | y::l,b,q,m,h,P,hm,e=>by
    obtain⟨⟨h1,h2⟩,h3⟩:=rises_cons.mp h
    cases m with
    | zero=>
      simp only[List.getElem_cons_zero]at e
      unfold del;rw[if_pos e];rfl
    | succ m=>
      have c1:=P.lo 0 (by simp) (by omega)
      simp only[List.getElem_cons_zero]at c1
      simp only[List.getElem_cons_succ]at e
      have P':Place ukey l q m:=⟨by have:=P.le;simpa using this,λj hj hm=>P.lo (j+1) (by simpa using hj) (by omega),λj hj hm=>P.hi (j+1) (by simpa using hj) (by omega)⟩
      unfold del;rw[if_neg (by omega),del_place h3 P' (by simpa using hm) e];rfl
theorem del_rises:∀ {l:List S32} {p q:Int},rises sok ukey p l=true->rises sok ukey p (del q l)=true
  | [],_,_,_=>rfl
  | y::l,p,q,h=>by
    obtain⟨⟨h1,h2⟩,h3⟩:=rises_cons.mp h
    unfold del
    by_cases c:ukey y=q
    · rw[if_pos c];exact rises_lower h3 (by omega)
    · rw[if_neg c];exact rises_cons.mpr ⟨⟨h1,h2⟩,del_rises h3⟩
def withC (l:List S32) (x:S32):List S32 × Bool × Int:=
  match look ukey (ukey x) l with
  |none=>if x.f2=60 then(l,false,0)else(ins ukey x l,true,0)
  |some y=>if nwr x y=true then(if x.f2=60 then(del (ukey x) l,true,0)else(ins ukey x l,true,0))else(l,false,0)
theorem put_f {l:List S32} (h:St l=true) {x:S32} (hx:UsOk x):store_Put.f l x.f0 x.f1 x.f2 x.f3=some (ins ukey x l):=by
  have hl:=st_len h
  have hlx:=usOk_len hx
  obtain⟨m,P⟩:=place_of h (ukey x)
  have ip:=ins_place h P
  have hm:=P.le
  unfold store_Put.f store_Put.g
  rw[at_f h ⟨hx.1,hx.2.1⟩ P (by omega) (by omega),cloneL_f (by omega)]
  simp only[Option.bind_some]
  have key:∀b:Bool,(if h:m<l.length then decide (ukey l[m]=x.f0)else false)=b->(b=true->∃h:m<l.length,ukey l[m]=ukey x)/\(b=false->∀h:m<l.length,ukey l[m]≠ukey x):=by
    intro b hb
    by_cases hc:m<l.length
    · rw[dif_pos hc]at hb
      refine⟨λe=>⟨hc,?_⟩,λe _=>?_⟩
      · subst e;exact of_decide_eq_true hb
      · subst e;exact of_decide_eq_false hb
    · rw[dif_neg hc]at hb
      subst hb
      exact⟨λe=>(by cases e),λ_ h=>absurd h hc⟩
  generalize hb:(if h:m<l.length then decide (ukey l[m]=x.f0)else false)=b
  obtain⟨k1,k2⟩:=key b hb
  cases b with
  | true=>
    obtain⟨h1,h2⟩:=k1 rfl
    rw[if_pos rfl,if_pos (by omega),if_pos (by omega),Int.toNat_natCast,ip.1 h1 h2]
  | false=>
    have h2:=k2 rfl
    rw[if_neg (by decide)]
    unfold api_Lsa_55.f
    rw[if_pos ⟨by omega,by omega,by omega⟩,Int.toNat_natCast]
    simp only[Option.bind_some]
    have hlen:(l.take m++[(⟨0,0,0,([]:List S56)⟩:S32)]++l.drop m).length =l.length+1:=by
      simp only[List.length_append,List.length_take,List.length_drop,List.length_singleton];omega
    rw[if_pos (by omega),if_pos (by rw[hlen];omega),ip.2 h2]
    have ht:(l.take m).length =m:=by rw[List.length_take];omega
    rw[List.append_assoc,List.set_append_right _ _ (by omega),ht,Nat.sub_self]
    rw[List.append_assoc]
    rfl
theorem With_f {l:List S32} (h:St l=true) {x:S32} (hx:UsOk x) {k:Nat} (hk:40<=k):store_With.f k l x.f0 x.f1 x.f2 x.f3=some (withC l x):=by
  have hl:=st_len h
  have hL:=st_links h
  have hlx:=usOk_len hx
  obtain⟨m,P⟩:=place_of h (ukey x)
  have lp:=look_place h P
  obtain⟨k,rfl⟩:∃q,k=q+2:=⟨k-2,by omega⟩
  unfold store_With.f
  rw[May_f (M:=5) (by omega) (λy hy=>by have:=hL y hy;omega) (by omega) (by omega),h,lsa_May_f (by omega) (by omega),show decide (LsaOk x.f0 x.f1 x.f2 x.f3)=true from decide_eq_true hx]
  simp only[Option.bind_some,if_true,Bool.not_true]
  simp only[store_With.j0]
  rw[if_neg (by decide),Copy_f (by omega) (λy hy=>by have:=hL y hy;omega) (by omega)]
  simp only[Option.bind_some]
  rw[at_f h ⟨hx.1,hx.2.1⟩ P (by omega) (by omega)]
  simp only[Option.bind_some]
  have j1t:∀g:Bool,store_With.j1 (k+1) l (m:Int) g true x.f0 x.f1 x.f2 x.f3=some (l,false,0):=by
    intro g;simp only[store_With.j1];rw[if_pos trivial]
  have j1p:store_With.j1 (k+1) l (m:Int) false false x.f0 x.f1 x.f2 x.f3=some (ins ukey x l,true,0):=by
    simp only[store_With.j1];rw[if_neg (by decide),if_neg (by decide),put_f h hx];rfl
  unfold withC
  by_cases hm:m<l.length
  · rw[dif_pos hm]
    by_cases hc:ukey l[m]=x.f0
    · rw[decide_eq_true hc,if_pos rfl,if_pos (by omega),if_pos (by omega),rdU_at hm,lp.1 hm hc]
      have hy:UsOk l[m]:=(sok_iff.1 (rises_ok h hm)).1
      rw[Newer_f hx hy hc.symm (by omega)]
      simp only[Option.bind_some]
      by_cases hn:nwr x l[m]=true
      · rw[hn,if_pos rfl,Bool.not_true]
        by_cases hg:x.f2=60
        · rw[if_pos hg,show(x.f2==60)=true by simp[hg]]
          simp only[store_With.j1]
          rw[if_neg (by decide),if_pos trivial]
          unfold api_Lsa_31.f
          rw[if_pos ⟨by omega,by omega,by rw[nx (by omega)];omega⟩,Int.toNat_natCast,del_place h P hm hc]
          rfl
        · rw[if_neg hg,show(x.f2==60)=false by simp[hg]]
          exact j1p
      · rw[if_neg hn,Bool.eq_false_iff.mpr hn,Bool.not_false]
        exact j1t _
    · rw[decide_eq_false hc,if_neg (by decide),lp.2 (λ_=>hc)]
      by_cases hg:x.f2=60
      · rw[if_pos hg,if_pos hg];exact j1t _
      · rw[if_neg hg,if_neg hg,show(x.f2==60)=false by simp[hg]];exact j1p
  · rw[dif_neg hm,if_neg (by decide),lp.2 (λh=>absurd h hm)]
    by_cases hg:x.f2=60
    · rw[if_pos hg,if_pos hg];exact j1t _
    · rw[if_neg hg,if_neg hg,show(x.f2==60)=false by simp[hg]];exact j1p
theorem With_bad {l:List S32} {M:Nat} (hn:l.length<=4611686018427387904) (hM:∀y∈l,y.f3.length<M) (hM2:M<=9223372036854775807) {k:Nat} (hk:l.length+M<k) {r s g:Int} {ls:List S56} (hl:ls.length<=9223372036854775807) (hkl:ls.length<k) (h1:1<=k)
    (h:¬(St l=true/\LsaOk r s g ls)):store_With.f k l r s g ls=some ([],false,1800):=by
  obtain⟨q,rfl⟩:∃q,k=q+1:=⟨k-1,by omega⟩
  have bad:store_With.j0 (q+1) l true r s g ls=some ([],false,1800):=by simp only[store_With.j0];rw[if_pos trivial]
  unfold store_With.f
  rw[May_f hn hM hM2 hk,lsa_May_f hl hkl]
  simp only[Option.bind_some]
  by_cases hs:St l=true
  · rw[if_pos hs,decide_eq_false (λz=>h ⟨hs,z⟩),Bool.not_false];exact bad
  · rw[if_neg hs];exact bad
theorem with_st {l:List S32} (h:St l=true) {x:S32} (hx:UsOk x):St (withC l x).1 =true:=by
  have h60:x.f2<=60:=hx.2.2.2.2.2.1
  have hi:x.f2≠60->St (ins ukey x l)=true:=λhg=>ins_rises h (sok_iff.2 ⟨hx,by omega⟩) (by have:=hx.1;unfold ukey;omega)
  unfold withC
  split
  · split
    · exact h
    · rename_i hg;exact hi hg
  · split
    · split
      · exact del_rises h
      · rename_i hg;exact hi hg
    · exact h
def agd (x:S32):S32:=⟨x.f0,x.f1,x.f2+1,x.f3⟩
def oldOut:List S32->List S32
  | []=>[]
  |x::l=>if x.f2+1<60 then agd x::oldOut l else oldOut l
def oldGone:List S32->List Int
  | []=>[]
  |x::l=>if x.f2+1<60 then oldGone l else x.f0::oldGone l
theorem older_l {l:List S32} {p:Int} (hr:rises sok ukey p l=true) (hn:l.length<=1000):∀(d k i:Nat) (a:List S32) (g:List Int),i+d=l.length->d<k->a.length<=i->g.length<=i->
    store_Older.l0 k a g l (l.length:Int) (i:Int)=some (a++oldOut (l.drop i),g++oldGone (l.drop i),0):=by
  intro d
  induction d with
  | zero=>
    intro k i a g hi hk ha hg
    obtain⟨k,rfl⟩:∃m,k=m+1:=⟨k-1,by omega⟩
    simp only[store_Older.l0]
    rw[if_neg (by omega),List.drop_of_length_le (by omega)]
    simp[oldOut,oldGone]
  | succ d ih=>
    intro k i a g hi hk ha hg
    obtain⟨k,rfl⟩:∃m,k=m+1:=⟨k-1,by omega⟩
    have hlt:i<l.length:=by omega
    have hx:=(sok_iff.1 (rises_ok hr hlt))
    have hr0:=hx.1.2.2.2.2.1
    rw[dropU_at hlt,rdU_at hlt]
    simp only[store_Older.l0]
    rw[if_pos (by omega),if_pos (by omega),if_pos (by omega),nx (by omega),rdU_at hlt,wrap_id (by omega) (by omega)]
    by_cases c:l[i].f2 +1<60
    · rw[if_pos c,if_pos (by omega),ih k (i+1) _ _ (by omega) (by omega) (by simp;omega) (by omega)]
      rw[show oldOut (l[i]::l.drop (i+1))=agd l[i]::oldOut (l.drop (i+1))from if_pos c,show oldGone (l[i]::l.drop (i+1))=oldGone (l.drop (i+1))from if_pos c,List.append_assoc]
      rfl
    · rw[if_neg c,if_pos (by omega),ih k (i+1) _ _ (by omega) (by omega) (by omega) (by simp;omega)]
      rw[show oldOut (l[i]::l.drop (i+1))=oldOut (l.drop (i+1))from if_neg c,show oldGone (l[i]::l.drop (i+1))=l[i].f0 ::oldGone (l.drop (i+1))from if_neg c,List.append_assoc]
      rfl
theorem Older_f {l:List S32} (h:St l=true) {k:Nat} (hk:20<=k):store_Older.f k l=some (oldOut l,oldGone l,0):=by
  have hl:=st_len h
  have hL:=st_links h
  unfold store_Older.f
  rw[May_f (M:=5) (by omega) (λy hy=>by have:=hL y hy;omega) (by omega) (by omega),h]
  simp only[Option.bind_some,if_true]
  rw[Copy_f (by omega) (λy hy=>by have:=hL y hy;omega) (by omega)]
  simp only[Option.bind_some]
  exact older_l h (by omega) l.length k 0 [] [] (by omega) (by omega) (by simp) (by simp)
theorem Older_bad {l:List S32} {M:Nat} (hn:l.length<=4611686018427387904) (hM:∀y∈l,y.f3.length<M) (hM2:M<=9223372036854775807) {k:Nat} (hk:l.length+M<k) (h:St l=false):store_Older.f k l=some ([],[],1800):=by
  unfold store_Older.f
  rw[May_f hn hM hM2 hk,h]
  rfl
theorem num_f (x:Int):watchwordlaw0_Num.f x=some x:=rfl
theorem awake_f:watchwordlaw18_awake.f 100=some true:=by decide+kernel
theorem awake_ok {k:Nat} (hk:100<=k):watchwordlaw18_awake.f k=some true:=
  at_rounds (g:=λk=>watchwordlaw18_awake.f k) watchwordlaw18_awake.mono hk awake_f
theorem ref_Num1 {k:Nat} (hk:3<=k) (x:Int):watchwordref1_Num.f k x 1=some (strOfNums (e1 x)):=by
  obtain⟨k,rfl⟩:∃m,k=m+3:=⟨k-3,by omega⟩
  simp[watchwordref1_Num.f,watchwordref1_Num.l0,wrap64,shr,IntKind.bits,e1]
theorem ref_Num2 {k:Nat} (hk:5<=k) (x:Int):watchwordref1_Num.f k x 2=some (strOfNums (e2 x)):=by
  obtain⟨k,rfl⟩:∃m,k=m+5:=⟨k-5,by omega⟩
  simp[watchwordref1_Num.f,watchwordref1_Num.l0,wrap64,shr,IntKind.bits,e2]
theorem ref_Num4 {k:Nat} (hk:7<=k) (x:Int):watchwordref1_Num.f k x 4=some (strOfNums (e4 x)):=by
  obtain⟨k,rfl⟩:∃m,k=m+7:=⟨k-7,by omega⟩
  simp[watchwordref1_Num.f,watchwordref1_Num.l0,wrap64,shr,IntKind.bits,e4]
theorem ref_upTo (x a b:Int):watchwordref1_upTo.f x a b=some (decide (a<=x/\x<=b)):=by
  unfold watchwordref1_upTo.f
  by_cases h:x>=a
  · rw[if_pos h];simp[show a<=x from h]
  · rw[if_neg h];simp[show ¬a<=x from h]
theorem ref_router (x:Int):watchwordref1_routerMay.f x=some (decide (1<=x/\x<=4)):=by
  unfold watchwordref1_routerMay.f;rw[ref_upTo];rfl
theorem ref_Links_l {l:List S56} {rt:Int} (hn:l.length<=9223372036854775807):∀(d k i:Nat),i+d=l.length->d<k->
    watchwordref1_LinksMay.l0 k rt l (i:Int)=some (links rt (prevL l i) (l.drop i)&&decide (l.length<=4)):=by
  intro d
  induction d with
  | zero=>
    intro k i hi hk
    obtain⟨k,rfl⟩:∃m,k=m+1:=⟨k-1,by omega⟩
    simp only[watchwordref1_LinksMay.l0]
    rw[if_neg (by omega),List.drop_of_length_le (by omega)]
    unfold links
    rw[Bool.true_and]
    congr 1
    rw[Bool.eq_iff_iff,decide_eq_true_eq,decide_eq_true_eq]
    omega
  | succ d ih=>
    intro k i hi hk
    obtain⟨k,rfl⟩:∃m,k=m+1:=⟨k-1,by omega⟩
    have hlt:i<l.length:=by omega
    have h4:wrap64 ((i:Int)+1)=((i+1:Nat):Int):=by rw[wrap_id (by omega) (by omega)];omega
    have h5:wrap64 ((i:Int)-1)=(i:Int)-1:=wrap_id (by omega) (by omega)
    have hr:=ih k (i+1) (by omega) (by omega)
    simp only[watchwordref1_LinksMay.l0,ref_router,ref_upTo,Option.bind_some,decide_eq_true_eq]
    rw[if_pos (by omega),if_pos (by omega),h4,h5,hr,prevL_succ,dropL_at hlt]
    generalize rd_T56 l (i:Int)=x
    by_cases c1:1<=x.f0/\x.f0<=4
    · rw[if_pos c1]
      by_cases c2:x.f0=rt
      · rw[if_pos c2];unfold links;rw[if_neg (λhh=>hh.1.2.2.1 c2)];rfl
      rw[if_neg c2]
      by_cases c3:1<=x.f1/\x.f1<=65535
      · rw[if_pos c3]
        have hok:LinkOk rt x:=⟨c1.1,c1.2,c2,c3.1,c3.2⟩
        by_cases h0:(i:Int)>0
        · rw[if_pos h0,if_pos (by omega),if_pos (by omega)]
          have hp:prevL l i=(rd_T56 l ((i:Int)-1)).f0 :=by unfold prevL;rw[if_neg (by omega)]
          by_cases hg:x.f0<=(rd_T56 l ((i:Int)-1)).f0
          · rw[if_pos hg];unfold links;rw[if_neg (by rw[hp];omega)];rfl
          · rw[if_neg hg];conv=>rhs;unfold links
            rw[if_pos ⟨hok,by rw[hp];omega⟩]
        · rw[if_neg h0]
          have hp:prevL l i=0:=by unfold prevL;rw[if_pos (by omega)]
          conv=>rhs;unfold links
          rw[if_pos ⟨hok,by rw[hp];omega⟩]
      · rw[if_neg c3];unfold links;rw[if_neg (λhh=>c3 ⟨hh.1.2.2.2.1,hh.1.2.2.2.2⟩)];rfl
    · rw[if_neg c1];unfold links;rw[if_neg (λhh=>c1 ⟨hh.1.1,hh.1.2.1⟩)];rfl
theorem ref_Links_f {l:List S56} {rt:Int} (hn:l.length<=9223372036854775807) {k:Nat} (hk:l.length<k):watchwordref1_LinksMay.f k rt l=some (links rt 0 l):=by
  have h:=ref_Links_l (rt:=rt) hn l.length k 0 (by omega) hk
  unfold watchwordref1_LinksMay.f
  rw[show(0:Int)=((0:Nat):Int)from rfl,h]
  show some (links rt 0 l&&decide (l.length<=4))=some (links rt 0 l)
  by_cases g:links rt 0 l=true
  · rw[g,decide_eq_true (links_len g)];rfl
  · rw[Bool.eq_false_iff.mpr g];rfl
theorem ref_May_f {r s g:Int} {l:List S56} (hn:l.length<=9223372036854775807) {k:Nat} (hk:l.length<k):watchwordref1_LsaMay.f k r s g l=some (decide (LsaOk r s g l)):=by
  simp only[watchwordref1_LsaMay.f,ref_Links_f hn hk,ref_router,ref_upTo,Option.bind_some,decide_eq_true_eq]
  by_cases h1:1<=r/\r<=4
  · rw[if_pos h1]
    by_cases h2:1<=s/\s<=2147483647
    · rw[if_pos h2]
      by_cases h3:0<=g/\g<=60
      · rw[if_pos h3];unfold LsaOk;simp[h1.1,h1.2,h2.1,h2.2,h3.1,h3.2]
      · rw[if_neg h3,decide_eq_false (λhh:LsaOk r s g l=>h3 ⟨hh.2.2.2.2.1,hh.2.2.2.2.2.1⟩)]
    · rw[if_neg h2,decide_eq_false (λhh:LsaOk r s g l=>h2 ⟨hh.2.2.1,hh.2.2.2.1⟩)]
  · rw[if_neg h1,decide_eq_false (λhh:LsaOk r s g l=>h1 ⟨hh.1,hh.2.1⟩)]
theorem ref_bytes_l {r s g:Int} {l:List S56} (hn:l.length<=255):∀(d k i:Nat) (acc:List Int),i+d=l.length->d+10<k->acc.length<=10+3*i->
    watchwordref1_bytes.l0 k (strOfNums acc) (i:Int) r s g l=some (strOfNums (acc++(l.drop i).flatMap lbytes)):=by
  intro d
  induction d with
  | zero=>
    intro k i acc hi hk ha
    obtain⟨k,rfl⟩:∃m,k=m+1:=⟨k-1,by omega⟩
    simp only[watchwordref1_bytes.l0]
    rw[if_neg (by omega),List.drop_of_length_le (by omega)]
    simp
  | succ d ih=>
    intro k i acc hi hk ha
    obtain⟨k,rfl⟩:∃m,k=m+1:=⟨k-1,by omega⟩
    have hlt:i<l.length:=by omega
    have h4:wrap64 ((i:Int)+1)=((i+1:Nat):Int):=by rw[wrap_id (by omega) (by omega)];omega
    simp only[watchwordref1_bytes.l0]
    rw[ref_Num1 (by omega),ref_Num2 (by omega)]
    simp only[Option.bind_some,strOf_append,strOf_size,List.length_append,e1_len,e2_len]
    rw[if_pos (by omega),if_pos (by omega),if_pos (by omega),if_pos (by omega),h4,
      ih k (i+1) _ (by omega) (by omega) (by simp only[List.length_append,e1_len,e2_len];omega),dropL_at hlt,List.flatMap_cons]
    simp only[lbytes,List.append_assoc]
theorem ref_bytes_f {r s g:Int} {l:List S56} (hn:l.length<=255) {k:Nat} (hk:l.length+10<k):watchwordref1_bytes.f k r s g l=some (strOfNums (bodyB r s l)):=by
  unfold watchwordref1_bytes.f
  rw[ref_Num1 (by omega),ref_Num4 (by omega),ref_Num1 (by omega)]
  simp only[Option.bind_some,strOf_append,strOf_size,List.length_append,e1_len,e4_len]
  rw[if_pos (by decide),if_pos (by decide)]
  exact ref_bytes_l hn l.length k 0 _ (by omega) hk (by simp only[List.length_append,e1_len,e4_len];omega)
theorem ref_Fletch_l {s:ByteArray} (hs:s.size<=140737488351232):∀(d k i:Nat) (a b:Int),i+d=s.size->d<k->0<=a/\a<255->0<=b/\b<255->
    watchwordref1_Fletch.l0 k s a b (i:Int)=some (fl a b ((B s).drop i)):=by
  intro d
  induction d with
  | zero=>
    intro k i a b hi hk ha hb
    obtain⟨k,rfl⟩:∃m,k=m+1:=⟨k-1,by omega⟩
    simp only[watchwordref1_Fletch.l0]
    rw[if_neg (by omega),List.drop_of_length_le (by rw[B_len];omega),wrap_id (x:=256*b) (by omega) (by omega),wrap_id (by omega) (by omega)]
    rfl
  | succ d ih=>
    intro k i a b hi hk ha hb
    obtain⟨k,rfl⟩:∃m,k=m+1:=⟨k-1,by omega⟩
    have hlt:i<(B s).length :=by rw[B_len];omega
    have hd:(B s).drop i=(B s).getD i 0::(B s).drop (i+1):=by
      rw[List.drop_eq_getElem_cons hlt,List.getD_eq_getElem?_getD,List.getElem?_eq_getElem hlt,Option.getD_some]
    have hbt:bt s (i:Int)=(B s).getD i 0:=by rw[bt_B,Int.toNat_natCast]
    have hr:=byt_getD (B_byt s) i
    have h4:wrap64 ((i:Int)+1)=((i+1:Nat):Int):=by rw[wrap_id (by omega) (by omega)];omega
    simp only[watchwordref1_Fletch.l0]
    rw[if_pos (by omega),if_pos (by omega),hbt,h4,hd]
    generalize (B s).getD i 0=x at hr |-
    rw[wrap_id (x:=x) (by omega) (by omega),wrap_id (x:=a+x) (by omega) (by omega),Int.tmod_eq_emod_of_nonneg (a:=a+x) (by omega),
      wrap_id (x:=b+(a+x) % 255) (by omega) (by omega),Int.tmod_eq_emod_of_nonneg (a:=b+(a+x) % 255) (by omega),
      ih k (i+1) _ _ (by omega) (by omega) (by omega) (by omega)]
    rfl
theorem ref_Fletch_f {s:ByteArray} (hs:s.size<=140737488351232) {k:Nat} (hk:s.size<k):watchwordref1_Fletch.f k s=some (flSum (B s)):=
  ref_Fletch_l hs s.size k 0 0 0 (by omega) hk (by omega) (by omega)
theorem ref_Head_f {r s g:Int} {l:List S56} (hn:l.length<=9223372036854775807) {k:Nat} (hk:l.length+10<k) (h20:30<=k):
    watchwordref1_HeadOf.f k r s g l=some (if LsaOk r s g l then(r,s,g,flSum (bodyB r s l),0)else(0,0,0,0,700)):=by
  simp only[watchwordref1_HeadOf.f,ref_May_f hn (show l.length<k by omega),Option.bind_some,decide_eq_true_eq]
  by_cases h:LsaOk r s g l
  · have h4:=links_len h.2.2.2.2.2.2
    have hb:=bodyB_len r s l
    rw[if_pos h,if_pos h,ref_bytes_f (by omega) hk]
    simp only[Option.bind_some]
    rw[ref_Fletch_f (by rw[strOf_size];omega) (by rw[strOf_size];omega),B_strOf (bodyB_byt r s l)]
    rfl
  · rw[if_neg h,if_neg h]
theorem ref9_upTo_f (a b c:Int):watchwordref9_upTo.f a b c=some (decide (b<=a/\a<=c)):=by
  unfold watchwordref9_upTo.f
  by_cases h1:a>=b
  · rw[if_pos h1];simp only[h1,true_and]
  · rw[if_neg h1];have:¬(b<=a/\a<=c):=by omega
    simp[this]
theorem ref_HeadMay_f (r s g m:Int):watchwordref9_HeadMay.f r s g m=some (decide (AckOk r s g m)):=by
  unfold watchwordref9_HeadMay.f watchwordref9_routerMay.f
  simp only[ref9_upTo_f,Option.bind_some,decide_eq_true_eq]
  by_cases h1:1<=r/\r<=4
  · rw[if_pos h1]
    by_cases h2:1<=s/\s<=2147483647
    · rw[if_pos h2]
      by_cases h3:0<=g/\g<=60
      · rw[if_pos h3];unfold AckOk;simp[h1,h2,h3]
      · rw[if_neg h3,decide_eq_false (λhh:AckOk r s g m=>h3 ⟨hh.2.2.2.2.1,hh.2.2.2.2.2.1⟩)]
    · rw[if_neg h2,decide_eq_false (λhh:AckOk r s g m=>h2 ⟨hh.2.2.1,hh.2.2.2.1⟩)]
  · rw[if_neg h1,decide_eq_false (λhh:AckOk r s g m=>h1 ⟨hh.1,hh.2.1⟩)]
theorem ref_sign_f (a b:Int):watchwordref9_sign.f a b=some (sgn a b):=by
  unfold watchwordref9_sign.f sgn
  by_cases h1:a>b
  · rw[if_pos h1,if_neg (by omega),if_pos (show b<a from h1)]
  · rw[if_neg h1]
    by_cases h2:a<b
    · rw[if_pos h2,if_pos h2]
    · rw[if_neg h2,if_neg h2,if_neg (by omega)]
theorem ref_Compare_f {k:Nat} (hk:1<=k) (a0 a1 a2 a3 b0 b1 b2 b3:Int):watchwordref9_Compare.f k a0 a1 a2 a3 b0 b1 b2 b3=
    some (if AckOk a0 a1 a2 a3/\AckOk b0 b1 b2 b3/\a0=b0 then(cmp3 a1 a2 a3 b1 b2 b3,0)else(0,1700)):=by
  obtain⟨k,rfl⟩:∃m,k=m+1:=⟨k-1,by omega⟩
  have ht:watchwordref9_Compare.j0 (k+1) true a0 a1 a2 a3 b0 b1 b2 b3=some (0,1700):=by simp[watchwordref9_Compare.j0]
  simp only[watchwordref9_Compare.f,ref_HeadMay_f,Option.bind_some,decide_eq_true_eq]
  by_cases h1:AckOk a0 a1 a2 a3
  · rw[if_pos h1]
    by_cases h2:AckOk b0 b1 b2 b3
    · rw[if_pos h2]
      by_cases h3:a0=b0
      · have:(a0 !=b0)=false:=by simp[h3]
        rw[this,if_pos ⟨h1,h2,h3⟩]
        simp only[watchwordref9_Compare.j0,Bool.false_eq_true,if_false,ref_sign_f,Option.bind_some]
        unfold cmp3
        by_cases e1:a1=b1
        · rw[if_pos e1,if_neg (show ¬(a1≠b1)from λh=>h e1)]
          by_cases e3:a3=b3
          · rw[if_pos e3,if_neg (show ¬(a3≠b3)from λh=>h e3)]
            have g1:=h1.2.2.2.2.2.1
            have g2:=h2.2.2.2.2.2.1
            by_cases e2:a2=b2
            · rw[if_pos e2,e2,Int.sub_self]
            · rw[if_neg e2]
              by_cases q1:a2=60
              · rw[if_pos q1]
                unfold sgn gone
                rw[if_neg (by omega),if_pos (by omega),if_pos q1,if_neg (by omega)];rfl
              · rw[if_neg q1]
                by_cases q2:b2=60
                · rw[if_pos q2]
                  unfold sgn gone
                  rw[if_pos (by omega),if_neg q1,if_pos q2];rfl
                · rw[if_neg q2]
                  unfold gone
                  rw[if_neg q1,if_neg q2];rfl
          · rw[if_neg e3,if_pos e3]
        · rw[if_neg e1,if_pos e1]
      · have:(a0 !=b0)=true:=by simp[h3]
        rw[this,ht,if_neg (λh=>h3 h.2.2)]
    · rw[if_neg h2,ht,if_neg (λh=>h2 h.2.1)]
  · rw[if_neg h1,ht,if_neg (λh=>h1 h.1)]
theorem ref_UpdMay_l {l:List S32} {M:Nat} (hn:l.length<=9223372036854775807) (hM:∀x∈l,x.f3.length<M) (hM2:M<=9223372036854775807):∀(d k i:Nat),i+d=l.length->d+M+10<k->
    watchwordref9_UpdateMay.l0 k l (i:Int)=some (upd (prevU l i) (l.drop i)&&decide (l.length<=4)):=by
  intro d
  induction d with
  | zero=>
    intro k i hi hk
    obtain⟨k,rfl⟩:∃m,k=m+1:=⟨k-1,by omega⟩
    simp only[watchwordref9_UpdateMay.l0]
    rw[if_neg (by omega),List.drop_of_length_le (by omega)]
    unfold upd
    rw[Bool.true_and]
    congr 1
    rw[Bool.eq_iff_iff,decide_eq_true_eq,decide_eq_true_eq]
    omega
  | succ d ih=>
    intro k i hi hk
    obtain⟨k,rfl⟩:∃m,k=m+1:=⟨k-1,by omega⟩
    have hlt:i<l.length:=by omega
    have h4:wrap64 ((i:Int)+1)=((i+1:Nat):Int):=by rw[wrap_id (by omega) (by omega)];omega
    have h5:wrap64 ((i:Int)-1)=(i:Int)-1:=wrap_id (by omega) (by omega)
    have hr:=ih k (i+1) (by omega) (by omega)
    have hm:=hM _ (rdU_mem hlt)
    simp only[watchwordref9_UpdateMay.l0]
    rw[if_pos (by omega),if_pos (by omega),h4,h5,hr,prevU_succ,dropU_at hlt]
    generalize rd_T32 l (i:Int)=x at hm |-
    rw[ref_May_f (by omega) (show x.f3.length<k by omega)]
    simp only[Option.bind_some,decide_eq_true_eq]
    by_cases c1:LsaOk x.f0 x.f1 x.f2 x.f3
    · rw[if_pos c1]
      have hok:UsOk x:=c1
      have h1:=c1.1
      by_cases h0:(i:Int)>0
      · rw[if_pos h0,if_pos (by omega),if_pos (by omega)]
        have hp:prevU l i=(rd_T32 l ((i:Int)-1)).f0 :=by unfold prevU;rw[if_neg (by omega)]
        by_cases hg:x.f0<=(rd_T32 l ((i:Int)-1)).f0
        · rw[if_pos hg];unfold upd;rw[if_neg (by rw[hp];omega)];rfl
        · rw[if_neg hg];conv=>rhs;unfold upd
          rw[if_pos ⟨hok,by rw[hp];omega⟩]
      · rw[if_neg h0]
        have hp:prevU l i=0:=by unfold prevU;rw[if_pos (by omega)]
        conv=>rhs;unfold upd
        rw[if_pos ⟨hok,by rw[hp];omega⟩]
    · rw[if_neg c1];unfold upd;rw[if_neg (λhh=>c1 hh.1)];rfl
theorem ref_UpdMay_f {l:List S32} {M:Nat} (hn:l.length<=9223372036854775807) (hM:∀x∈l,x.f3.length<M) (hM2:M<=9223372036854775807) {k:Nat} (hk:l.length+M+10<k):
    watchwordref9_UpdateMay.f k l=some (upd 0 l):=by
  have h:=ref_UpdMay_l hn hM hM2 l.length k 0 (by omega) hk
  unfold watchwordref9_UpdateMay.f
  rw[show(0:Int)=((0:Nat):Int)from rfl,h]
  show some (upd 0 l&&decide (l.length<=4))=some (upd 0 l)
  by_cases g:upd 0 l=true
  · rw[g,decide_eq_true (upd_len g)];rfl
  · rw[Bool.eq_false_iff.mpr g];rfl
theorem ref_copyLsa_f {r s g:Int} {l:List S56} (hl:l.length<8796093022208):watchwordref18_copyLsa.f r s g l=some (r,s,g,l):=by
  simp only[watchwordref18_copyLsa.f,Option.bind_some,List.length_nil,List.nil_append]
  rw[if_pos (by omega)]
theorem ref_StoreMay_l {l:List S32} {M:Nat} (hn:l.length<=4611686018427387904) (hM:∀x∈l,x.f3.length<M) (hM2:M<=9223372036854775807):∀(d k i:Nat),i+d=l.length->d+l.length+M+20<k->
    watchwordref18_StoreMay.l0 k l (i:Int)=some (((l.drop i).all λx=>decide (x.f2<60))&&upd 0 l):=by
  intro d
  induction d with
  | zero=>
    intro k i hi hk
    obtain⟨k,rfl⟩:∃m,k=m+1:=⟨k-1,by omega⟩
    simp only[watchwordref18_StoreMay.l0]
    rw[if_neg (by omega),List.drop_of_length_le (by omega),ref_UpdMay_f (by omega) hM hM2 (by omega)]
    rfl
  | succ d ih=>
    intro k i hi hk
    obtain⟨k,rfl⟩:∃m,k=m+1:=⟨k-1,by omega⟩
    have hlt:i<l.length:=by omega
    rw[dropU_at hlt,List.all_cons]
    simp only[watchwordref18_StoreMay.l0]
    rw[if_pos (by omega),if_pos (by omega),nx (by omega)]
    by_cases c:(rd_T32 l (i:Int)).f2 >=60
    · rw[if_pos c,decide_eq_false (show ¬(rd_T32 l (i:Int)).f2 <60 by omega)];rfl
    · rw[if_neg c,decide_eq_true (show(rd_T32 l (i:Int)).f2 <60 by omega),Bool.true_and]
      exact ih k (i+1) (by omega) (by omega)
theorem ref_StoreMay_f {l:List S32} {M:Nat} (hn:l.length<=4611686018427387904) (hM:∀x∈l,x.f3.length<M) (hM2:M<=9223372036854775807) {k:Nat} (hk:2*l.length+M+20<k):watchwordref18_StoreMay.f k l=some (St l):=by
  have h:=ref_StoreMay_l hn hM hM2 l.length k 0 (by omega) (by omega)
  unfold watchwordref18_StoreMay.f St
  rw[show(0:Int)=((0:Nat):Int)from rfl,h,<-upd_rises,Bool.and_comm]
  rfl
theorem ref_find_l {l:List S32} (hn:l.length<=4611686018427387904) (t:Int):∀(d k i:Nat),i+d=l.length->d<k->
    ∃r:Int,watchwordref18_find.l0 k l t (i:Int)=some r/\((r= -1/\L18.look ukey t (l.drop i)=none)\/∃(m:Nat) (h:m<l.length),r=(m:Int)/\L18.look ukey t (l.drop i)=some l[m]):=by
  intro d
  induction d with
  | zero=>
    intro k i hi hk
    obtain⟨k,rfl⟩:∃m,k=m+1:=⟨k-1,by omega⟩
    simp only[watchwordref18_find.l0]
    rw[if_neg (by omega),List.drop_of_length_le (by omega)]
    exact⟨-1,rfl,.inl ⟨rfl,rfl⟩⟩
  | succ d ih=>
    intro k i hi hk
    obtain⟨k,rfl⟩:∃m,k=m+1:=⟨k-1,by omega⟩
    have hlt:i<l.length:=by omega
    rw[dropU_at hlt,rdU_at hlt]
    simp only[watchwordref18_find.l0]
    rw[if_pos (by omega),if_pos (by omega),nx (by omega),rdU_at hlt]
    by_cases c:l[i].f0 =t
    · rw[if_pos c]
      exact⟨(i:Int),rfl,.inr ⟨i,hlt,rfl,if_pos c⟩⟩
    · rw[if_neg c]
      obtain⟨r,e,hr⟩:=ih k (i+1) (by omega) (by omega)
      refine⟨r,e,?_⟩
      rw[show L18.look ukey t (l[i]::l.drop (i+1))=L18.look ukey t (l.drop (i+1))from if_neg c]
      exact hr
theorem ref_find_f {l:List S32} (hn:l.length<=4611686018427387904) (t:Int) {k:Nat} (hk:l.length<k):
    ∃r:Int,watchwordref18_find.f k l t=some r/\((r= -1/\L18.look ukey t l=none)\/∃(m:Nat) (h:m<l.length),r=(m:Int)/\L18.look ukey t l=some l[m]):=ref_find_l hn t l.length k 0 (by omega) hk
theorem ref_Find_f {l:List S32} (h:St l=true) (t:Int) {k:Nat} (hk:60<=k):watchwordref18_FindLsa.f k l t=some (tellF (L18.look ukey t l)):=by
  have hl:=st_len h
  have hL:=st_links h
  obtain⟨r,e,hr⟩:=ref_find_f (l:=l) (by omega) t (show l.length<k by omega)
  unfold watchwordref18_FindLsa.f
  rw[e,ref_StoreMay_f (M:=5) (by omega) (λx hx=>by have:=hL x hx;omega) (by omega) (by omega),h]
  simp only[Option.bind_some,if_true]
  rcases hr with⟨rfl,hr⟩|⟨m,hm,rfl,hr⟩
  · rw[if_pos (by omega),hr];rfl
  · rw[if_neg (by omega),if_pos (by omega),if_pos (by omega),rdU_at hm,ref_copyLsa_f (by have:=hL _ (List.getElem_mem hm);omega),hr]
    rfl
theorem ref_Find_bad {l:List S32} {M:Nat} (hn:l.length<=4611686018427387904) (hM:∀x∈l,x.f3.length<M) (hM2:M<=9223372036854775807) {k:Nat} (hk:2*l.length+M+20<k) (h:St l=false) (t:Int):watchwordref18_FindLsa.f k l t=some (0,0,0,[],false):=by
  obtain⟨r,e,-⟩:=ref_find_f (l:=l) hn t (show l.length<k by omega)
  unfold watchwordref18_FindLsa.f
  rw[e,ref_StoreMay_f hn hM hM2 hk,h]
  simp
theorem Find_any {l:List S32} (h:St l=true) {t:Int} (h1: -9223372036854775808<=t) (h2:t<=9223372036854775807) {k:Nat} (hk:20<=k):store_Find.f k l t=some (tellF (L18.look ukey t l)):=by
  by_cases ht:1<=t/\t<=4
  · exact Find_f h ht hk
  · have hl:=st_len h
    have hL:=st_links h
    have hnone:L18.look ukey t l=none:=by
      cases hy:L18.look ukey t l with
      |none=>rfl
      | some y=>
        obtain⟨hmem,hkey⟩:=look_mem hy
        have:=sok_key (rises_mem h y hmem).1
        omega
    obtain⟨m,b,e,hm1,hm2⟩:=at_any (l:=l) (by omega) t (show l.length<k by omega)
    have hb:b=false:=by
      cases b with
      |false=>rfl
      | true=>
        obtain⟨hm,hz⟩:=hm2 rfl
        rw[rdU_at hm]at hz
        have hkk:=sok_key (rises_ok h hm)
        unfold ukey at hkk
        generalize l[m].f0 =z at hz hkk
        unfold wrap64 at hz
        omega
    subst hb
    unfold store_Find.f
    rw[e,May_f (M:=5) (by omega) (λx hx=>by have:=hL x hx;omega) (by omega) (by omega),h,hnone]
    rfl
theorem ref_copyLsas_l {l:List S32} (hn:l.length<2932031007402) (hM:∀x∈l,x.f3.length<8796093022208):∀(d k i:Nat) (acc:List S32),acc.length=i->i+d=l.length->d<k->
    watchwordref18_CopyLsas.l0 k l acc (i:Int)=some (acc++l.drop i):=by
  intro d
  induction d with
  | zero=>
    intro k i acc ha hi hk
    obtain⟨k,rfl⟩:∃m,k=m+1:=⟨k-1,by omega⟩
    simp only[watchwordref18_CopyLsas.l0]
    rw[if_neg (by omega),List.drop_of_length_le (by omega),List.append_nil]
  | succ d ih=>
    intro k i acc ha hi hk
    obtain⟨k,rfl⟩:∃m,k=m+1:=⟨k-1,by omega⟩
    have hlt:i<l.length:=by omega
    have hm:=hM _ (rdU_mem hlt)
    simp only[watchwordref18_CopyLsas.l0]
    rw[if_pos (by omega),if_pos (by omega),ref_copyLsa_f hm,Option.bind_some,if_pos (by omega),nx (by omega),ih k (i+1) _ (by rw[List.length_append];simp only[List.length_cons,List.length_nil];omega) (by omega) (by omega),dropU_at hlt,List.append_assoc]
    rfl
theorem ref_copyLsas_f {l:List S32} (hn:l.length<2932031007402) (hM:∀x∈l,x.f3.length<8796093022208) {k:Nat} (hk:l.length<k):watchwordref18_CopyLsas.f k l=some l:=
  ref_copyLsas_l hn hM l.length k 0 [] rfl (by omega) hk
def others (q:Int) (l:List S32):List S32:=l.filter λy=>decide (ukey y≠q)
theorem others_cons (q:Int) (y:S32) (l:List S32):others q (y::l)=if ukey y=q then others q l else y::others q l:=by
  unfold others
  by_cases c:ukey y=q
  · rw[if_pos c,List.filter_cons_of_neg (by simp[c])]
  · rw[if_neg c,List.filter_cons_of_pos (by simp[c])]
theorem others_all:∀ {l:List S32} {p q:Int},rises sok ukey p l=true->q<=p->others q l=l
  | [],_,_,_,_=>rfl
  | y::l,p,q,h,hq=>by
    obtain⟨⟨h1,h2⟩,h3⟩:=rises_cons.mp h
    rw[others_cons,if_neg (by omega),others_all h3 (by omega)]
theorem others_del:∀ {l:List S32} {p q:Int},rises sok ukey p l=true->others q l=del q l
  | [],_,_,_=>rfl
  | y::l,p,q,h=>by
    obtain⟨⟨h1,h2⟩,h3⟩:=rises_cons.mp h
    rw[others_cons]
    unfold del
    by_cases c:ukey y=q
    · rw[if_pos c,if_pos c,others_all h3 (by omega)]
    · rw[if_neg c,if_neg c,others_del h3]
theorem ref_without_l {l:List S32} (hn:l.length<=1000) (hM:∀x∈l,x.f3.length<8796093022208) (q:Int):∀(d k i:Nat) (acc:List S32),acc.length<=i->i+d=l.length->d<k->
    watchwordref18_without.l0 k l q acc (i:Int)=some (acc++others q (l.drop i)):=by
  intro d
  induction d with
  | zero=>
    intro k i acc ha hi hk
    obtain⟨k,rfl⟩:∃m,k=m+1:=⟨k-1,by omega⟩
    simp only[watchwordref18_without.l0]
    rw[if_neg (by omega),List.drop_of_length_le (by omega),show others q []=[]from rfl,List.append_nil]
  | succ d ih=>
    intro k i acc ha hi hk
    obtain⟨k,rfl⟩:∃m,k=m+1:=⟨k-1,by omega⟩
    have hlt:i<l.length:=by omega
    have hm:=hM _ (List.getElem_mem hlt)
    rw[dropU_at hlt,rdU_at hlt,others_cons]
    simp only[watchwordref18_without.l0]
    rw[if_pos (by omega),if_pos (by omega),nx (by omega),rdU_at hlt]
    by_cases c:ukey l[i]=q
    · rw[if_pos (show l[i].f0 =q from c),if_pos c]
      exact ih k (i+1) acc (by omega) (by omega) (by omega)
    · rw[if_neg (show ¬l[i].f0 =q from c),if_neg c,ref_copyLsa_f hm,Option.bind_some,if_pos (by omega),ih k (i+1) _ (by rw[List.length_append];simp only[List.length_cons,List.length_nil];omega) (by omega) (by omega),List.append_assoc]
      rfl
theorem placed_done {l:List S32} (hn:l.length<=1000) (hM:∀x∈l,x.f3.length<8796093022208) (x:S32):∀(d k i:Nat) (acc:List S32),acc.length<=i+1->i+d=l.length->2*d<k->
    watchwordref18_placed.l0 k l acc true (i:Int) x.f0 x.f1 x.f2 x.f3=some (acc++others (ukey x) (l.drop i)):=by
  intro d
  induction d with
  | zero=>
    intro k i acc ha hi hk
    obtain⟨k,rfl⟩:∃m,k=m+1:=⟨k-1,by omega⟩
    simp only[watchwordref18_placed.l0]
    rw[if_neg (by omega),if_pos trivial,List.drop_of_length_le (by omega),show others (ukey x) []=[]from rfl,List.append_nil]
  | succ d ih=>
    intro k i acc ha hi hk
    obtain⟨k,rfl⟩:∃m,k=m+2:=⟨k-2,by omega⟩
    have hlt:i<l.length:=by omega
    have hm:=hM _ (List.getElem_mem hlt)
    rw[dropU_at hlt,rdU_at hlt,others_cons]
    simp only[watchwordref18_placed.l0,watchwordref18_placed.j1]
    rw[if_pos (by omega),if_pos trivial,if_neg (by decide),if_pos (by omega),if_pos (by omega),nx (by omega),rdU_at hlt]
    by_cases c:ukey l[i]=ukey x
    · rw[if_pos (show l[i].f0 =x.f0 from c),if_pos c]
      exact ih k (i+1) acc (by omega) (by omega) (by omega)
    · rw[if_neg (show ¬l[i].f0 =x.f0 from c),if_neg c,ref_copyLsa_f hm,Option.bind_some,if_pos (by omega),ih k (i+1) _ (by rw[List.length_append];simp only[List.length_cons,List.length_nil];omega) (by omega) (by omega),List.append_assoc]
      rfl
theorem placed_l {l:List S32} (hn:l.length<=1000) (hM:∀x∈l,x.f3.length<8796093022208) {x:S32} (hx:x.f3.length<8796093022208):∀(d k i:Nat) (acc:List S32) (p:Int),rises sok ukey p (l.drop i)=true->acc.length<=i->i+d=l.length->2*d+1<k->
    watchwordref18_placed.l0 k l acc false (i:Int) x.f0 x.f1 x.f2 x.f3=some (acc++ins ukey x (l.drop i)):=by
  intro d
  induction d with
  | zero=>
    intro k i acc p hr ha hi hk
    obtain⟨k,rfl⟩:∃m,k=m+1:=⟨k-1,by omega⟩
    simp only[watchwordref18_placed.l0]
    rw[if_neg (by omega),if_neg (by decide),ref_copyLsa_f hx,Option.bind_some,if_pos (by omega),List.drop_of_length_le (by omega)]
    rfl
  | succ d ih=>
    intro k i acc p hr ha hi hk
    obtain⟨k,rfl⟩:∃m,k=m+2:=⟨k-2,by omega⟩
    have hlt:i<l.length:=by omega
    have hm:=hM _ (List.getElem_mem hlt)
    rw[dropU_at hlt,rdU_at hlt]at hr |-
    obtain⟨⟨h1,h2⟩,h3⟩:=rises_cons.mp hr
    simp only[watchwordref18_placed.l0]
    rw[if_pos (by omega),if_neg (by decide),if_pos (by omega),rdU_at hlt]
    simp only[watchwordref18_placed.j1]
    have one:∀y:S32,(acc++[y]).length =acc.length+1:=λy=>by rw[List.length_append];rfl
    show _=some (acc++if ukey l[i]<ukey x then l[i]::ins ukey x (l.drop (i+1))else if ukey l[i]=ukey x then x::l.drop (i+1)else x::l[i]::l.drop (i+1))
    by_cases c1:ukey l[i]<ukey x
    · rw[if_pos c1,decide_eq_false (show ¬l[i].f0 >=x.f0 by unfold ukey at c1;omega),if_neg (by decide),if_pos (by omega),if_pos (by omega),rdU_at hlt,if_neg (show ¬l[i].f0 =x.f0 by unfold ukey at c1;omega),nx (by omega),ref_copyLsa_f hm,Option.bind_some,if_pos (by omega),
        show(⟨(l[i].f0,l[i].f1,l[i].f2,l[i].f3).1,(l[i].f0,l[i].f1,l[i].f2,l[i].f3).2.1,(l[i].f0,l[i].f1,l[i].f2,l[i].f3).2.2.1,(l[i].f0,l[i].f1,l[i].f2,l[i].f3).2.2.2⟩:S32)=l[i]from rfl,
        ih k (i+1) _ _ h3 (by rw[one];omega) (by omega) (by omega),List.append_assoc]
      rfl
    · rw[if_neg c1,decide_eq_true (show l[i].f0 >=x.f0 by unfold ukey at c1;omega),if_pos rfl,ref_copyLsa_f hx,Option.bind_some,if_pos (by omega),Option.bind_some,if_pos (by omega),if_pos (by omega),rdU_at hlt,nx (by omega),
        show(⟨(x.f0,x.f1,x.f2,x.f3).1,(x.f0,x.f1,x.f2,x.f3).2.1,(x.f0,x.f1,x.f2,x.f3).2.2.1,(x.f0,x.f1,x.f2,x.f3).2.2.2⟩:S32)=x from rfl]
      by_cases c2:ukey l[i]=ukey x
      · rw[if_pos c2,if_pos (show l[i].f0 =x.f0 from c2),placed_done hn hM x d k (i+1) _ (by rw[one];omega) (by omega) (by omega),others_all h3 (by omega),List.append_assoc]
        rfl
      · rw[if_neg c2,if_neg (show ¬l[i].f0 =x.f0 from c2),ref_copyLsa_f hm,Option.bind_some,if_pos (by rw[one];omega),
          show(⟨(l[i].f0,l[i].f1,l[i].f2,l[i].f3).1,(l[i].f0,l[i].f1,l[i].f2,l[i].f3).2.1,(l[i].f0,l[i].f1,l[i].f2,l[i].f3).2.2.1,(l[i].f0,l[i].f1,l[i].f2,l[i].f3).2.2.2⟩:S32)=l[i]from rfl,
          placed_done hn hM x d k (i+1) _ (by rw[List.length_append,one];simp only[List.length_cons,List.length_nil];omega) (by omega) (by omega),others_all h3 (by omega),List.append_assoc,List.append_assoc]
        rfl
theorem cmp3_one (a b c d e f:Int):cmp3 a b c d e f<=1:=by
  unfold cmp3 sgn gone
  repeat' split
  all_goals omega
theorem ref_newer_f {x y:S32} (hx:UsOk x) (hy:UsOk y) (hk:x.f0=y.f0) {k:Nat} (h:60<=k):watchwordref18_newer.f k x.f0 x.f1 x.f2 x.f3 y.f0 y.f1 y.f2 y.f3=some (nwr x y):=by
  have lx:=usOk_len hx
  have ly:=usOk_len hy
  have mx:=flSum_range (bodyB x.f0 x.f1 x.f3)
  have my:=flSum_range (bodyB y.f0 y.f1 y.f3)
  unfold watchwordref18_newer.f
  rw[ref_Head_f (by omega) (by omega) (by omega),ref_Head_f (by omega) (by omega) (by omega),if_pos (show LsaOk x.f0 x.f1 x.f2 x.f3 from hx),if_pos (show LsaOk y.f0 y.f1 y.f2 y.f3 from hy)]
  simp only[Option.bind_some]
  have ax:AckOk x.f0 x.f1 x.f2 (flSum (bodyB x.f0 x.f1 x.f3)):=⟨hx.1,hx.2.1,hx.2.2.1,hx.2.2.2.1,hx.2.2.2.2.1,hx.2.2.2.2.2.1,mx.1,by omega⟩
  have ay:AckOk y.f0 y.f1 y.f2 (flSum (bodyB y.f0 y.f1 y.f3)):=⟨hy.1,hy.2.1,hy.2.2.1,hy.2.2.2.1,hy.2.2.2.2.1,hy.2.2.2.2.2.1,my.1,by omega⟩
  rw[ref_Compare_f (by omega),if_pos ⟨ax,ay,hk⟩]
  simp only[Option.bind_some]
  unfold nwr L18.mark
  have:=cmp3_one x.f1 x.f2 (flSum (bodyB x.f0 x.f1 x.f3)) y.f1 y.f2 (flSum (bodyB y.f0 y.f1 y.f3))
  generalize cmp3 x.f1 x.f2 (flSum (bodyB x.f0 x.f1 x.f3)) y.f1 y.f2 (flSum (bodyB y.f0 y.f1 y.f3))=z at this |-
  congr 1
  rw[Bool.eq_iff_iff,beq_iff_eq,decide_eq_true_eq]
  omega
theorem ref_With_f {l:List S32} (h:St l=true) {x:S32} (hx:UsOk x) {k:Nat} (hk:100<=k):watchwordref18_WithLsa.f k l x.f0 x.f1 x.f2 x.f3=some (withC l x):=by
  have hl:=st_len h
  have hL:=st_links h
  have hlx:=usOk_len hx
  have hM:∀y∈l,y.f3.length<8796093022208:=λy hy=>by have:=hL y hy;omega
  obtain⟨k,rfl⟩:∃q,k=q+3:=⟨k-3,by omega⟩
  obtain⟨r,e,hr⟩:=ref_find_f (l:=l) (by omega) x.f0 (show l.length<k+2 by omega)
  unfold watchwordref18_WithLsa.f
  rw[ref_StoreMay_f (M:=5) (by omega) (λy hy=>by have:=hL y hy;omega) (by omega) (by omega),h,ref_May_f (by omega) (by omega),show decide (LsaOk x.f0 x.f1 x.f2 x.f3)=true from decide_eq_true hx]
  simp only[Option.bind_some,if_true,Bool.not_true]
  simp only[watchwordref18_WithLsa.j0]
  rw[if_neg (by decide),e]
  simp only[Option.bind_some]
  have j1t:watchwordref18_WithLsa.j1 (k+2) l true x.f0 x.f1 x.f2 x.f3=some (l,false,0):=by
    simp only[watchwordref18_WithLsa.j1];rw[if_pos trivial,ref_copyLsas_f (by omega) hM (by omega)];rfl
  have j1f:watchwordref18_WithLsa.j1 (k+2) l false x.f0 x.f1 x.f2 x.f3=some (if x.f2=60 then(del (ukey x) l,true,0)else(ins ukey x l,true,0)):=by
    simp only[watchwordref18_WithLsa.j1];rw[if_neg (by decide)]
    by_cases hg:x.f2=60
    · rw[if_pos hg,if_pos hg]
      have:=ref_without_l (l:=l) (by omega) hM x.f0 l.length (k+1) 0 [] (by simp) (by omega) (by omega)
      unfold watchwordref18_without.f
      rw[show(0:Int)=((0:Nat):Int)from rfl,this,List.drop_zero,List.nil_append,show x.f0=ukey x from rfl,others_del h];rfl
    · rw[if_neg hg,if_neg hg]
      have:=placed_l (l:=l) (x:=x) (by omega) hM (by omega) l.length (k+1) 0 [] 0 h (by simp) (by omega) (by omega)
      unfold watchwordref18_placed.f
      rw[show(0:Int)=((0:Nat):Int)from rfl,this,List.drop_zero,List.nil_append];rfl
  unfold withC
  rcases hr with⟨rfl,hr⟩|⟨m,hm,rfl,hr⟩
  · rw[if_pos (by omega),show L18.look ukey (ukey x) l=none from hr]
    by_cases hg:x.f2=60
    · rw[if_pos hg,j1t];simp only[if_pos hg]
    · rw[if_neg hg,if_neg (by omega),j1f,if_neg hg];simp only[if_neg hg]
  · rw[if_neg (by omega),if_pos (by omega),if_pos (by omega),if_pos (by omega),rdU_at hm,show L18.look ukey (ukey x) l=some l[m]from hr]
    have hy:=(sok_iff.1 (rises_ok h hm)).1
    have hkey:=(look_mem hr).2
    rw[ref_newer_f hx hy hkey.symm (by omega)]
    simp only[Option.bind_some]
    by_cases hn:nwr x l[m]=true
    · rw[hn,Bool.not_true,j1f,if_pos rfl]
    · rw[Bool.eq_false_iff.mpr hn,Bool.not_false,j1t,if_neg (by decide)]
theorem ref_With_bad {l:List S32} {M:Nat} (hn:l.length<=4611686018427387904) (hM:∀y∈l,y.f3.length<M) (hM2:M<=9223372036854775807) {k:Nat} (hk:2*l.length+M+20<k) {r s g:Int} {ls:List S56} (hl:ls.length<=9223372036854775807) (hkl:ls.length<k)
    (h:¬(St l=true/\LsaOk r s g ls)):watchwordref18_WithLsa.f k l r s g ls=some ([],false,1800):=by
  obtain⟨q,rfl⟩:∃q,k=q+1:=⟨k-1,by omega⟩
  have bad:watchwordref18_WithLsa.j0 (q+1) l true r s g ls=some ([],false,1800):=by simp only[watchwordref18_WithLsa.j0];rw[if_pos trivial]
  unfold watchwordref18_WithLsa.f
  rw[ref_StoreMay_f hn hM hM2 hk,ref_May_f hl hkl]
  simp only[Option.bind_some]
  by_cases hs:St l=true
  · rw[if_pos hs,decide_eq_false (λz=>h ⟨hs,z⟩),Bool.not_false];exact bad
  · rw[if_neg hs];exact bad
theorem ref_older_l {l:List S32} {p:Int} (hr:rises sok ukey p l=true) (hn:l.length<=1000):∀(d k i:Nat) (a:List S32) (g:List Int),i+d=l.length->d<k->a.length<=i->g.length<=i->
    watchwordref18_OlderLsas.l0 k l a g (i:Int)=some (a++oldOut (l.drop i),g++oldGone (l.drop i),0):=by
  intro d
  induction d with
  | zero=>
    intro k i a g hi hk ha hg
    obtain⟨k,rfl⟩:∃m,k=m+1:=⟨k-1,by omega⟩
    simp only[watchwordref18_OlderLsas.l0]
    rw[if_neg (by omega),List.drop_of_length_le (by omega)]
    simp[oldOut,oldGone]
  | succ d ih=>
    intro k i a g hi hk ha hg
    obtain⟨k,rfl⟩:∃m,k=m+1:=⟨k-1,by omega⟩
    have hlt:i<l.length:=by omega
    have hx:=(sok_iff.1 (rises_ok hr hlt))
    have hr0:=hx.1.2.2.2.2.1
    have hl4:=usOk_len hx.1
    rw[dropU_at hlt,rdU_at hlt]
    simp only[watchwordref18_OlderLsas.l0]
    rw[if_pos (by omega),if_pos (by omega),nx (by omega),rdU_at hlt,ref_copyLsa_f (by omega),Option.bind_some]
    simp only[wrap_id (show-9223372036854775808<=l[i].f2 +1 by omega) (show l[i].f2 +1<=9223372036854775807 by omega)]
    by_cases c:l[i].f2 +1<60
    · rw[if_neg (by omega),if_pos (by omega),ih k (i+1) _ _ (by omega) (by omega) (by simp;omega) (by omega)]
      rw[show oldOut (l[i]::l.drop (i+1))=agd l[i]::oldOut (l.drop (i+1))from if_pos c,show oldGone (l[i]::l.drop (i+1))=oldGone (l.drop (i+1))from if_pos c,List.append_assoc]
      rfl
    · rw[if_pos (by omega),if_pos (by omega),ih k (i+1) _ _ (by omega) (by omega) (by omega) (by simp;omega)]
      rw[show oldOut (l[i]::l.drop (i+1))=oldOut (l.drop (i+1))from if_neg c,show oldGone (l[i]::l.drop (i+1))=l[i].f0 ::oldGone (l.drop (i+1))from if_neg c,List.append_assoc]
      rfl
theorem ref_Older_f {l:List S32} (h:St l=true) {k:Nat} (hk:60<=k):watchwordref18_OlderLsas.f k l=some (oldOut l,oldGone l,0):=by
  have hl:=st_len h
  have hL:=st_links h
  unfold watchwordref18_OlderLsas.f
  rw[ref_StoreMay_f (M:=5) (by omega) (λy hy=>by have:=hL y hy;omega) (by omega) (by omega),h]
  simp only[Option.bind_some,if_true]
  exact ref_older_l h (by omega) l.length k 0 [] [] (by omega) (by omega) (by simp) (by simp)
theorem ref_Older_bad {l:List S32} {M:Nat} (hn:l.length<=4611686018427387904) (hM:∀y∈l,y.f3.length<M) (hM2:M<=9223372036854775807) {k:Nat} (hk:2*l.length+M+20<k) (h:St l=false):watchwordref18_OlderLsas.f k l=some ([],[],1800):=by
  unfold watchwordref18_OlderLsas.f
  rw[ref_StoreMay_f hn hM hM2 hk,h]
  rfl
end Go.Proofs.Ytbpoflicphgokaa.L18
namespace Go.Proofs.Ytbpoflicphgokaa.Opn
open Go.RowKit Go.Proofs.YtbpoflicphgokaaW.PrintWords Go.Proofs.YtbpoflicphgokaaW.PrintLast Go.Proofs.YtbpoflicphgokaaW.PrintMore
open Go.Joins Go.ChangeShapes Go.WideShapes Go.Deep
set_option linter.unusedVariables false
def Opn {α:Type} (P:Program) (t:TypeId) (d:Kd α) (R:α->Prop):Prop:=
  ∀ {H:Type} {enc:TypeId × Value->H} {w:World} {base:Nat} {spare:Nat->Bool} {held:Bool} {fuel:Nat} {cs:List Value} {x:DataW H × List MemPlace},
    DataW.trod enc P w base spare held fuel t cs=some x->(∀n∈x.1.weights P t,n<=reachBytes)->∃a,d.K w a cs/\R a
theorem opn_int {P:Program} {t:TypeId} {k:IntKind} (ht:P.underlying t=some (.int k)):Opn P t (Kd.int k) (λa=>(Lit.int k a).wf =true):=by
  intro H enc w base spare held fuel cs x h _
  obtain⟨a,rfl,rfl,wa⟩:=DataW.trod_int ht h
  exact⟨a,rfl,wa⟩
theorem cells_at {w:World} {base:Nat} {a:Addr} {n:Nat} {cs:List Value} (h:w.cells? base a n=some cs):∀i u,cs[i]? =some u->w.cell? (a.add i)=some u:=by
  obtain⟨_,hl,hat⟩:=World.cells?_some h
  intro i u hu
  have hi:i<n:=by have:=(List.getElem?_eq_some_iff.1 hu).1;omega
  rw[hat i hi];exact hu
theorem opn_slice {α:Type} {P:Program} {t e:TypeId} {d:Kd α} {R:α->Prop} {B:Nat} (ht:P.underlying t=some (.slice e)) (hc:P.cellsOf e=d.sz) (hB:P.bytesOf e=B) (ho:Opn P e d R):
    Opn P t (Kd.slice e d) (λl=>l.length*B<=140737488351232/\l.length<=maxLen/\∀a∈l,R a):=by
  intro H enc w base spare held fuel cs x h hw
  rcases open_slice ht h with⟨rfl,rfl⟩|⟨ad,len,cap,m,n,D,Pl,rfl,hb,hl,hm,hmm,rfl,hi⟩
  · exact⟨[],⟨none,0,rfl,Nat.le_refl _,rfl,by simp,λh=>absurd h (by simp)⟩,by simp,by simp[maxLen],λa ha=>by cases ha⟩
  · have hlm:len<=m:=by rw[hmm];split <;> omega
    have hwt:∀i,i<len->∀n∈(D i).weights P e,n<=reachBytes:=by
      intro i hi' n hn
      refine hw n ?_
      simp only[DataW.weights,ht,List.mem_cons,List.mem_append]
      refine Or.inr (Or.inl ?_)
      have key:∀(l:List (DataW H)) (y:DataW H),y∈l->∀n∈y.weights P e,n∈DataW.weightsAll P e l:=by
        intro l
        induction l with
        |nil=>intro y hy;cases hy
        | cons z l ih=>
          intro y hy n hn
          simp only[DataW.weightsAll,List.mem_append]
          rcases List.mem_cons.mp hy with rfl|hy
          · exact Or.inl hn
          · exact Or.inr (ih y hy n hn)
      exact key _ (D i) (List.mem_map.mpr ⟨i,by simpa using hi',rfl⟩) n hn
    have hex:∀i,i<len->∃a cs',d.K w a cs'/\R a/\w.cells? base (ad.add (i*P.cellsOf e)) (P.cellsOf e)=some cs':=by
      intro i hi'
      obtain⟨cs',h1,h2⟩:=hi i (by omega)
      obtain⟨a,hK,hR⟩:=ho h2 (hwt i hi')
      exact⟨a,cs',hK,hR,h1⟩
    have hw0:len*B<=reachBytes:=by
      have:=hw ((((List.range len).map D).length +((List.range (m-len)).map λj=>D (len+j)).length)*P.bytesOf e) (by simp[DataW.weights,ht])
      rw[hB]at this
      simp only[List.length_map,List.length_range]at this
      exact Nat.le_trans (Nat.mul_le_mul_right _ (by omega)) this
    obtain⟨l,hll,hl2⟩:∃l:List α,l.length=len/\∀i a,l[i]? =some a->∃cs',d.K w a cs'/\R a/\w.cells? base (ad.add (i*P.cellsOf e)) (P.cellsOf e)=some cs':=by
      clear hw0 hwt hw hlm hmm hm hl hi h
      induction len with
      |zero=>exact⟨[],rfl,λi a h=>by simp at h⟩
      | succ k ih=>
        obtain⟨l,hll,hl2⟩:=ih (λi hi'=>hex i (by omega))
        obtain⟨a,cs',h1,h2,h3⟩:=hex k (by omega)
        refine⟨l++[a],by simp[hll],λi b hb=>?_⟩
        by_cases hik:i<l.length
        · rw[List.getElem?_append_left hik]at hb
          exact hl2 i b hb
        · have hlt:=(List.getElem?_eq_some_iff.1 hb).1
          rw[List.length_append,List.length_singleton]at hlt
          have:i=l.length:=by omega
          subst this
          rw[List.getElem?_append_right (Nat.le_refl _)]at hb
          simp at hb
          subst hb
          rw[hll]
          exact⟨cs',h1,h2,h3⟩
    have hmax:len<=maxLen:=Nat.le_trans hl hm
    refine⟨l,⟨some ad,cap,by rw[hll],by omega,⟨rfl,by rw[hll];unfold maxLen at hmax;omega,λ_=>⟨ad,rfl,λj p hj=>?_⟩⟩⟩,by rw[hll];exact hw0,by rw[hll];exact hmax,λa ha=>?_⟩
    · obtain⟨cs',h1,_,h3⟩:=hl2 j p hj
      refine⟨cs',d.K_len h1,h1,λi u hu=>?_⟩
      have:=cells_at h3 i u hu
      rw[Go.Deep.add_add,hc]at this
      exact this
    · obtain⟨i,hi',rfl⟩:=List.mem_iff_getElem.mp ha
      obtain⟨_,_,hR,_⟩:=hl2 i _ (List.getElem?_eq_getElem hi')
      exact hR
theorem wt_field {H:Type} {P:Program} {t f:TypeId} {fs:Array Field} {parts:List (DataW H)} {y:DataW H} {j:Nat} (ht:P.underlying t=some (.struct fs)) (hw:∀n∈(DataW.agg parts).weights P t,n<=reachBytes)
    (hf:(fs.toList.map (·.type))[j]? =some f) (hy:parts[j]? =some y):∀n∈y.weights P f,n<=reachBytes:=by
  intro n hn
  refine hw n ?_
  simp only[DataW.weights,ht]
  exact DataW.weights_mem_each hf hy n hn
theorem wt_arg {H:Type} {P:Program} {ts:List TypeId} {ds:List (DataW H)} {j:Nat} {t:TypeId} {d:DataW H} (h:(DataW.weightsEach P ts ds).all (· <=reachBytes)=true) (ht:ts[j]? =some t) (hd:ds[j]? =some d):∀n∈d.weights P t,n<=reachBytes:=by
  intro n hn
  have:=List.all_eq_true.1 h _ (DataW.weights_mem_each ht hd n hn)
  simpa using this
section
variable {H : Type} {enc : TypeId × Value → H} {P : Program} {w : World} {base : Nat} {spare : Nat → Bool} {held : Bool}
end
end Go.Proofs.Ytbpoflicphgokaa.Opn
namespace Go.Proofs.Ytbpoflicphgokaa.O18
open Go.RowKit Go.Proofs.YtbpoflicphgokaaW.PrintWords Go.Proofs.YtbpoflicphgokaaW.PrintLast Go.Proofs.YtbpoflicphgokaaW.PrintMore Go.Proofs.Ytbpoflicphgokaa.Opn Go.Proofs.Ytbpoflicphgokaa.Q18
open Go.Joins Go.ChangeShapes Go.WideShapes Go.Deep
set_option linter.unusedVariables false
def R56 (x:S56):Prop:=(Lit.int .i64 x.f0).wf =true/\(Lit.int .i64 x.f1).wf =true
set_option maxRecDepth 100000 in
theorem opn56:Opn Try.prog 56 k56 R56:=by
  intro H enc w base spare held fuel cs x h hw
  obtain⟨xs,n,_,rfl,hl,hlen,hf⟩:=DataW.trod_struct Try.underlying56 h
  have hl':cs.length=2:=hl.trans (by kernel_rfl)
  match cs,hl',xs,hlen with
  | [c0,c1],_,[y0,y1],_=>
    have g0:DataW.trod enc Try.prog w base spare held n 3 [c0]=some y0:=by
      have hk:Try.prog.cellsOf 3=1:=by kernel_rfl
      have z:DataW.trod enc Try.prog w base spare held n 3 ((([c0,c1]:List Value).drop 0).take (Try.prog.cellsOf 3))=some y0:=hf 0 _ rfl
      rw[hk]at z
      exact z
    obtain⟨a0,e0,r0⟩:=(opn_int Try.underlying3) g0 (wt_field (j:=0) Try.underlying56 hw rfl rfl)
    have g1:DataW.trod enc Try.prog w base spare held n 3 [c1]=some y1:=by
      have hk:Try.prog.cellsOf 3=1:=by kernel_rfl
      have z:DataW.trod enc Try.prog w base spare held n 3 ((([c0,c1]:List Value).drop 1).take (Try.prog.cellsOf 3))=some y1:=hf 1 _ rfl
      rw[hk]at z
      exact z
    obtain⟨a1,e1,r1⟩:=(opn_int Try.underlying3) g1 (wt_field (j:=1) Try.underlying56 hw rfl rfl)
    exact⟨⟨a0,a1⟩,⟨[c0],[c1],rfl,e0,e1⟩,⟨r0,r1⟩⟩
def R32 (x:S32):Prop:=(Lit.int .i64 x.f0).wf =true/\(Lit.int .i64 x.f1).wf =true/\(Lit.int .i64 x.f2).wf =true/\(x.f3.length*16<=140737488351232/\x.f3.length<=maxLen/\∀y∈x.f3,R56 y)
set_option maxRecDepth 100000 in
theorem opn32:Opn Try.prog 32 k32 R32:=by
  intro H enc w base spare held fuel cs x h hw
  obtain⟨xs,n,_,rfl,hl,hlen,hf⟩:=DataW.trod_struct Try.underlying32 h
  have hl':cs.length=4:=hl.trans (by kernel_rfl)
  match cs,hl',xs,hlen with
  | [c0,c1,c2,c3],_,[y0,y1,y2,y3],_=>
    have g0:DataW.trod enc Try.prog w base spare held n 3 [c0]=some y0:=by
      have hk:Try.prog.cellsOf 3=1:=by kernel_rfl
      have z:DataW.trod enc Try.prog w base spare held n 3 ((([c0,c1,c2,c3]:List Value).drop 0).take (Try.prog.cellsOf 3))=some y0:=hf 0 _ rfl
      rw[hk]at z
      exact z
    obtain⟨a0,e0,r0⟩:=(opn_int Try.underlying3) g0 (wt_field (j:=0) Try.underlying32 hw rfl rfl)
    have g1:DataW.trod enc Try.prog w base spare held n 3 [c1]=some y1:=by
      have hk:Try.prog.cellsOf 3=1:=by kernel_rfl
      have z:DataW.trod enc Try.prog w base spare held n 3 ((([c0,c1,c2,c3]:List Value).drop 1).take (Try.prog.cellsOf 3))=some y1:=hf 1 _ rfl
      rw[hk]at z
      exact z
    obtain⟨a1,e1,r1⟩:=(opn_int Try.underlying3) g1 (wt_field (j:=1) Try.underlying32 hw rfl rfl)
    have g2:DataW.trod enc Try.prog w base spare held n 3 [c2]=some y2:=by
      have hk:Try.prog.cellsOf 3=1:=by kernel_rfl
      have z:DataW.trod enc Try.prog w base spare held n 3 ((([c0,c1,c2,c3]:List Value).drop 2).take (Try.prog.cellsOf 3))=some y2:=hf 2 _ rfl
      rw[hk]at z
      exact z
    obtain⟨a2,e2,r2⟩:=(opn_int Try.underlying3) g2 (wt_field (j:=2) Try.underlying32 hw rfl rfl)
    have g3:DataW.trod enc Try.prog w base spare held n 30 [c3]=some y3:=by
      have hk:Try.prog.cellsOf 30=1:=by kernel_rfl
      have z:DataW.trod enc Try.prog w base spare held n 30 ((([c0,c1,c2,c3]:List Value).drop 3).take (Try.prog.cellsOf 30))=some y3:=hf 3 _ rfl
      rw[hk]at z
      exact z
    obtain⟨a3,e3,r3⟩:=(opn_slice (d:=k56) (B:=16) Try.underlying30 (by kernel_rfl) (by kernel_rfl) opn56) g3 (wt_field (j:=3) Try.underlying32 hw rfl rfl)
    exact⟨⟨a0,a1,a2,a3⟩,⟨[c0],[c1,c2,c3],rfl,e0,⟨[c1],[c2,c3],rfl,e1,⟨[c2],[c3],rfl,e2,e3⟩⟩⟩,⟨r0,r1,r2,r3⟩⟩
end Go.Proofs.Ytbpoflicphgokaa.O18
