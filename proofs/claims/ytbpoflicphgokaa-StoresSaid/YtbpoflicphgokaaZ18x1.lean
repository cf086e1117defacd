/- Written by a program of this session (out of what the print wrote for this seat): the functions' walks, packed. -/
import Derived.Test.YtbpoflicphgokaaZ18x0
namespace Go.Proofs.Ytbpoflicphgokaa.Q18
open Go.RowKit Go.Proofs.Ytbpoflicphgokaa.Stp Go.Proofs.YtbpoflicphgokaaW.PrintWords Go.Proofs.YtbpoflicphgokaaW.PrintLast Go.Proofs.YtbpoflicphgokaaW.PrintMore
attribute [local go_sem] max2_int min2_int max_two min_two max_three min_three max_four min_four
set_option linter.unusedVariables false
set_option linter.unusedSimpArgs false
def lsa_body.l0:Nat->ByteArray->List (S56)->Int->Int->Option (ByteArray)
 |0,_,_,_,_=>none
 |k+1,x3,x27,x28,x29=>if x29<x28 then(if 0<=x29 then(if x29<(x27.length:Int)then((lsa_One.f ((rd_T56 x27 x29).f0)).bind λt161=>((lsa_Two.f ((rd_T56 x27 x29).f1)).bind λt162=>(if t161.size+t162.size<=9223372036854775807 then(if x3.size+(t161++t162).size <=9223372036854775807 then(lsa_body.l0 k (x3++(t161++t162)) x27 x28 (wrap64 (x29+1)))else(none))else(none))))else(none))else(none))else(some x3)
def lsa_body.f (k:Nat) (a0_0:Int) (a0_1:Int) (a0_2:Int) (l0_3:List (S56)):Option (ByteArray):=(lsa_One.f a0_0).bind λt156=>((lsa_Four.f a0_1).bind λt157=>(if t156.size+t157.size<=9223372036854775807 then((lsa_One.f (l0_3.length:Int)).bind λt158=>(if(t156++t157).size +t158.size<=9223372036854775807 then(lsa_body.l0 k ((t156++t157)++t158) l0_3 (l0_3.length:Int) 0)else(none)))else(none)))
theorem lsa_body.mono_l:∀k,(∀y0 y1 y2 y3,LeO (lsa_body.l0 k y0 y1 y2 y3) (lsa_body.l0 (k+1) y0 y1 y2 y3))
 |0=>λ_ _ _ _ r h=>by simp[lsa_body.l0]at h
 |k+1=>by
  have ih0:=lsa_body.mono_l k
  ·intro y0 y1 y2 y3
   unfold lsa_body.l0
   repeat' (with_reducible first|exact ih0 _ _ _ _|exact LeO.refl _|exact LeO.none _|refine LeO.ite ?_ ?_ |refine LeO.bind ?_ (λ_=>?_))
theorem lsa_body.mono:∀a0 a1 a2 a3 k,LeO (lsa_body.f k a0 a1 a2 a3) (lsa_body.f (k+1) a0 a1 a2 a3):=by
 intro a0 a1 a2 a3 k;have ih0:=lsa_body.mono_l k;unfold lsa_body.f
 repeat' (with_reducible first|exact ih0 _ _ _ _|exact LeO.refl _|exact LeO.none _|refine LeO.ite ?_ ?_ |refine LeO.bind ?_ (λ_=>?_))
def lsa_body.T1:Bool × List (List Nat × List Nat):=(true,[([],[]),([0],[0]),([1],[1]),([2],[2]),([3],[3]),([],[]),([5],[5]),([6],[6]),([7],[7]),([8,4],[8]),([4,9],[4,9]),([],[]),([11],[11]),([12],[12]),([13],[13]),([14],[14]),([15,9],[15]),([10,16],[10,16]),([17,16,0,1,2,3,4,5,6,7,8,9,10,11,12,13,14,15,16,17],[17])])
def lsa_body.B1:List Nat:=[0,1,3,7,15,0,32,96,224,511,1023,0,2048,6144,14336,30720,64511,131071,262143]
theorem lsa_body.tab1:rtab .any (opsOf Try.f63 1)=lsa_body.T1:=by kernel_rfl
theorem lsa_body.bits1:waitsOk lsa_body.T1.2 lsa_body.B1=true:=by kernel_rfl
def lsa_body.T5:Bool × List (List Nat × List Nat):=(true,[([],[]),([],[]),([1],[1]),([2],[2]),([],[]),([4],[4]),([5,3],[5]),([3,6],[3,6]),([0,7],[0,7]),([8,6,0,1,2,3,4,5,6,7,8],[0,8])])
def lsa_body.B5:List Nat:=[0,0,2,6,0,16,62,126,255,511]
theorem lsa_body.tab5:rtab .any (opsOf Try.f63 5)=lsa_body.T5:=by kernel_rfl
theorem lsa_body.bits5:waitsOk lsa_body.T5.2 lsa_body.B5=true:=by kernel_rfl
set_option maxHeartbeats 8000000 in
set_option maxRecDepth 100000 in
theorem lsa_body.calls (k:Nat) (g0_:Nat) (a0_0:Int) (a0_1:Int) (a0_2:Int) (A0_3:Option Addr) (c0_3:Nat) (l0_3:List (S56)) (r:ByteArray) (w:World) (hb0:w.heap[g0_]? =some (.cells #[.int .i64 a0_0,.int .i64 a0_1,.int .i64 a0_2,.slice A0_3 l0_3.length c0_3] 32 (0,0))) (hr0_3:Kd.C k56 w A0_3 l0_3.length l0_3) (hc0_3:l0_3.length<=c0_3) (h:lsa_body.f k a0_0 a0_1 a0_2 l0_3=some r):
  Calls Try.prog 63 #[.pointer (some ⟨g0_,0,none⟩)] w λe w'=>e= .returned (.string r)/\Below w.heap.size w w':=by
 have hu56:=Try.underlying56;have R0:=Aside0.mk hr0_3;have K0:=Aside0.mk hc0_3;clear hr0_3 hc0_3;have B0:=Aside0.mk hb0;clear hb0;have HB:=Aside0.mk (Below.refl w.heap.size w);have H:((lsa_One.f a0_0).bind λt0=>((lsa_Four.f a0_1).bind λt1=>(if t0.size+t1.size<=9223372036854775807 then((lsa_One.f (l0_3.length:Int)).bind λt2=>(if(t0++t1).size +t2.size<=9223372036854775807 then(lsa_body.l0 k ((t0++t1)++t2) l0_3 (l0_3.length:Int) 0)else(none)))else(none))))=some r:=h;clear h;obtain⟨t0,A0,H⟩:=bsE H;(try dsimp only at H);have A2:=Aside0.mk A0;clear A0;obtain⟨t1,A4,H⟩:=bsE H;(try dsimp only at H);have A3:=Aside0.mk A4;clear A4
 by_cases c4:t0.size+t1.size<=9223372036854775807
 ·rw[if_pos c4]at H
  have c2:=eq_true c4;have c5:=decide_eq_true c4;(try have c9:(9223372036854775807<t0.size+t1.size)=False:=eq_false (Nat.not_lt.2 c4));obtain⟨t2,A7,H⟩:=bsE H;(try dsimp only at H);have A5:=Aside0.mk A7;clear A7
  by_cases c6:(t0++t1).size +t2.size<=9223372036854775807
  ·rw[if_pos c6]at H
   have cd:=eq_true c6;have cf:=decide_eq_true c6;(try have ch:(9223372036854775807<(t0++t1).size +t2.size)=False:=eq_false (Nat.not_lt.2 c6));(try have cj:(9223372036854775807<t0.size+t1.size+t2.size)=False:=eq_false mDR);have H':=Aside0.mk H;clear H
   go_enter Try.func63,Try.ntmps63
   try go_wp2
   replace B0:=Aside0.mk (blk_drew B0.out);replace HB:=Aside0.mk (below_drew1 HB.out);refine start_ (n:=19) (S:=λw'=>w'.cell? ⟨g0_,0,none⟩=some (.int .i64 a0_0)/\w'.cell? ⟨g0_,1,none⟩=some (.int .i64 a0_1)/\w'.cell? ⟨g0_,2,none⟩=some (.int .i64 a0_2)/\w'.cell? ⟨g0_,3,none⟩=some (.slice A0_3 l0_3.length c0_3)) (ds:=[]) mk_19_0 mAI rfl rfl ⟨(blk_cell B0.out 0).trans rfl,(blk_cell B0.out 1).trans rfl,(blk_cell B0.out 2).trans rfl,(blk_cell B0.out 3).trans rfl⟩ (λhHeld=>?_);refine with_tabW lsa_body.tab1 lsa_body.bits1 (λHT_ HW_=>?_);generalize w.drew=w7 at B0 HB hHeld |-;refine pV 0 6 mk_19_1 ?_;refine pV 1 7 mk_19_2 ?_;refine pV 2 8 mk_19_3 ?_;refine pV 5 11 #[true,true,true,false,false,true,false,false,false,false,false,false,false,false,false,false,false,false,false] ?_;refine pV 6 12 #[true,true,true,false,false,true,true,false,false,false,false,false,false,false,false,false,false,false,false] ?_;refine pV 7 13 #[true,true,true,false,false,true,true,true,false,false,false,false,false,false,false,false,false,false,false] ?_;refine pV 11 17 #[true,true,true,false,false,true,true,true,false,false,false,true,false,false,false,false,false,false,false] ?_;refine pV 12 18 #[true,true,true,false,false,true,true,true,false,false,false,true,true,false,false,false,false,false,false] ?_;refine pV 13 19 #[true,true,true,false,false,true,true,true,false,false,false,true,true,true,false,false,false,false,false] ?_;refine tV 3 (some 9) #[true,true,true,true,false,true,true,true,false,false,false,true,true,true,false,false,false,false,false] (hy:=Or.inl ⟨by rfl,by rintro w' ⟨s0,s1,s2,s3⟩;go_simp;with_reducible rfl⟩) (h:=?_);refine tV 8 (some 14) #[true,true,true,true,false,true,true,true,true,false,false,true,true,true,false,false,false,false,false] (hy:=Or.inl ⟨by rfl,by rintro w' ⟨s0,s1,s2,s3⟩;go_simp;with_reducible rfl⟩) (h:=?_);refine tV 14 (some 20) #[true,true,true,true,false,true,true,true,true,false,false,true,true,true,true,false,false,false,false] (hy:=Or.inl ⟨by rfl,by rintro w' ⟨s0,s1,s2,s3⟩;go_simp;with_reducible rfl⟩) (h:=?_);refine pV 15 21 #[true,true,true,true,false,true,true,true,true,false,false,true,true,true,true,true,false,false,false] ?_;refine oV 4 (some 10) #[true,true,true,true,true,true,true,true,true,false,false,true,true,true,true,true,false,false,false] (h:=λK hK=>?_);refine gV Try.func74 #[.int .i64 a0_0] (h:=?_)
   with_reducible refine(lsa_One.calls a0_0 t0 _ A2.out).mono ?_
   rintro e w8 ⟨rfl,hb⟩;refine⟨_,rfl,?_⟩;replace B0:=Aside0.mk (blk_below (g:=g0_) (o:= .cells #[.int .i64 a0_0,.int .i64 a0_1,.int .i64 a0_2,.slice A0_3 l0_3.length c0_3] 32 (0,0)) mC hb);replace HB:=Aside0.mk (below_step mAU hb);(try clear hb);(try clear hb2);(try clear hk);(try clear hi);refine hK.out _ _ ⟨(blk_cell B0.out 0).trans rfl,(blk_cell B0.out 1).trans rfl,(blk_cell B0.out 2).trans rfl,(blk_cell B0.out 3).trans rfl⟩ (λhHeld=>?_);clear hK K;refine nV 10 (h:=?_);refine oV 9 (some 15) #[true,true,true,true,true,true,true,true,true,true,false,true,true,true,true,true,false,false,false] (h:=λK hK=>?_);refine gV Try.func75 #[.int .i64 a0_1] (h:=?_)
   with_reducible refine(lsa_Four.calls a0_1 t1 _ A3.out).mono ?_
   rintro e w9 ⟨rfl,hb⟩;refine⟨_,rfl,?_⟩;replace B0:=Aside0.mk (blk_below (g:=g0_) (o:= .cells #[.int .i64 a0_0,.int .i64 a0_1,.int .i64 a0_2,.slice A0_3 l0_3.length c0_3] 32 (0,0)) mC hb);replace HB:=Aside0.mk (below_step mAU hb);(try clear hb);(try clear hb2);(try clear hk);(try clear hi);refine hK.out _ _ ⟨(blk_cell B0.out 0).trans rfl,(blk_cell B0.out 1).trans rfl,(blk_cell B0.out 2).trans rfl,(blk_cell B0.out 3).trans rfl⟩ (λhHeld=>?_);clear hK K;refine nV 15 (h:=?_);refine pV 10 16 mk_19_16 ?_;refine oV 16 (some 22) mk_19_17 (h:=λK hK=>?_);refine gV Try.func74 #[.int .i64 (l0_3.length:Int)] (h:=?_)
   with_reducible refine(lsa_One.calls (l0_3.length:Int) t2 _ A5.out).mono ?_
   rintro e w4 ⟨rfl,hb⟩;refine⟨_,rfl,?_⟩;replace B0:=Aside0.mk (blk_below (g:=g0_) (o:= .cells #[.int .i64 a0_0,.int .i64 a0_1,.int .i64 a0_2,.slice A0_3 l0_3.length c0_3] 32 (0,0)) mC hb);replace HB:=Aside0.mk (below_step mAU hb);(try clear hb);(try clear hb2);(try clear hk);(try clear hi);refine hK.out _ _ ⟨(blk_cell B0.out 0).trans rfl,(blk_cell B0.out 1).trans rfl,(blk_cell B0.out 2).trans rfl,(blk_cell B0.out 3).trans rfl⟩ (λhHeld=>?_);clear hK K;refine nV 22 (h:=?_);refine pV 17 23 mk_19_18 ?_;refine pV 18 3 mk_19_19 ?_;refine done_ (done_of HT_.out mAI) ?_;obtain⟨z0,z1,z2,z3⟩:=bc4 B0.out;have z4:=blk_frozen B0.out;(try go_wp2)
   go_loopg [3,29] k (λkq v3 v29 w'=>∃(x0:ByteArray) (x1:Int),v3= .string x0/\v29= .int .i64 x1/\Aside0 (lsa_body.l0 kq x0 l0_3 (l0_3.length:Int) x1=some r)/\Aside0 (kq<=k)/\Aside0 (w'.heap[g0_]? =some (.cells #[.int .i64 a0_0,.int .i64 a0_1,.int .i64 a0_2,(.slice A0_3 l0_3.length c0_3)] 32 (0,0)))/\Aside0 (Below w.heap.size w w'))
   case atStart=>exact⟨((t0++t1)++t2),(0),mJ,mJ,H',⟨Nat.le_refl _⟩,⟨by(with_reducible repeat (first|refine blk_drewN ?_ _|refine blk_drew ?_ |refine blk_alloc ?_ _));exact B0.out⟩,⟨by repeat (first|(with_reducible first|exact HB.out|apply below_alloc|apply pw_below_drewN|apply below_drew1|refine below_set ?_ G0.out)|exact HB.out)⟩⟩
   case round=>
    clear H';(try clear p2);(try clear c4);(try clear c2);(try clear c5);(try clear c9);(try clear c6);(try clear cd);(try clear cf);(try clear ch);(try clear c7);(try clear z0);(try clear z1);(try clear z2);(try clear z3);(try clear z4);(try clear hfz11_1);(try clear hfz11_2);(try clear hfz11_3);obtain⟨x0,x1,rfl,rfl,HA,HK1,B0,HB⟩:=hrel;cases gk with
    |zero=>exact absurd HA.out (by simp[lsa_body.l0])
    |succ k1=>
     have H:=HA.out;clear HA;simp only[lsa_body.l0]at H
     by_cases cn:x1<(l0_3.length:Int)
     ·rw[if_pos cn]at H
      have co:=decide_eq_true cn;clear cn
      by_cases cp:0<=x1
      ·rw[if_pos cp]at H
       have cq:=decide_eq_true cp;clear cp
       by_cases cr:x1<(l0_3.length:Int)
       ·rw[if_pos cr]at H
        have ct:=decide_eq_true cr;clear cr;obtain⟨t3,Ac,H⟩:=bsE H;(try dsimp only at H);have Ad:=Aside0.mk Ac;clear Ac;obtain⟨t4,Ae,H⟩:=bsE H;(try dsimp only at H);have Af:=Aside0.mk Ae;clear Ae
        by_cases cu:t3.size+t4.size<=9223372036854775807
        ·rw[if_pos cu]at H
         have cv:=eq_true cu;have cw:=decide_eq_true cu;(try have cx:(9223372036854775807<t3.size+t4.size)=False:=eq_false (Nat.not_lt.2 cu))
         by_cases cy:x0.size+(t3++t4).size <=9223372036854775807
         ·rw[if_pos cy]at H
          have cz:=eq_true cy;have c00:=decide_eq_true cy;(try have c01:(9223372036854775807<x0.size+(t3++t4).size)=False:=eq_false (Nat.not_lt.2 cy));(try have c02:(9223372036854775807<x0.size+(t3.size+t4.size))=False:=eq_false (by have h_:=cy;simp only[ByteArray.size_append]at h_;omega));have H':=Aside0.mk H;clear H;have p0:0<=(x1:Int):=of_decide_eq_true mF;have q0:x1<(l0_3.length:Int):=of_decide_eq_true mF;obtain⟨d0,e0,h0,h1⟩:=at_T56 R0.out x1 p0 q0;cases e0;replace h0:=hB HB h0;replace h1:=hB HB h1;replace p0:=eq_true p0;replace q0:=eq_true q0;(try go_wp2_with (first|((with_reducible refine gate_dst (N:=5) rfl ?_);refine bxV (N:=5) (cs:=#[.int .i64 0,.int .i64 0]) (t:=56) (h:=?_);intro g0 hg w5 hbox hb;have B2:=Aside0.mk (hbox);have G1:=Aside0.mk ((by rw[hg];exact(below_size mAU):w.heap.size<=g0));have G2:=Aside0.mk ((by rw[hg];exact(below_size mAU):w.heap.size<=g0));replace HB:=Aside0.mk (below_step mAU hb);have N0:=Aside0.mk ((by rw[hg];exact Nat.ne_of_lt (blk_lt (g:=g0_) (o:= .cells #[.int .i64 a0_0,.int .i64 a0_1,.int .i64 a0_2,.slice (some d0) l0_3.length c0_3] 32 (0,0)) mC):g0_≠g0));have N1:=Aside0.mk ((by rw[hg];exact Nat.ne_of_gt (blk_lt (g:=g0_) (o:= .cells #[.int .i64 a0_0,.int .i64 a0_1,.int .i64 a0_2,.slice (some d0) l0_3.length c0_3] 32 (0,0)) mC):g0≠g0_));replace B0:=Aside0.mk (blk_below (g:=g0_) (o:= .cells #[.int .i64 a0_0,.int .i64 a0_1,.int .i64 a0_2,.slice (some d0) l0_3.length c0_3] 32 (0,0)) mC hb);clear hb hbox hg;have n0:=N1.out;have n1:=N0.out;obtain⟨z5,z6⟩:=bc2 B2.out;have z7:=blk_frozen B2.out)|((with_reducible refine gate_store (t:=56) (p:=5) rfl ?_);refine stV (t:=56) (p:=5) (w1:=((w5.setCell ⟨g0,0,none⟩ (.int .i64 ((rd_T56 l0_3 x1).f0))).setCell ⟨g0,1,none⟩ (.int .i64 ((rd_T56 l0_3 x1).f1)))) (h:=?_);intro wa hw;replace B0:Aside0 (wa.heap[g0_]? =some (.cells #[.int .i64 a0_0,.int .i64 a0_1,.int .i64 a0_2,.slice (some d0) l0_3.length c0_3] 32 (0,0))):=⟨(by rw[hw];exact(by(with_reducible repeat (first|refine blk_drewN ?_ _|refine blk_drew ?_ |refine blk_alloc ?_ _));refine blk_far ?_ N0.out _;(with_reducible repeat (first|refine blk_drewN ?_ _|refine blk_drew ?_ |refine blk_alloc ?_ _));refine blk_far ?_ N0.out _;(with_reducible repeat (first|refine blk_drewN ?_ _|refine blk_drew ?_ |refine blk_alloc ?_ _));exact B0.out))⟩;replace B2:Aside0 (wa.heap[g0]? =some (.cells #[.int .i64 ((rd_T56 l0_3 x1).f0),.int .i64 ((rd_T56 l0_3 x1).f1)] 56 (0,0))):=⟨(by rw[hw];exact(by(with_reducible repeat (first|refine blk_drewN ?_ _|refine blk_drew ?_ |refine blk_alloc ?_ _));refine blk_put (cs:=#[.int .i64 ((rd_T56 l0_3 x1).f0),.int .i64 0]) ?_ 1 _ rfl;(with_reducible repeat (first|refine blk_drewN ?_ _|refine blk_drew ?_ |refine blk_alloc ?_ _));refine blk_put (cs:=#[.int .i64 0,.int .i64 0]) ?_ 0 _ rfl;(with_reducible repeat (first|refine blk_drewN ?_ _|refine blk_drew ?_ |refine blk_alloc ?_ _));exact B2.out))⟩;replace HB:Aside0 (Below w.heap.size w wa):=⟨(by rw[hw];exact mBM)⟩;clear hw)));replace B0:=Aside0.mk (blk_drew B0.out);replace B2:=Aside0.mk (blk_drew B2.out);replace HB:=Aside0.mk (below_drew1 HB.out);refine start_ (n:=10) (S:=λw'=>w'.cell? ⟨g0,0,none⟩=some (.int .i64 ((rd_T56 l0_3 x1).f0))/\w'.cell? ⟨g0,1,none⟩=some (.int .i64 ((rd_T56 l0_3 x1).f1))) (ds:=[]) mk_10_0 mAI rfl rfl ⟨(blk_cell B2.out 0).trans rfl,(blk_cell B2.out 1).trans rfl⟩ (λhHeld=>?_);refine with_tabW lsa_body.tab5 lsa_body.bits5 (λHT_ HW_=>?_);generalize wa.drew=wb at B0 B2 HB hHeld |-;refine pV 0 33 mk_10_1 ?_;refine pV 1 34 mk_10_2 ?_;refine pV 4 37 #[true,true,false,false,true,false,false,false,false,false] ?_;refine tV 2 (some 35) #[true,true,true,false,true,false,false,false,false,false] (hy:=Or.inl ⟨by rfl,by rintro w' ⟨s0,s1⟩;go_simp;with_reducible rfl⟩) (h:=?_);refine tV 5 (some 38) #[true,true,true,false,true,true,false,false,false,false] (hy:=Or.inl ⟨by rfl,by rintro w' ⟨s0,s1⟩;go_simp;with_reducible rfl⟩) (h:=?_)
          refine oV 3 (some 36) mk_10_6 (h:=λK hK=>?_);refine gV Try.func74 #[.int .i64 ((rd_T56 l0_3 x1).f0)] (h:=?_)
          with_reducible refine(lsa_One.calls ((rd_T56 l0_3 x1).f0) t3 _ Ad.out).mono ?_
          rintro e wc ⟨rfl,hb⟩;refine⟨_,rfl,?_⟩;replace B0:=Aside0.mk (blk_below (g:=g0_) (o:= .cells #[.int .i64 a0_0,.int .i64 a0_1,.int .i64 a0_2,.slice (some d0) l0_3.length c0_3] 32 (0,0)) mC hb);replace B2:=Aside0.mk (blk_below mK hb);replace HB:=Aside0.mk (below_step mBM hb);(try clear hb);(try clear hb2);(try clear hk);(try clear hi);refine hK.out _ _ ⟨(blk_cell B2.out 0).trans rfl,(blk_cell B2.out 1).trans rfl⟩ (λhHeld=>?_);clear hK K;refine nV 36 (h:=?_);refine oV 6 (some 39) mk_10_7 (h:=λK hK=>?_);refine gV Try.func76 #[.int .i64 ((rd_T56 l0_3 x1).f1)] (h:=?_)
          with_reducible refine(lsa_Two.calls ((rd_T56 l0_3 x1).f1) t4 _ Af.out).mono ?_
          rintro e wd ⟨rfl,hb⟩;refine⟨_,rfl,?_⟩;replace B0:=Aside0.mk (blk_below (g:=g0_) (o:= .cells #[.int .i64 a0_0,.int .i64 a0_1,.int .i64 a0_2,.slice (some d0) l0_3.length c0_3] 32 (0,0)) mC hb);replace B2:=Aside0.mk (blk_below mK hb);replace HB:=Aside0.mk (below_step mBM hb);(try clear hb);(try clear hb2);(try clear hk);(try clear hi);refine hK.out _ _ ⟨(blk_cell B2.out 0).trans rfl,(blk_cell B2.out 1).trans rfl⟩ (λhHeld=>?_);clear hK K;refine nV 39 (h:=?_);refine pV 7 40 mk_10_8 ?_;refine pV 8 41 mk_10_9 ?_;refine pV 9 3 mk_10_10 ?_;refine done_ (done_of HT_.out mAI) ?_;(try go_wp2)
          go_roundg k1
          case measure=>have:=HK1.out;omega
          case rel=>exact⟨(x0++(t3++t4)),(wrap64 (x1+1)),mJ,mJ,H',⟨by have:=HK1.out;omega⟩,⟨by(with_reducible repeat (first|refine blk_drewN ?_ _|refine blk_drew ?_ |refine blk_alloc ?_ _));exact B0.out⟩,⟨by repeat (first|(with_reducible first|exact HB.out|apply below_alloc|apply pw_below_drewN|apply below_drew1|refine below_set ?_ G0.out|refine below_set ?_ G2.out)|exact HB.out)⟩⟩
         ·rw[if_neg cy]at H
          exact absurd H mAY
        ·rw[if_neg cu]at H
         exact absurd H mAY
       ·rw[if_neg cr]at H
        exact absurd H mAY
      ·rw[if_neg cp]at H
       exact absurd H mAY
     ·rw[if_neg cn]at H
      have co:=decide_eq_false cn;clear cn;obtain rfl:=Option.some.inj H;go_wp2;go_ret;exact⟨by first|rfl|(simp[errW_none,errW_some] <;> rfl)|(simp[*,errW_none,errW_some] <;> rfl),by repeat (first|(with_reducible first|exact HB.out|apply below_alloc|apply pw_below_drewN|apply below_drew1|refine below_set ?_ G0.out)|exact HB.out)⟩
  ·rw[if_neg c6]at H
   exact absurd H mAY
 ·rw[if_neg c4]at H
  exact absurd H mAY
def lsa_Head.f (k:Nat) (a0_0:Int) (a0_1:Int) (a0_2:Int) (l0_3:List (S56)):Option (Int × Int × Int × Int × Int):=(lsa_May.f k a0_0 a0_1 a0_2 l0_3).bind λt165=>(if t165=true then((lsa_body.f k a0_0 a0_1 a0_2 l0_3).bind λt166=>((fletch_Sum.f k t166).bind λt167=>(some (a0_0,a0_1,a0_2,t167,0))))else(some (0,0,0,0,700)))
theorem lsa_Head.mono:∀a0 a1 a2 a3 k,LeO (lsa_Head.f k a0 a1 a2 a3) (lsa_Head.f (k+1) a0 a1 a2 a3):=by
 intro a0 a1 a2 a3 k;unfold lsa_Head.f
 repeat' (with_reducible first|exact fletch_Sum.mono _ _|exact lsa_May.mono _ _ _ _ _|exact lsa_body.mono _ _ _ _ _|exact LeO.refl _|exact LeO.none _|refine LeO.ite ?_ ?_ |refine LeO.bind ?_ (λ_=>?_))
def lsa_Head.T3:Bool × List (List Nat × List Nat):=(true,[([],[]),([0],[0]),([],[]),([2],[2]),([],[]),([4],[4]),([],[]),([6,6],[6]),([1,3,5,7],[1,3,5,7]),([8,7,0,1,2,3,4,5,6,7,8],[8]),([9,0,1,2,3,4,5,6,7,8,9],[])])
def lsa_Head.B3:List Nat:=[0,1,0,4,0,16,0,64,255,511,1023]
theorem lsa_Head.tab3:rtab .any (opsOf Try.f53 3)=lsa_Head.T3:=by kernel_rfl
theorem lsa_Head.bits3:waitsOk lsa_Head.T3.2 lsa_Head.B3=true:=by kernel_rfl
set_option maxHeartbeats 8000000 in
set_option maxRecDepth 100000 in
theorem lsa_Head.calls (k:Nat) (a0_0:Int) (a0_1:Int) (a0_2:Int) (A0_3:Option Addr) (c0_3:Nat) (l0_3:List (S56)) (r1:Int) (r2:Int) (r3:Int) (r4:Int) (r5:Int) (w:World) (hr0_3:Kd.C k56 w A0_3 l0_3.length l0_3) (hc0_3:l0_3.length<=c0_3) (h:lsa_Head.f k a0_0 a0_1 a0_2 l0_3=some (r1,r2,r3,r4,r5)):
  Calls Try.prog 53 #[.agg #[.int .i64 a0_0,.int .i64 a0_1,.int .i64 a0_2,.slice A0_3 l0_3.length c0_3]] w λe w'=>e= .returned (.tuple #[.agg #[.int .i64 r1,.int .i64 r2,.int .i64 r3,.int .i64 r4],.int .i64 r5])/\Below w.heap.size w w':=by
 have hu32:=Try.underlying32;have hu73:=Try.underlying73;have R0:=Aside0.mk hr0_3;have K0:=Aside0.mk hc0_3;clear hr0_3 hc0_3;have HB:=Aside0.mk (Below.refl w.heap.size w);have H:((lsa_May.f k a0_0 a0_1 a0_2 l0_3).bind λt0=>(if t0=true then((lsa_body.f k a0_0 a0_1 a0_2 l0_3).bind λt1=>((fletch_Sum.f k t1).bind λt2=>(some (a0_0,a0_1,a0_2,t2,0))))else(some (0,0,0,0,700))))=some (r1,r2,r3,r4,r5):=h;clear h;obtain⟨t0,A0,H⟩:=bsE H;(try dsimp only at H);have A2:=Aside0.mk A0;clear A0
 by_cases c3:t0=true
 ·subst c3
  rw[if_pos rfl]at H;obtain⟨t1,A3,H⟩:=bsE H;(try dsimp only at H);have A4:=Aside0.mk A3;clear A3;obtain⟨t2,A6,H⟩:=bsE H;(try dsimp only at H);have A5:=Aside0.mk A6;clear A6;simp only[Option.some.injEq,Prod.mk.injEq]at H;obtain⟨rfl,rfl,rfl,rfl,rfl⟩:=H
  go_enter Try.func53,Try.ntmps53
  try go_wp2_with (first|((with_reducible refine gate_dst (N:=1) rfl ?_);refine bxV (N:=1) (cs:=#[.int .i64 a0_0,.int .i64 a0_1,.int .i64 a0_2,.slice A0_3 l0_3.length c0_3]) (t:=32) (h:=?_);intro g0 hg w6 hbox hb;have B0:=Aside0.mk (hbox);have G0:=Aside0.mk ((mH:w.heap.size<=g0));have G1:=Aside0.mk ((mH:w.heap.size<=g0));replace HB:=Aside0.mk (below_step mA hb);clear hb hbox hg)|((with_reducible refine gate_dst (N:=2) rfl ?_);refine bxV (N:=2) (cs:=#[.int .i64 0,.int .i64 0,.int .i64 0,.int .i64 0]) (t:=73) (h:=?_);intro g1 hg w7 hbox hb;have B1:=Aside0.mk (hbox);have G2:=Aside0.mk ((mW:w.heap.size<=g1));have G3:=Aside0.mk ((mW:w.heap.size<=g1));replace HB:=Aside0.mk (below_step mB hb);have N0:=Aside0.mk ((mX:g0≠g1));have N1:=Aside0.mk ((mY:g1≠g0));replace B0:=Aside0.mk (blk_below mC hb);clear hb hbox hg;have n0:=N0.out;have n1:=N1.out;obtain⟨z0,z1,z2,z3⟩:=bc4 B0.out;have z4:=blk_frozen B0.out)|((with_reducible refine gate_callee (f:=27) rfl ?_);refine cLV (some 5) Try.func27 #[.agg #[.int .i64 a0_0,.int .i64 a0_1,.int .i64 a0_2,.slice A0_3 l0_3.length c0_3]] (h:=?_);(with_reducible refine(lsa_May.calls k a0_0 a0_1 a0_2 _ _ l0_3 true _ ?side1 ?side2 A2.out).mono ?_);(case side1=>repeat (first|exact(Kd.C_below R0.out HB.out)|(with_reducible refine Kd.C_alloc ?_ _)|(with_reducible refine Kd.C_drewN ?_ _)|(with_reducible refine Kd.C_drew ?_)));(case side2=>exact K0.out);rintro e w3 ⟨rfl,hb⟩;refine⟨_,rfl,?_⟩;replace B0:=Aside0.mk (blk_below mC hb);replace B1:=Aside0.mk (blk_below mE hb);replace HB:=Aside0.mk (below_step mD hb);(try clear hb)))
  replace B0:=Aside0.mk (blk_drew B0.out);replace B1:=Aside0.mk (blk_drew B1.out);replace HB:=Aside0.mk (below_drew1 HB.out);refine start_ (n:=11) (S:=λw'=>w'.cell? ⟨g0,0,none⟩=some (.int .i64 a0_0)/\w'.cell? ⟨g0,1,none⟩=some (.int .i64 a0_1)/\w'.cell? ⟨g0,2,none⟩=some (.int .i64 a0_2)/\w'.cell? ⟨g0,3,none⟩=some (.slice A0_3 l0_3.length c0_3)) (ds:=[]) mk_11_0 mAI rfl rfl ⟨(blk_cell B0.out 0).trans rfl,(blk_cell B0.out 1).trans rfl,(blk_cell B0.out 2).trans rfl,(blk_cell B0.out 3).trans rfl⟩ (λhHeld=>?_);refine with_tabW lsa_Head.tab3 lsa_Head.bits3 (λHT_ HW_=>?_);generalize w3.drew=w4 at B0 B1 HB hHeld |-;refine pV 0 8 mk_11_1 ?_;refine pV 2 10 #[true,false,true,false,false,false,false,false,false,false,false] ?_;refine pV 4 12 #[true,false,true,false,true,false,false,false,false,false,false] ?_;refine tV 1 (some 9) #[true,true,true,false,true,false,false,false,false,false,false] (hy:=Or.inl ⟨by rfl,by rintro w' ⟨s0,s1,s2,s3⟩;go_simp;with_reducible rfl⟩) (h:=?_);refine tV 3 (some 11) mk_11_5 (hy:=Or.inl ⟨by rfl,by rintro w' ⟨s0,s1,s2,s3⟩;go_simp;with_reducible rfl⟩) (h:=?_);refine tV 5 (some 13) mk_11_6 (hy:=Or.inl ⟨by rfl,by rintro w' ⟨s0,s1,s2,s3⟩;go_simp;with_reducible rfl⟩) (h:=?_);refine oV 6 (some 14) mk_11_7 (h:=λK hK=>?_);refine gV Try.func63 #[.pointer (some ⟨g0,0,none⟩)] (h:=?_)
  with_reducible refine(lsa_body.calls k g0 a0_0 a0_1 a0_2 A0_3 c0_3 l0_3 t1 _ ?side1 ?side2 ?side3 A4.out).mono ?_
  (case side1=>exact mC)
  (case side2=>repeat (first|exact(Kd.C_below R0.out HB.out)|(with_reducible refine Kd.C_alloc ?_ _)|(with_reducible refine Kd.C_drewN ?_ _)|(with_reducible refine Kd.C_drew ?_)))
  (case side3=>exact K0.out)
  rintro e w5 ⟨rfl,hb⟩;refine⟨_,rfl,?_⟩;replace B0:=Aside0.mk (blk_below mC hb);replace B1:=Aside0.mk (blk_below mE hb);replace HB:=Aside0.mk (below_step mD hb);(try clear hb);(try clear hb2);(try clear hk);(try clear hi);refine hK.out _ _ ⟨(blk_cell B0.out 0).trans rfl,(blk_cell B0.out 1).trans rfl,(blk_cell B0.out 2).trans rfl,(blk_cell B0.out 3).trans rfl⟩ (λhHeld=>?_);clear hK K;refine nV 14 (h:=?_);refine oV 7 (some 15) mk_11_8 (h:=λK hK=>?_);refine gV Try.func62 #[.string t1] (h:=?_)
  with_reducible refine(fletch_Sum.calls k t1 t2 _ A5.out).mono ?_
  rintro e w' ⟨rfl,⟨nd,rfl⟩⟩;refine⟨_,rfl,?_⟩;refine hK.out _ _ ⟨(blk_cell B0.out 0).trans rfl,(blk_cell B0.out 1).trans rfl,(blk_cell B0.out 2).trans rfl,(blk_cell B0.out 3).trans rfl⟩ (λhHeld=>?_);clear hK K;refine nV 15 (h:=?_);refine pV 8 16 mk_11_9 ?_;refine one_ (i:=9) (N:=none) mk_11_10 rfl rfl (one_of HT_.out mAI) mAE (λK hK=>?_);have hs13:w5.cell? ⟨g1,0,none⟩=some (.int .i64 0):=(blk_cell B1.out 0).trans rfl;have hfs13:=blk_frozen B1.out 0;have hns13_0:=N0.out;have hms13_0:=N1.out;have hs14:w5.cell? ⟨g1,1,none⟩=some (.int .i64 0):=(blk_cell B1.out 1).trans rfl;have hfs14:=blk_frozen B1.out 1;have hns14_0:=N0.out;have hms14_0:=N1.out;have hs15:w5.cell? ⟨g1,2,none⟩=some (.int .i64 0):=(blk_cell B1.out 2).trans rfl;have hfs15:=blk_frozen B1.out 2;have hns15_0:=N0.out;have hms15_0:=N1.out;have hs16:w5.cell? ⟨g1,3,none⟩=some (.int .i64 0):=(blk_cell B1.out 3).trans rfl;have hfs16:=blk_frozen B1.out 3;have hns16_0:=N0.out;have hms16_0:=N1.out;refine skip_ (w1:=?_) (by rfl) rfl ?_ ?_;rotate_left
  ·go_simp
   rfl
  refine hK.out _ _ ⟨((cell_far (p:=⟨g1,_,none⟩) N0.out _).trans (((cell_far (p:=⟨g1,_,none⟩) N0.out _).trans (((cell_far (p:=⟨g1,_,none⟩) N0.out _).trans (((cell_far (p:=⟨g1,_,none⟩) N0.out _).trans (hHeld.1)))))))),((cell_far (p:=⟨g1,_,none⟩) N0.out _).trans (((cell_far (p:=⟨g1,_,none⟩) N0.out _).trans (((cell_far (p:=⟨g1,_,none⟩) N0.out _).trans (((cell_far (p:=⟨g1,_,none⟩) N0.out _).trans (hHeld.2.1)))))))),((cell_far (p:=⟨g1,_,none⟩) N0.out _).trans (((cell_far (p:=⟨g1,_,none⟩) N0.out _).trans (((cell_far (p:=⟨g1,_,none⟩) N0.out _).trans (((cell_far (p:=⟨g1,_,none⟩) N0.out _).trans (hHeld.2.2.1)))))))),((cell_far (p:=⟨g1,_,none⟩) N0.out _).trans (((cell_far (p:=⟨g1,_,none⟩) N0.out _).trans (((cell_far (p:=⟨g1,_,none⟩) N0.out _).trans (((cell_far (p:=⟨g1,_,none⟩) N0.out _).trans (hHeld.2.2.2))))))))⟩ (λhHeld=>?_);clear hK K;refine pV 10 3 mk_11_11 ?_;refine done_ (done_of HT_.out mAI) ?_;(try go_wp2);refine bodyPost_ret (results_ct rfl _ _ g1 73 #[.int .i64 a0_0,.int .i64 a0_1,.int .i64 a0_2,.int .i64 t2] (0,0) _ rfl mAS Try.underlying73 rfl mAI) rfl ?_;exact⟨by first|rfl|(simp[errW_none,errW_some] <;> rfl)|(simp[*,errW_none,errW_some] <;> rfl),by repeat (first|(with_reducible first|exact HB.out|apply below_alloc|apply pw_below_drewN|apply below_drew1|refine below_set ?_ G1.out|refine below_set ?_ G3.out)|exact HB.out)⟩
 ·replace c3:=Bool.eq_false_iff.mpr c3
  subst c3;rw[if_neg (show ¬(false=true)by decide)]at H;simp only[Option.some.injEq,Prod.mk.injEq]at H;obtain⟨rfl,rfl,rfl,rfl,rfl⟩:=H
  go_enter Try.func53,Try.ntmps53
  go_wp2_with (first|((with_reducible refine gate_dst (N:=1) rfl ?_);refine bxV (N:=1) (cs:=#[.int .i64 a0_0,.int .i64 a0_1,.int .i64 a0_2,.slice A0_3 l0_3.length c0_3]) (t:=32) (h:=?_);intro g0 hg w9 hbox hb;have B0:=Aside0.mk (hbox);have G0:=Aside0.mk ((mH:w.heap.size<=g0));have G1:=Aside0.mk ((mH:w.heap.size<=g0));replace HB:=Aside0.mk (below_step mA hb);clear hb hbox hg)|((with_reducible refine gate_dst (N:=2) rfl ?_);refine bxV (N:=2) (cs:=#[.int .i64 0,.int .i64 0,.int .i64 0,.int .i64 0]) (t:=73) (h:=?_);intro g1 hg wa hbox hb;have B1:=Aside0.mk (hbox);have G2:=Aside0.mk ((mW:w.heap.size<=g1));have G3:=Aside0.mk ((mW:w.heap.size<=g1));replace HB:=Aside0.mk (below_step mB hb);have N0:=Aside0.mk ((mX:g0≠g1));have N1:=Aside0.mk ((mY:g1≠g0));replace B0:=Aside0.mk (blk_below mC hb);clear hb hbox hg;have n2:=N0.out;have n3:=N1.out;obtain⟨z5,z6,z7,z8⟩:=bc4 B0.out;have z9:=blk_frozen B0.out)|((with_reducible refine gate_callee (f:=27) rfl ?_);refine cLV (some 5) Try.func27 #[.agg #[.int .i64 a0_0,.int .i64 a0_1,.int .i64 a0_2,.slice A0_3 l0_3.length c0_3]] (h:=?_);(with_reducible refine(lsa_May.calls k a0_0 a0_1 a0_2 _ _ l0_3 false _ ?side1 ?side2 A2.out).mono ?_);(case side1=>repeat (first|exact(Kd.C_below R0.out HB.out)|(with_reducible refine Kd.C_alloc ?_ _)|(with_reducible refine Kd.C_drewN ?_ _)|(with_reducible refine Kd.C_drew ?_)));(case side2=>exact K0.out);rintro e wb ⟨rfl,hb⟩;refine⟨_,rfl,?_⟩;replace B0:=Aside0.mk (blk_below mC hb);replace B1:=Aside0.mk (blk_below mE hb);replace HB:=Aside0.mk (below_step mD hb);(try clear hb);obtain⟨za,zb,zc,zd⟩:=bc4 B1.out;have ze:=blk_frozen B1.out)|((with_reducible refine gate_store (t:=73) (p:=2) rfl ?_);refine stV (t:=73) (p:=2) (w1:=((((wb.setCell ⟨g1,0,none⟩ (.int .i64 0)).setCell ⟨g1,1,none⟩ (.int .i64 0)).setCell ⟨g1,2,none⟩ (.int .i64 0)).setCell ⟨g1,3,none⟩ (.int .i64 0))) (h:=?_);intro wd hw;replace B0:Aside0 (wd.heap[g0]? =some (.cells #[.int .i64 a0_0,.int .i64 a0_1,.int .i64 a0_2,.slice A0_3 l0_3.length c0_3] 32 (0,0))):=⟨mN⟩;replace B1:Aside0 (wd.heap[g1]? =some (.cells #[.int .i64 0,.int .i64 0,.int .i64 0,.int .i64 0] 73 (0,0))):=⟨mAR⟩;replace HB:Aside0 (Below w.heap.size w wd):=⟨mCF⟩;clear hw))
  refine bodyPost_ret (results_ct rfl _ _ g1 73 #[.int .i64 0,.int .i64 0,.int .i64 0,.int .i64 0] (0,0) _ rfl mE Try.underlying73 rfl mAI) rfl ?_;exact⟨by first|rfl|(simp[errW_none,errW_some] <;> rfl)|(simp[*,errW_none,errW_some] <;> rfl),by repeat (first|(with_reducible first|exact HB.out|apply below_alloc|apply pw_below_drewN|apply below_drew1|refine below_set ?_ G1.out|refine below_set ?_ G3.out)|exact HB.out)⟩
def ack_Head.f (a0_0:Int) (a0_1:Int) (a0_2:Int) (a0_3:Int):Option (Bool):=(lsa_Router.f a0_0).bind λt169=>(if t169=true then((lsa_Serial.f a0_1).bind λt170=>(if t170=true then((lsa_Age.f a0_2).bind λt171=>(if t171=true then(if a0_3>=0 then(some (decide (a0_3<=65535)))else(some false))else(some false)))else(some false)))else(some false))
set_option maxHeartbeats 8000000 in
set_option maxRecDepth 100000 in
theorem ack_Head.calls (a0_0:Int) (a0_1:Int) (a0_2:Int) (a0_3:Int) (r:Bool) (w:World) (h:ack_Head.f a0_0 a0_1 a0_2 a0_3=some r):
  Calls Try.prog 64 #[.agg #[.int .i64 a0_0,.int .i64 a0_1,.int .i64 a0_2,.int .i64 a0_3]] w λe w'=>e= .returned (.bool r)/\Below w.heap.size w w':=by
 have hu73:=Try.underlying73;have HB:=Aside0.mk (Below.refl w.heap.size w);have H:((lsa_Router.f a0_0).bind λt0=>(if t0=true then((lsa_Serial.f a0_1).bind λt1=>(if t1=true then((lsa_Age.f a0_2).bind λt2=>(if t2=true then(if a0_3>=0 then(some (decide (a0_3<=65535)))else(some false))else(some false)))else(some false)))else(some false)))=some r:=h;clear h;obtain⟨t0,A0,H⟩:=bsE H;(try dsimp only at H);have A2:=Aside0.mk A0;clear A0
 by_cases c3:t0=true
 ·subst c3
  rw[if_pos rfl]at H;obtain⟨t1,A3,H⟩:=bsE H;(try dsimp only at H);have A4:=Aside0.mk A3;clear A3
  by_cases c5:t1=true
  ·subst c5
   rw[if_pos rfl]at H;obtain⟨t2,A5,H⟩:=bsE H;(try dsimp only at H);have A6:=Aside0.mk A5;clear A5
   by_cases c7:t2=true
   ·subst c7
    rw[if_pos rfl]at H
    by_cases c8:a0_3>=0
    ·rw[if_pos c8]at H
     have ca:decide (0<=a0_3)=true:=decide_eq_true c8;clear c8;obtain rfl:=Option.some.inj H
     go_enter Try.func64,Try.ntmps64
     go_wp2_with (first|((with_reducible refine gate_dst (N:=1) rfl ?_);refine bxV (N:=1) (cs:=#[.int .i64 a0_0,.int .i64 a0_1,.int .i64 a0_2,.int .i64 a0_3]) (t:=73) (h:=?_);intro g0 hg w9 hbox hb;have B0:=Aside0.mk (hbox);have G0:=Aside0.mk ((mH:w.heap.size<=g0));have G1:=Aside0.mk ((mH:w.heap.size<=g0));replace HB:=Aside0.mk (below_step mA hb);clear hb hbox hg;obtain⟨z0,z1,z2,z3⟩:=bc4 B0.out;have z4:=blk_frozen B0.out)|((with_reducible refine gate_callee (f:=46) rfl ?_);refine cLV (some 5) Try.func46 #[.int .i64 a0_0] (h:=?_);(with_reducible refine(lsa_Router.calls a0_0 true _ A2.out).mono ?_);rintro e w' ⟨rfl,⟨nd,rfl⟩⟩;refine⟨_,rfl,?_⟩)|(go_at_call 47;(with_reducible refine(lsa_Serial.calls a0_1 true _ A4.out).mono ?_);rintro e w' ⟨rfl,⟨nd,rfl⟩⟩)|(go_at_call 48;(with_reducible refine(lsa_Age.calls a0_2 true _ A6.out).mono ?_);rintro e w' ⟨rfl,⟨nd,rfl⟩⟩))
     go_ret;exact⟨by first|rfl|(simp[errW_none,errW_some] <;> rfl)|(simp[*,errW_none,errW_some] <;> rfl),by repeat (first|(with_reducible first|exact HB.out|apply below_alloc|apply pw_below_drewN|apply below_drew1|refine below_set ?_ G1.out)|exact HB.out)⟩
    ·rw[if_neg c8]at H
     have ca:decide (0<=a0_3)=false:=decide_eq_false c8;clear c8;obtain rfl:=Option.some.inj H
     go_enter Try.func64,Try.ntmps64
     go_wp2_with (first|((with_reducible refine gate_dst (N:=1) rfl ?_);refine bxV (N:=1) (cs:=#[.int .i64 a0_0,.int .i64 a0_1,.int .i64 a0_2,.int .i64 a0_3]) (t:=73) (h:=?_);intro g0 hg w1 hbox hb;have B0:=Aside0.mk (hbox);have G0:=Aside0.mk ((mH:w.heap.size<=g0));have G1:=Aside0.mk ((mH:w.heap.size<=g0));replace HB:=Aside0.mk (below_step mA hb);clear hb hbox hg;obtain⟨z5,z6,z7,z8⟩:=bc4 B0.out;have z9:=blk_frozen B0.out)|((with_reducible refine gate_callee (f:=46) rfl ?_);refine cLV (some 5) Try.func46 #[.int .i64 a0_0] (h:=?_);(with_reducible refine(lsa_Router.calls a0_0 true _ A2.out).mono ?_);rintro e w' ⟨rfl,⟨nd,rfl⟩⟩;refine⟨_,rfl,?_⟩)|(go_at_call 47;(with_reducible refine(lsa_Serial.calls a0_1 true _ A4.out).mono ?_);rintro e w' ⟨rfl,⟨nd,rfl⟩⟩)|(go_at_call 48;(with_reducible refine(lsa_Age.calls a0_2 true _ A6.out).mono ?_);rintro e w' ⟨rfl,⟨nd,rfl⟩⟩))
     go_ret;exact⟨by first|rfl|(simp[errW_none,errW_some] <;> rfl)|(simp[*,errW_none,errW_some] <;> rfl),by repeat (first|(with_reducible first|exact HB.out|apply below_alloc|apply pw_below_drewN|apply below_drew1|refine below_set ?_ G1.out)|exact HB.out)⟩
   ·replace c7:=Bool.eq_false_iff.mpr c7
    subst c7;rw[if_neg (show ¬(false=true)by decide)]at H;obtain rfl:=Option.some.inj H
    go_enter Try.func64,Try.ntmps64
    go_wp2_with (first|((with_reducible refine gate_dst (N:=1) rfl ?_);refine bxV (N:=1) (cs:=#[.int .i64 a0_0,.int .i64 a0_1,.int .i64 a0_2,.int .i64 a0_3]) (t:=73) (h:=?_);intro g0 hg w2 hbox hb;have B0:=Aside0.mk (hbox);have G0:=Aside0.mk ((mH:w.heap.size<=g0));have G1:=Aside0.mk ((mH:w.heap.size<=g0));replace HB:=Aside0.mk (below_step mA hb);clear hb hbox hg;obtain⟨za,zb,zc,zd⟩:=bc4 B0.out;have ze:=blk_frozen B0.out)|((with_reducible refine gate_callee (f:=46) rfl ?_);refine cLV (some 5) Try.func46 #[.int .i64 a0_0] (h:=?_);(with_reducible refine(lsa_Router.calls a0_0 true _ A2.out).mono ?_);rintro e w' ⟨rfl,⟨nd,rfl⟩⟩;refine⟨_,rfl,?_⟩)|(go_at_call 47;(with_reducible refine(lsa_Serial.calls a0_1 true _ A4.out).mono ?_);rintro e w' ⟨rfl,⟨nd,rfl⟩⟩)|(go_at_call 48;(with_reducible refine(lsa_Age.calls a0_2 false _ A6.out).mono ?_);rintro e w' ⟨rfl,⟨nd,rfl⟩⟩))
    go_ret;exact⟨by first|rfl|(simp[errW_none,errW_some] <;> rfl)|(simp[*,errW_none,errW_some] <;> rfl),by repeat (first|(with_reducible first|exact HB.out|apply below_alloc|apply pw_below_drewN|apply below_drew1|refine below_set ?_ G1.out)|exact HB.out)⟩
  ·replace c5:=Bool.eq_false_iff.mpr c5
   subst c5;rw[if_neg (show ¬(false=true)by decide)]at H;obtain rfl:=Option.some.inj H
   go_enter Try.func64,Try.ntmps64
   go_wp2_with (first|((with_reducible refine gate_dst (N:=1) rfl ?_);refine bxV (N:=1) (cs:=#[.int .i64 a0_0,.int .i64 a0_1,.int .i64 a0_2,.int .i64 a0_3]) (t:=73) (h:=?_);intro g0 hg w3 hbox hb;have B0:=Aside0.mk (hbox);have G0:=Aside0.mk ((mH:w.heap.size<=g0));have G1:=Aside0.mk ((mH:w.heap.size<=g0));replace HB:=Aside0.mk (below_step mA hb);clear hb hbox hg;obtain⟨zf,zg,zh,zi⟩:=bc4 B0.out;have zj:=blk_frozen B0.out)|((with_reducible refine gate_callee (f:=46) rfl ?_);refine cLV (some 5) Try.func46 #[.int .i64 a0_0] (h:=?_);(with_reducible refine(lsa_Router.calls a0_0 true _ A2.out).mono ?_);rintro e w' ⟨rfl,⟨nd,rfl⟩⟩;refine⟨_,rfl,?_⟩)|(go_at_call 47;(with_reducible refine(lsa_Serial.calls a0_1 false _ A4.out).mono ?_);rintro e w' ⟨rfl,⟨nd,rfl⟩⟩))
   go_ret;exact⟨by first|rfl|(simp[errW_none,errW_some] <;> rfl)|(simp[*,errW_none,errW_some] <;> rfl),by repeat (first|(with_reducible first|exact HB.out|apply below_alloc|apply pw_below_drewN|apply below_drew1|refine below_set ?_ G1.out)|exact HB.out)⟩
 ·replace c3:=Bool.eq_false_iff.mpr c3
  subst c3;rw[if_neg (show ¬(false=true)by decide)]at H;obtain rfl:=Option.some.inj H
  go_enter Try.func64,Try.ntmps64
  go_wp2_with (first|((with_reducible refine gate_dst (N:=1) rfl ?_);refine bxV (N:=1) (cs:=#[.int .i64 a0_0,.int .i64 a0_1,.int .i64 a0_2,.int .i64 a0_3]) (t:=73) (h:=?_);intro g0 hg w4 hbox hb;have B0:=Aside0.mk (hbox);have G0:=Aside0.mk ((mH:w.heap.size<=g0));have G1:=Aside0.mk ((mH:w.heap.size<=g0));replace HB:=Aside0.mk (below_step mA hb);clear hb hbox hg;obtain⟨zk,zl,zm,zn⟩:=bc4 B0.out;have zo:=blk_frozen B0.out)|((with_reducible refine gate_callee (f:=46) rfl ?_);refine cLV (some 5) Try.func46 #[.int .i64 a0_0] (h:=?_);(with_reducible refine(lsa_Router.calls a0_0 false _ A2.out).mono ?_);rintro e w' ⟨rfl,⟨nd,rfl⟩⟩;refine⟨_,rfl,?_⟩))
  go_ret;exact⟨by first|rfl|(simp[errW_none,errW_some] <;> rfl)|(simp[*,errW_none,errW_some] <;> rfl),by repeat (first|(with_reducible first|exact HB.out|apply below_alloc|apply pw_below_drewN|apply below_drew1|refine below_set ?_ G1.out)|exact HB.out)⟩
def cmp_Or_int.l0:Nat->Int->List Int->Int->Int->Option (Int)
 |0,_,_,_,_=>none
 |k+1,x3,x6,x7,x8=>if x8<x7 then(if 0<=x8 then(if x8<(x6.length:Int)then(if(rd x6 x8)=x3 then(cmp_Or_int.l0 k x3 x6 x7 (wrap64 (x8+1)))else(some (rd x6 x8)))else(none))else(none))else(some x3)
def cmp_Or_int.f (k:Nat) (l0:List Int):Option (Int):=cmp_Or_int.l0 k 0 l0 (l0.length:Int) 0
theorem cmp_Or_int.mono_l:∀k,(∀y0 y1 y2 y3,LeO (cmp_Or_int.l0 k y0 y1 y2 y3) (cmp_Or_int.l0 (k+1) y0 y1 y2 y3))
 |0=>λ_ _ _ _ r h=>by simp[cmp_Or_int.l0]at h
 |k+1=>by
  have ih0:=cmp_Or_int.mono_l k
  ·intro y0 y1 y2 y3
   unfold cmp_Or_int.l0
   repeat' (with_reducible first|exact ih0 _ _ _ _|exact LeO.refl _|exact LeO.none _|refine LeO.ite ?_ ?_ |refine LeO.bind ?_ (λ_=>?_))
theorem cmp_Or_int.mono:∀a0 k,LeO (cmp_Or_int.f k a0) (cmp_Or_int.f (k+1) a0):=by
 intro a0 k;have ih0:=cmp_Or_int.mono_l k;unfold cmp_Or_int.f
 repeat' (with_reducible first|exact ih0 _ _ _ _|exact LeO.refl _|exact LeO.none _|refine LeO.ite ?_ ?_ |refine LeO.bind ?_ (λ_=>?_))
set_option maxHeartbeats 8000000 in
set_option maxRecDepth 100000 in
theorem cmp_Or_int.calls (k:Nat) (A0:Option Addr) (c0:Nat) (l0:List Int) (r:Int) (w:World) (hr0:Kd.C (Kd.int .i64) w A0 l0.length l0) (hc0:l0.length<=c0) (h:cmp_Or_int.f k l0=some r):
  Calls Try.prog 65 #[.slice A0 l0.length c0] w λe w'=>e= .returned (.int .i64 r)/\Drawn0 w w':=by
 have R0:=Aside0.mk hr0;have K0:=Aside0.mk hc0;clear hr0 hc0;have H:(cmp_Or_int.l0 k 0 l0 (l0.length:Int) 0)=some r:=h;clear h;have H':=Aside0.mk H;clear H
 go_enter Try.func65,Try.ntmps65
 go_wp2
 go_loopg [8] k (λkq v8 w'=>∃(x0:Int),v8= .int .i64 x0/\Aside0 (cmp_Or_int.l0 kq 0 l0 (l0.length:Int) x0=some r)/\Aside0 (kq<=k)/\Drawn0 w w')
 case atStart=>exact⟨(0),mJ,H',⟨Nat.le_refl _⟩,by repeat (first|exact Drawn0.refl _|apply Drawn0.step)⟩
 case round=>
  clear H';obtain⟨x0,rfl,HA,HK1,⟨m1,rfl⟩⟩:=hrel;cases gk with
  |zero=>exact absurd HA.out (by simp[cmp_Or_int.l0])
  |succ k1=>
   have H:=HA.out;clear HA;simp only[cmp_Or_int.l0]at H
   by_cases c2:x0<(l0.length:Int)
   ·rw[if_pos c2]at H
    have c6:=decide_eq_true c2;clear c2
    by_cases c3:0<=x0
    ·rw[if_pos c3]at H
     have cb:=decide_eq_true c3;clear c3
     by_cases c4:x0<(l0.length:Int)
     ·rw[if_pos c4]at H
      have cg:=decide_eq_true c4;clear c4
      by_cases c5:(rd l0 x0)=0
      ·rw[if_pos c5]at H
       have cl:=beq_iff_eq.mpr c5;have cn:=bne_eq_false_iff_eq.mpr c5;clear c5;have H':=Aside0.mk H;clear H;have p0:0<=(x0:Int):=of_decide_eq_true mF;have q0:x0<(l0.length:Int):=of_decide_eq_true mF;obtain⟨d0,e0,h0⟩:=Kd.at_int R0.out x0 p0 q0;cases e0;replace p0:=eq_true p0;replace q0:=eq_true q0;go_wp2
       go_roundg k1
       case measure=>have:=HK1.out;omega
       case rel=>exact⟨(wrap64 (x0+1)),mJ,H',⟨by have:=HK1.out;omega⟩,by repeat (first|exact Drawn0.refl _|apply Drawn0.step)⟩
      ·rw[if_neg c5]at H
       have cl:=beq_eq_false_iff_ne.mpr c5;have cn:=bne_iff_ne.mpr c5;obtain rfl:=Option.some.inj H;have p0:0<=(x0:Int):=of_decide_eq_true mF;have q0:x0<(l0.length:Int):=of_decide_eq_true mF;obtain⟨d0,e0,h0⟩:=Kd.at_int R0.out x0 p0 q0;cases e0;replace p0:=eq_true p0;replace q0:=eq_true q0;go_wp2;go_ret;exact⟨by first|rfl|(simp;done)|(simp[*];done),by repeat (first|exact Drawn0.refl _|apply Drawn0.step)⟩
     ·rw[if_neg c4]at H
      exact absurd H mAY
    ·rw[if_neg c3]at H
     exact absurd H mAY
   ·rw[if_neg c2]at H
    have c6:=decide_eq_false c2;clear c2;obtain rfl:=Option.some.inj H;go_wp2;go_ret;exact⟨by first|rfl|(simp;done)|(simp[*];done),by repeat (first|exact Drawn0.refl _|apply Drawn0.step)⟩
def cmp_isNaN_int.f (a0:Int):Option (Bool):=some (a0 !=a0)
set_option maxHeartbeats 8000000 in
set_option maxRecDepth 100000 in
theorem cmp_isNaN_int.calls (a0:Int) (r:Bool) (w:World) (h:cmp_isNaN_int.f a0=some r):
  Calls Try.prog 77 #[.int .i64 a0] w λe w'=>e= .returned (.bool r)/\Drawn0 w w':=by
 have H:(some (a0 !=a0))=some r:=h;clear h;obtain rfl:=Option.some.inj H
 go_enter Try.func77,Try.ntmps77
 go_wp2;go_ret;exact⟨by first|rfl|(simp;done)|(simp[*];done),by repeat (first|exact Drawn0.refl _|apply Drawn0.step)⟩
def cmp_Compare_int.f (a0:Int) (a1:Int):Option (Int):=(cmp_isNaN_int.f a0).bind λt173=>((cmp_isNaN_int.f a1).bind λt174=>(if t173=true then(if t174=true then(some 0)else(some (-1)))else(if t174=true then(some 1)else(if a0<a1 then(some (-1))else(if a0>a1 then(some 1)else(some 0))))))
set_option maxHeartbeats 8000000 in
set_option maxRecDepth 100000 in
theorem cmp_Compare_int.calls (a0:Int) (a1:Int) (r:Int) (w:World) (h:cmp_Compare_int.f a0 a1=some r):
  Calls Try.prog 66 #[.int .i64 a0,.int .i64 a1] w λe w'=>e= .returned (.int .i64 r)/\Drawn0 w w':=by
 have H:((cmp_isNaN_int.f a0).bind λt0=>((cmp_isNaN_int.f a1).bind λt1=>(if t0=true then(if t1=true then(some 0)else(some (-1)))else(if t1=true then(some 1)else(if a0<a1 then(some (-1))else(if a0>a1 then(some 1)else(some 0)))))))=some r:=h;clear h;obtain⟨t0,A0,H⟩:=bsE H;(try dsimp only at H);have A3:=Aside0.mk A0;clear A0;obtain⟨t1,A2,H⟩:=bsE H;(try dsimp only at H);have A4:=Aside0.mk A2;clear A2
 by_cases c5:t0=true
 ·subst c5
  rw[if_pos rfl]at H
  by_cases c6:t1=true
  ·subst c6
   rw[if_pos rfl]at H;obtain rfl:=Option.some.inj H
   go_enter Try.func66,Try.ntmps66
   go_wp2_with (first|((with_reducible refine gate_callee (f:=77) rfl ?_);refine cLV (some 8) Try.func77 #[.int .i64 a0] (h:=?_);(with_reducible refine(cmp_isNaN_int.calls a0 true _ A3.out).mono ?_);rintro e w' ⟨rfl,⟨nd,rfl⟩⟩;refine⟨_,rfl,?_⟩)|((with_reducible refine gate_callee (f:=77) rfl ?_);refine cLV (some 10) Try.func77 #[.int .i64 a1] (h:=?_);(with_reducible refine(cmp_isNaN_int.calls a1 true _ A4.out).mono ?_);rintro e w' ⟨rfl,⟨nd,rfl⟩⟩;refine⟨_,rfl,?_⟩))
   go_ret;exact⟨by first|rfl|(simp;done)|(simp[*];done),by repeat (first|exact Drawn0.refl _|apply Drawn0.step)⟩
  ·replace c6:=Bool.eq_false_iff.mpr c6
   subst c6;rw[if_neg (show ¬(false=true)by decide)]at H;obtain rfl:=Option.some.inj H
   go_enter Try.func66,Try.ntmps66
   go_wp2_with (first|((with_reducible refine gate_callee (f:=77) rfl ?_);refine cLV (some 8) Try.func77 #[.int .i64 a0] (h:=?_);(with_reducible refine(cmp_isNaN_int.calls a0 true _ A3.out).mono ?_);rintro e w' ⟨rfl,⟨nd,rfl⟩⟩;refine⟨_,rfl,?_⟩)|((with_reducible refine gate_callee (f:=77) rfl ?_);refine cLV (some 10) Try.func77 #[.int .i64 a1] (h:=?_);(with_reducible refine(cmp_isNaN_int.calls a1 false _ A4.out).mono ?_);rintro e w' ⟨rfl,⟨nd,rfl⟩⟩;refine⟨_,rfl,?_⟩))
   go_ret;exact⟨by first|rfl|(simp;done)|(simp[*];done),by repeat (first|exact Drawn0.refl _|apply Drawn0.step)⟩
 ·replace c5:=Bool.eq_false_iff.mpr c5
  subst c5;rw[if_neg (show ¬(false=true)by decide)]at H
  by_cases c7:t1=true
  ·subst c7
   rw[if_pos rfl]at H;obtain rfl:=Option.some.inj H
   go_enter Try.func66,Try.ntmps66
   go_wp2_with (first|((with_reducible refine gate_callee (f:=77) rfl ?_);refine cLV (some 8) Try.func77 #[.int .i64 a0] (h:=?_);(with_reducible refine(cmp_isNaN_int.calls a0 false _ A3.out).mono ?_);rintro e w' ⟨rfl,⟨nd,rfl⟩⟩;refine⟨_,rfl,?_⟩)|((with_reducible refine gate_callee (f:=77) rfl ?_);refine cLV (some 10) Try.func77 #[.int .i64 a1] (h:=?_);(with_reducible refine(cmp_isNaN_int.calls a1 true _ A4.out).mono ?_);rintro e w' ⟨rfl,⟨nd,rfl⟩⟩;refine⟨_,rfl,?_⟩))
   go_ret;exact⟨by first|rfl|(simp;done)|(simp[*];done),by repeat (first|exact Drawn0.refl _|apply Drawn0.step)⟩
  ·replace c7:=Bool.eq_false_iff.mpr c7
   subst c7;rw[if_neg (show ¬(false=true)by decide)]at H
   by_cases c8:a0<a1
   ·rw[if_pos c8]at H
    have cl:=decide_eq_true c8;clear c8;obtain rfl:=Option.some.inj H
    go_enter Try.func66,Try.ntmps66
    go_wp2_with (first|((with_reducible refine gate_callee (f:=77) rfl ?_);refine cLV (some 8) Try.func77 #[.int .i64 a0] (h:=?_);(with_reducible refine(cmp_isNaN_int.calls a0 false _ A3.out).mono ?_);rintro e w' ⟨rfl,⟨nd,rfl⟩⟩;refine⟨_,rfl,?_⟩)|((with_reducible refine gate_callee (f:=77) rfl ?_);refine cLV (some 10) Try.func77 #[.int .i64 a1] (h:=?_);(with_reducible refine(cmp_isNaN_int.calls a1 false _ A4.out).mono ?_);rintro e w' ⟨rfl,⟨nd,rfl⟩⟩;refine⟨_,rfl,?_⟩))
    go_ret;exact⟨by first|rfl|(simp;done)|(simp[*];done),by repeat (first|exact Drawn0.refl _|apply Drawn0.step)⟩
   ·rw[if_neg c8]at H
    have cl:=decide_eq_false c8;clear c8
    by_cases c9:a0>a1
    ·rw[if_pos c9]at H
     have ct:decide (a1<a0)=true:=decide_eq_true c9;clear c9;obtain rfl:=Option.some.inj H
     go_enter Try.func66,Try.ntmps66
     go_wp2_with (first|((with_reducible refine gate_callee (f:=77) rfl ?_);refine cLV (some 8) Try.func77 #[.int .i64 a0] (h:=?_);(with_reducible refine(cmp_isNaN_int.calls a0 false _ A3.out).mono ?_);rintro e w' ⟨rfl,⟨nd,rfl⟩⟩;refine⟨_,rfl,?_⟩)|((with_reducible refine gate_callee (f:=77) rfl ?_);refine cLV (some 10) Try.func77 #[.int .i64 a1] (h:=?_);(with_reducible refine(cmp_isNaN_int.calls a1 false _ A4.out).mono ?_);rintro e w' ⟨rfl,⟨nd,rfl⟩⟩;refine⟨_,rfl,?_⟩))
     go_ret;exact⟨by first|rfl|(simp;done)|(simp[*];done),by repeat (first|exact Drawn0.refl _|apply Drawn0.step)⟩
    ·rw[if_neg c9]at H
     have ct:decide (a1<a0)=false:=decide_eq_false c9;clear c9;obtain rfl:=Option.some.inj H
     go_enter Try.func66,Try.ntmps66
     go_wp2_with (first|((with_reducible refine gate_callee (f:=77) rfl ?_);refine cLV (some 8) Try.func77 #[.int .i64 a0] (h:=?_);(with_reducible refine(cmp_isNaN_int.calls a0 false _ A3.out).mono ?_);rintro e w' ⟨rfl,⟨nd,rfl⟩⟩;refine⟨_,rfl,?_⟩)|((with_reducible refine gate_callee (f:=77) rfl ?_);refine cLV (some 10) Try.func77 #[.int .i64 a1] (h:=?_);(with_reducible refine(cmp_isNaN_int.calls a1 false _ A4.out).mono ?_);rintro e w' ⟨rfl,⟨nd,rfl⟩⟩;refine⟨_,rfl,?_⟩))
     go_ret;exact⟨by first|rfl|(simp;done)|(simp[*];done),by repeat (first|exact Drawn0.refl _|apply Drawn0.step)⟩
def newer_gone.f (a0_0:Int) (a0_1:Int) (a0_2:Int) (a0_3:Int):Option (Int):=if a0_2=60 then(some 1)else(some 0)
set_option maxHeartbeats 8000000 in
set_option maxRecDepth 100000 in
theorem newer_gone.calls (a0_0:Int) (a0_1:Int) (a0_2:Int) (a0_3:Int) (r:Int) (w:World) (h:newer_gone.f a0_0 a0_1 a0_2 a0_3=some r):
  Calls Try.prog 67 #[.agg #[.int .i64 a0_0,.int .i64 a0_1,.int .i64 a0_2,.int .i64 a0_3]] w λe w'=>e= .returned (.int .i64 r)/\Below w.heap.size w w':=by
 have hu73:=Try.underlying73;have HB:=Aside0.mk (Below.refl w.heap.size w);have H:(if a0_2=60 then(some 1)else(some 0))=some r:=h;clear h
 by_cases c2:a0_2=60
 ·rw[if_pos c2]at H
  have c3:=beq_iff_eq.mpr c2;have c5:=bne_eq_false_iff_eq.mpr c2;clear c2;obtain rfl:=Option.some.inj H
  go_enter Try.func67,Try.ntmps67
  go_wp2_with (first|((with_reducible refine gate_dst (N:=1) rfl ?_);refine bxV (N:=1) (cs:=#[.int .i64 a0_0,.int .i64 a0_1,.int .i64 a0_2,.int .i64 a0_3]) (t:=73) (h:=?_);intro g0 hg w3 hbox hb;have B0:=Aside0.mk (hbox);have G0:=Aside0.mk ((mH:w.heap.size<=g0));have G1:=Aside0.mk ((mH:w.heap.size<=g0));replace HB:=Aside0.mk (below_step mA hb);clear hb hbox hg;obtain⟨z0,z1,z2,z3⟩:=bc4 B0.out;have z4:=blk_frozen B0.out))
  go_ret;exact⟨by first|rfl|(simp[errW_none,errW_some] <;> rfl)|(simp[*,errW_none,errW_some] <;> rfl),by repeat (first|(with_reducible first|exact HB.out|apply below_alloc|apply pw_below_drewN|apply below_drew1|refine below_set ?_ G1.out)|exact HB.out)⟩
 ·rw[if_neg c2]at H
  have c3:=beq_eq_false_iff_ne.mpr c2;have c5:=bne_iff_ne.mpr c2;obtain rfl:=Option.some.inj H
  go_enter Try.func67,Try.ntmps67
  go_wp2_with (first|((with_reducible refine gate_dst (N:=1) rfl ?_);refine bxV (N:=1) (cs:=#[.int .i64 a0_0,.int .i64 a0_1,.int .i64 a0_2,.int .i64 a0_3]) (t:=73) (h:=?_);intro g0 hg w5 hbox hb;have B0:=Aside0.mk (hbox);have G0:=Aside0.mk ((mH:w.heap.size<=g0));have G1:=Aside0.mk ((mH:w.heap.size<=g0));replace HB:=Aside0.mk (below_step mA hb);clear hb hbox hg;obtain⟨z5,z6,z7,z8⟩:=bc4 B0.out;have z9:=blk_frozen B0.out))
  go_ret;exact⟨by first|rfl|(simp[errW_none,errW_some] <;> rfl)|(simp[*,errW_none,errW_some] <;> rfl),by repeat (first|(with_reducible first|exact HB.out|apply below_alloc|apply pw_below_drewN|apply below_drew1|refine below_set ?_ G1.out)|exact HB.out)⟩
def newer_Compare.j0:Nat->Bool->Int->Int->Int->Int->Int->Int->Int->Int->Option (Int × Int)
 |0,_,_,_,_,_,_,_,_,_=>none
 |k+1,x20,x177000,x177001,x177002,x177003,x178000,x178001,x178002,x178003=>if x20=true then(some (0,1700))else((cmp_Compare_int.f x177001 x178001).bind λt180=>((cmp_Compare_int.f x177003 x178003).bind λt181=>((newer_gone.f x177000 x177001 x177002 x177003).bind λt182=>((newer_gone.f x178000 x178001 x178002 x178003).bind λt183=>((cmp_Or_int.f k (([t180,t181,wrap64 (t182-t183)]:List Int))).bind λt187=>(some (t187,0)))))))
def newer_Compare.f (k:Nat) (a0_0:Int) (a0_1:Int) (a0_2:Int) (a0_3:Int) (a1_0:Int) (a1_1:Int) (a1_2:Int) (a1_3:Int):Option (Int × Int):=(ack_Head.f a0_0 a0_1 a0_2 a0_3).bind λt178=>(if t178=true then((ack_Head.f a1_0 a1_1 a1_2 a1_3).bind λt179=>(if t179=true then(newer_Compare.j0 k (a0_0 !=a1_0) a0_0 a0_1 a0_2 a0_3 a1_0 a1_1 a1_2 a1_3)else(newer_Compare.j0 k true a0_0 a0_1 a0_2 a0_3 a1_0 a1_1 a1_2 a1_3)))else(newer_Compare.j0 k true a0_0 a0_1 a0_2 a0_3 a1_0 a1_1 a1_2 a1_3))
theorem newer_Compare.mono_l:∀k,(∀y0 y1 y2 y3 y4 y5 y6 y7 y8,LeO (newer_Compare.j0 k y0 y1 y2 y3 y4 y5 y6 y7 y8) (newer_Compare.j0 (k+1) y0 y1 y2 y3 y4 y5 y6 y7 y8))
 |0=>λ_ _ _ _ _ _ _ _ _ r h=>by simp[newer_Compare.j0]at h
 |k+1=>by
  have ih0:=newer_Compare.mono_l k
  ·intro y0 y1 y2 y3 y4 y5 y6 y7 y8
   unfold newer_Compare.j0
   repeat' (with_reducible first|exact ih0 _ _ _ _ _ _ _ _ _|exact cmp_Or_int.mono _ _|exact LeO.refl _|exact LeO.none _|refine LeO.ite ?_ ?_ |refine LeO.bind ?_ (λ_=>?_))
theorem newer_Compare.mono:∀a0 a1 a2 a3 a4 a5 a6 a7 k,LeO (newer_Compare.f k a0 a1 a2 a3 a4 a5 a6 a7) (newer_Compare.f (k+1) a0 a1 a2 a3 a4 a5 a6 a7):=by
 intro a0 a1 a2 a3 a4 a5 a6 a7 k;have ih0:=newer_Compare.mono_l k;unfold newer_Compare.f
 repeat' (with_reducible first|exact ih0 _ _ _ _ _ _ _ _ _|exact cmp_Or_int.mono _ _|exact LeO.refl _|exact LeO.none _|refine LeO.ite ?_ ?_ |refine LeO.bind ?_ (λ_=>?_))
def newer_Compare.T3:Bool × List (List Nat × List Nat):=(true,[([],[]),([0],[0]),([],[]),([2],[2]),([1,3],[1,3]),([],[]),([5],[5]),([],[]),([7],[7]),([6,8,4],[6,8]),([],[]),([10,9],[10]),([],[]),([12,11],[12]),([11,13],[11,13]),([4,9,14],[4,9,14]),([15,13],[15]),([16,16,0,1,2,3,4,5,6,7,8,9,10,11,12,13,14,15,16],[16]),([17,0,1,2,3,4,5,6,7,8,9,10,11,12,13,14,15,16,17],[])])
def newer_Compare.B3:List Nat:=[0,1,0,4,15,0,32,0,128,511,0,2047,0,8191,16383,32767,65535,131071,262143]
theorem newer_Compare.tab3:rtab .any (opsOf Try.f54 3)=newer_Compare.T3:=by kernel_rfl
theorem newer_Compare.bits3:waitsOk newer_Compare.T3.2 newer_Compare.B3=true:=by kernel_rfl
set_option maxHeartbeats 8000000 in
set_option maxRecDepth 100000 in
theorem newer_Compare.calls (k:Nat) (a0_0:Int) (a0_1:Int) (a0_2:Int) (a0_3:Int) (a1_0:Int) (a1_1:Int) (a1_2:Int) (a1_3:Int) (r1:Int) (r2:Int) (w:World) (h:newer_Compare.f k a0_0 a0_1 a0_2 a0_3 a1_0 a1_1 a1_2 a1_3=some (r1,r2)):
  Calls Try.prog 54 #[.agg #[.int .i64 a0_0,.int .i64 a0_1,.int .i64 a0_2,.int .i64 a0_3],.agg #[.int .i64 a1_0,.int .i64 a1_1,.int .i64 a1_2,.int .i64 a1_3]] w λe w'=>e= .returned (.tuple #[.int .i64 r1,.int .i64 r2])/\Below w.heap.size w w':=by
 have hu73:=Try.underlying73;have HB:=Aside0.mk (Below.refl w.heap.size w);have H:((ack_Head.f a0_0 a0_1 a0_2 a0_3).bind λt0=>(if t0=true then((ack_Head.f a1_0 a1_1 a1_2 a1_3).bind λt1=>(if t1=true then(newer_Compare.j0 k (a0_0 !=a1_0) a0_0 a0_1 a0_2 a0_3 a1_0 a1_1 a1_2 a1_3)else(newer_Compare.j0 k true a0_0 a0_1 a0_2 a0_3 a1_0 a1_1 a1_2 a1_3)))else(newer_Compare.j0 k true a0_0 a0_1 a0_2 a0_3 a1_0 a1_1 a1_2 a1_3)))=some (r1,r2):=h;clear h;have K0:=Aside0.mk H;clear H
 go_enter Try.func54,Try.ntmps54
 go_upto_region 1 with(first|((with_reducible refine gate_dst (N:=2) rfl ?_);refine bxV (N:=2) (cs:=#[.int .i64 a0_0,.int .i64 a0_1,.int .i64 a0_2,.int .i64 a0_3]) (t:=73) (h:=?_);intro g0 hg w4 hbox hb;have B0:=Aside0.mk (hbox);have G0:=Aside0.mk ((mH:w.heap.size<=g0));have G1:=Aside0.mk ((mH:w.heap.size<=g0));replace HB:=Aside0.mk (below_step mA hb);clear hb hbox hg)|((with_reducible refine gate_dst (N:=3) rfl ?_);refine bxV (N:=3) (cs:=#[.int .i64 a1_0,.int .i64 a1_1,.int .i64 a1_2,.int .i64 a1_3]) (t:=73) (h:=?_);intro g1 hg w5 hbox hb;have B1:=Aside0.mk (hbox);have G2:=Aside0.mk ((mW:w.heap.size<=g1));have G3:=Aside0.mk ((mW:w.heap.size<=g1));replace HB:=Aside0.mk (below_step mB hb);have N0:=Aside0.mk ((mDE:g0≠g1));have N1:=Aside0.mk ((mDF:g1≠g0));replace B0:=Aside0.mk (blk_below mC hb);clear hb hbox hg))
 (try simp only[Act.put,List.setIfInBounds_toArray,List.set_cons_zero,List.set_cons_succ])
 go_cut [20] (λv20 wc=>∃(kq:Nat) (x0:Bool),v20= .bool x0/\Aside0 (newer_Compare.j0 kq x0 a0_0 a0_1 a0_2 a0_3 a1_0 a1_1 a1_2 a1_3=some (r1,r2))/\Aside0 (kq<=k)/\Aside0 (wc.heap[g0]? =some (.cells #[.int .i64 a0_0,.int .i64 a0_1,.int .i64 a0_2,.int .i64 a0_3] 73 (0,0)))/\Aside0 (wc.heap[g1]? =some (.cells #[.int .i64 a1_0,.int .i64 a1_1,.int .i64 a1_2,.int .i64 a1_3] 73 (0,0)))/\Aside0 (Below w.heap.size w wc))
 case first=>
  have H:=K0.out;clear K0;obtain⟨t0,A0,H⟩:=bsE H;(try dsimp only at H);have A6:=Aside0.mk A0;clear A0
  by_cases c7:t0=true
  ·subst c7
   rw[if_pos rfl]at H;obtain⟨t1,A2,H⟩:=bsE H;(try dsimp only at H);have A8:=Aside0.mk A2;clear A2
   by_cases c9:t1=true
   ·subst c9
    rw[if_pos rfl]at H;have H':=Aside0.mk H;clear H;have n0:=N0.out;have n1:=N1.out;obtain⟨z0,z1,z2,z3⟩:=bc4 B0.out;have z4:=blk_frozen B0.out
    go_wp2_with (first|((with_reducible refine gate_callee (f:=64) rfl ?_);refine cLV (some 7) Try.func64 #[.agg #[.int .i64 a0_0,.int .i64 a0_1,.int .i64 a0_2,.int .i64 a0_3]] (h:=?_);(with_reducible refine(ack_Head.calls a0_0 a0_1 a0_2 a0_3 true _ A6.out).mono ?_);rintro e w2 ⟨rfl,hb⟩;refine⟨_,rfl,?_⟩;replace B0:=Aside0.mk (blk_below mC hb);replace B1:=Aside0.mk (blk_below mE hb);replace HB:=Aside0.mk (below_step mD hb);(try clear hb);obtain⟨z5,z6,z7,z8⟩:=bc4 B1.out;have z9:=blk_frozen B1.out)|(go_at_call 64;(with_reducible refine(ack_Head.calls a1_0 a1_1 a1_2 a1_3 true _ A8.out).mono ?_);rintro e w3 ⟨rfl,hb⟩;replace B0:=Aside0.mk (blk_below mC hb);replace B1:=Aside0.mk (blk_below mE hb);replace HB:=Aside0.mk (below_step mD hb);(try clear hb);(try clear hb2);(try clear hk);(try clear hi);obtain⟨za,zb,zc,zd⟩:=bc4 B0.out;have ze:=blk_frozen B0.out;obtain⟨zf,zg,zh,zi⟩:=bc4 B1.out;have zj:=blk_frozen B1.out))
    go_meet
    case rel=>exact⟨_,((a0_0 !=a1_0)),mJ,H',⟨by first|omega|exact Nat.le_refl _⟩,⟨by(with_reducible repeat (first|refine blk_drewN ?_ _|refine blk_drew ?_ |refine blk_alloc ?_ _));exact B0.out⟩,⟨by(with_reducible repeat (first|refine blk_drewN ?_ _|refine blk_drew ?_ |refine blk_alloc ?_ _));exact B1.out⟩,⟨by repeat (first|(with_reducible first|exact HB.out|apply below_alloc|apply pw_below_drewN|apply below_drew1|refine below_set ?_ G1.out|refine below_set ?_ G3.out)|exact HB.out)⟩⟩
   ·replace c9:=Bool.eq_false_iff.mpr c9
    subst c9;rw[if_neg (show ¬(false=true)by decide)]at H;have H':=Aside0.mk H;clear H;have n2:=N0.out;have n3:=N1.out;obtain⟨zk,zl,zm,zn⟩:=bc4 B0.out;have zo:=blk_frozen B0.out
    go_wp2_with (first|((with_reducible refine gate_callee (f:=64) rfl ?_);refine cLV (some 7) Try.func64 #[.agg #[.int .i64 a0_0,.int .i64 a0_1,.int .i64 a0_2,.int .i64 a0_3]] (h:=?_);(with_reducible refine(ack_Head.calls a0_0 a0_1 a0_2 a0_3 true _ A6.out).mono ?_);rintro e w6 ⟨rfl,hb⟩;refine⟨_,rfl,?_⟩;replace B0:=Aside0.mk (blk_below mC hb);replace B1:=Aside0.mk (blk_below mE hb);replace HB:=Aside0.mk (below_step mD hb);(try clear hb);obtain⟨zp,zq,zr,zs⟩:=bc4 B1.out;have zt:=blk_frozen B1.out)|(go_at_call 64;(with_reducible refine(ack_Head.calls a1_0 a1_1 a1_2 a1_3 false _ A8.out).mono ?_);rintro e w7 ⟨rfl,hb⟩;replace B0:=Aside0.mk (blk_below mC hb);replace B1:=Aside0.mk (blk_below mE hb);replace HB:=Aside0.mk (below_step mD hb);(try clear hb);(try clear hb2);(try clear hk);(try clear hi)))
    go_meet
    case rel=>exact⟨_,(true),mJ,H',⟨by first|omega|exact Nat.le_refl _⟩,⟨by(with_reducible repeat (first|refine blk_drewN ?_ _|refine blk_drew ?_ |refine blk_alloc ?_ _));exact B0.out⟩,⟨by(with_reducible repeat (first|refine blk_drewN ?_ _|refine blk_drew ?_ |refine blk_alloc ?_ _));exact B1.out⟩,⟨by repeat (first|(with_reducible first|exact HB.out|apply below_alloc|apply pw_below_drewN|apply below_drew1|refine below_set ?_ G1.out|refine below_set ?_ G3.out)|exact HB.out)⟩⟩
  ·replace c7:=Bool.eq_false_iff.mpr c7
   subst c7;rw[if_neg (show ¬(false=true)by decide)]at H;have H':=Aside0.mk H;clear H;have n4:=N0.out;have n5:=N1.out;obtain⟨zu,zv,zw,zx⟩:=bc4 B0.out;have zy:=blk_frozen B0.out
   go_wp2_with (first|((with_reducible refine gate_callee (f:=64) rfl ?_);refine cLV (some 7) Try.func64 #[.agg #[.int .i64 a0_0,.int .i64 a0_1,.int .i64 a0_2,.int .i64 a0_3]] (h:=?_);(with_reducible refine(ack_Head.calls a0_0 a0_1 a0_2 a0_3 false _ A6.out).mono ?_);rintro e w8 ⟨rfl,hb⟩;refine⟨_,rfl,?_⟩;replace B0:=Aside0.mk (blk_below mC hb);replace B1:=Aside0.mk (blk_below mE hb);replace HB:=Aside0.mk (below_step mD hb);(try clear hb)))
   go_meet
   case rel=>exact⟨_,(true),mJ,H',⟨by first|omega|exact Nat.le_refl _⟩,⟨by(with_reducible repeat (first|refine blk_drewN ?_ _|refine blk_drew ?_ |refine blk_alloc ?_ _));exact B0.out⟩,⟨by(with_reducible repeat (first|refine blk_drewN ?_ _|refine blk_drew ?_ |refine blk_alloc ?_ _));exact B1.out⟩,⟨by repeat (first|(with_reducible first|exact HB.out|apply below_alloc|apply pw_below_drewN|apply below_drew1|refine below_set ?_ G1.out|refine below_set ?_ G3.out)|exact HB.out)⟩⟩
 case rest=>
  clear K0;(try clear c1);(try clear c2);(try clear p2);(try clear c5);(try clear c6);(try clear c7);(try clear c9);(try clear c10);(try clear c17);(try clear c22);(try clear z0);(try clear z1);(try clear z2);(try clear z3);(try clear z5);(try clear z6);(try clear z7);(try clear z8);(try clear za);(try clear zb);(try clear zc);(try clear zd);(try clear zf);(try clear zg);(try clear zh);(try clear zi);(try clear zk);(try clear zl);(try clear zm);(try clear zn);(try clear zp);(try clear zq);(try clear zr);(try clear zs);(try clear zu);(try clear zv);(try clear zw);(try clear zx);(try clear z4);(try clear hfz11_1);(try clear hfz11_2);(try clear hfz11_3);(try clear z9);(try clear hfz13_1);(try clear hfz13_2);(try clear hfz13_3);(try clear ze);(try clear hfz15_1);(try clear hfz15_2);(try clear hfz15_3);(try clear zj);(try clear hfz16_1);(try clear hfz16_2);(try clear hfz16_3);(try clear zo);(try clear hfz18_1);(try clear hfz18_2);(try clear hfz18_3);(try clear zt);(try clear hfz20_1);(try clear hfz20_2);(try clear hfz20_3);(try clear zy);(try clear hfz23_1);(try clear hfz23_2);(try clear hfz23_3);obtain⟨kq,x0,rfl,HA,HJ2,B0,B1,HB⟩:=hcut;cases kq with
  |zero=>exact absurd HA.out (by simp[newer_Compare.j0])
  |succ j1=>
   have H:=HA.out;clear HA;simp only[newer_Compare.j0]at H
   by_cases ch:x0=true
   ·subst ch
    rw[if_pos rfl]at H;simp only[Option.some.injEq,Prod.mk.injEq]at H;obtain⟨rfl,rfl⟩:=H;go_wp2
    go_ret2
    exact⟨by first|rfl|(simp[errW_none,errW_some] <;> rfl)|(simp[*,errW_none,errW_some] <;> rfl),by repeat (first|(with_reducible first|exact HB.out|apply below_alloc|apply pw_below_drewN|apply below_drew1|refine below_set ?_ G1.out|refine below_set ?_ G3.out)|exact HB.out)⟩
   ·replace ch:=Bool.eq_false_iff.mpr ch
    subst ch;rw[if_neg (show ¬(false=true)by decide)]at H;obtain⟨t2,Aa,H⟩:=bsE H;(try dsimp only at H);have Ab:=Aside0.mk Aa;clear Aa;obtain⟨t3,Ac,H⟩:=bsE H;(try dsimp only at H);have Ad:=Aside0.mk Ac;clear Ac;obtain⟨t4,Ae,H⟩:=bsE H;(try dsimp only at H);have Af:=Aside0.mk Ae;clear Ae;obtain⟨t5,Ag,H⟩:=bsE H;(try dsimp only at H);have Ah:=Aside0.mk Ag;clear Ag;obtain⟨y9,Y0⟩:∃y_:List Int,y_=(([t2,t3,wrap64 (t4-t5)]:List Int)):=⟨_,rfl⟩
    replace H:((cmp_Or_int.f j1 y9).bind λt6=>(some (t6,0)))=some (r1,r2):=by first|(rw[Y0];with_reducible exact H)|(have H2_:=(Option.bind_some _ _).symm.trans H;rw[Y0];with_reducible exact H2_)|(have H2_:=(Option.bind_some _ _).symm.trans H;with_reducible exact H2_)|with_reducible exact H|(rw[Y0];exact H)|exact H
    have Y1:=Aside0.mk Y0;clear Y0;obtain⟨t6,Ai,H⟩:=bsE H;(try dsimp only at H);have Aj:=Aside0.mk Ai;clear Ai;simp only[Option.some.injEq,Prod.mk.injEq]at H;obtain⟨rfl,rfl⟩:=H;(try go_wp2);replace B0:=Aside0.mk (blk_drew B0.out);replace B1:=Aside0.mk (blk_drew B1.out);replace HB:=Aside0.mk (below_drew1 HB.out);refine start_ (n:=19) (S:=λw'=>w'.cell? ⟨g0,0,none⟩=some (.int .i64 a0_0)/\w'.cell? ⟨g0,1,none⟩=some (.int .i64 a0_1)/\w'.cell? ⟨g0,2,none⟩=some (.int .i64 a0_2)/\w'.cell? ⟨g0,3,none⟩=some (.int .i64 a0_3)/\w'.cell? ⟨g1,0,none⟩=some (.int .i64 a1_0)/\w'.cell? ⟨g1,1,none⟩=some (.int .i64 a1_1)/\w'.cell? ⟨g1,2,none⟩=some (.int .i64 a1_2)/\w'.cell? ⟨g1,3,none⟩=some (.int .i64 a1_3)) (ds:=[]) mk_19_0 mAI rfl rfl ⟨(blk_cell B0.out 0).trans rfl,(blk_cell B0.out 1).trans rfl,(blk_cell B0.out 2).trans rfl,(blk_cell B0.out 3).trans rfl,(blk_cell B1.out 0).trans rfl,(blk_cell B1.out 1).trans rfl,(blk_cell B1.out 2).trans rfl,(blk_cell B1.out 3).trans rfl⟩ (λhHeld=>?_);refine with_tabW newer_Compare.tab3 newer_Compare.bits3 (λHT_ HW_=>?_);generalize wc.drew=w9 at B0 B1 HB hHeld |-;refine pV 0 21 mk_19_1 ?_;refine pV 2 23 #[true,false,true,false,false,false,false,false,false,false,false,false,false,false,false,false,false,false,false] ?_;refine pV 5 26 #[true,false,true,false,false,true,false,false,false,false,false,false,false,false,false,false,false,false,false] ?_;refine pV 7 28 #[true,false,true,false,false,true,false,true,false,false,false,false,false,false,false,false,false,false,false] ?_;refine tV 1 (some 22) #[true,true,true,false,false,true,false,true,false,false,false,false,false,false,false,false,false,false,false] (hy:=Or.inl ⟨by rfl,by rintro w' ⟨s0,s1,s2,s3,s4,s5,s6,s7⟩;go_simp;with_reducible rfl⟩) (h:=?_);refine tV 3 (some 24) #[true,true,true,true,false,true,false,true,false,false,false,false,false,false,false,false,false,false,false] (hy:=Or.inl ⟨by rfl,by rintro w' ⟨s0,s1,s2,s3,s4,s5,s6,s7⟩;go_simp;with_reducible rfl⟩) (h:=?_);refine tV 6 (some 27) #[true,true,true,true,false,true,true,true,false,false,false,false,false,false,false,false,false,false,false] (hy:=Or.inl ⟨by rfl,by rintro w' ⟨s0,s1,s2,s3,s4,s5,s6,s7⟩;go_simp;with_reducible rfl⟩) (h:=?_);refine tV 8 (some 29) #[true,true,true,true,false,true,true,true,true,false,false,false,false,false,false,false,false,false,false] (hy:=Or.inl ⟨by rfl,by rintro w' ⟨s0,s1,s2,s3,s4,s5,s6,s7⟩;go_simp;with_reducible rfl⟩) (h:=?_);refine tV 10 (some 31) #[true,true,true,true,false,true,true,true,true,false,true,false,false,false,false,false,false,false,false] (hy:=Or.inl ⟨by rfl,by rintro w' ⟨s0,s1,s2,s3,s4,s5,s6,s7⟩;go_simp;with_reducible rfl⟩) (h:=?_);refine tV 12 (some 33) #[true,true,true,true,false,true,true,true,true,false,true,false,true,false,false,false,false,false,false] (hy:=Or.inl ⟨by rfl,by rintro w' ⟨s0,s1,s2,s3,s4,s5,s6,s7⟩;go_simp;with_reducible rfl⟩) (h:=?_);refine oV 4 (some 25) #[true,true,true,true,true,true,true,true,true,false,true,false,true,false,false,false,false,false,false] (h:=λK hK=>?_);refine gV Try.func66 #[.int .i64 a0_1,.int .i64 a1_1] (h:=?_)
    with_reducible refine(cmp_Compare_int.calls a0_1 a1_1 t2 _ Ab.out).mono ?_
    rintro e w' ⟨rfl,⟨nd,rfl⟩⟩;refine⟨_,rfl,?_⟩;refine hK.out _ _ ⟨(blk_cell B0.out 0).trans rfl,(blk_cell B0.out 1).trans rfl,(blk_cell B0.out 2).trans rfl,(blk_cell B0.out 3).trans rfl,(blk_cell B1.out 0).trans rfl,(blk_cell B1.out 1).trans rfl,(blk_cell B1.out 2).trans rfl,(blk_cell B1.out 3).trans rfl⟩ (λhHeld=>?_);clear hK K;refine nV 25 (h:=?_);refine oV 9 (some 30) #[true,true,true,true,true,true,true,true,true,true,true,false,true,false,false,false,false,false,false] (h:=λK hK=>?_);refine gV Try.func66 #[.int .i64 a0_3,.int .i64 a1_3] (h:=?_)
    with_reducible refine(cmp_Compare_int.calls a0_3 a1_3 t3 _ Ad.out).mono ?_
    rintro e w' ⟨rfl,⟨nd,rfl⟩⟩;refine⟨_,rfl,?_⟩;refine hK.out _ _ ⟨(blk_cell B0.out 0).trans rfl,(blk_cell B0.out 1).trans rfl,(blk_cell B0.out 2).trans rfl,(blk_cell B0.out 3).trans rfl,(blk_cell B1.out 0).trans rfl,(blk_cell B1.out 1).trans rfl,(blk_cell B1.out 2).trans rfl,(blk_cell B1.out 3).trans rfl⟩ (λhHeld=>?_);clear hK K;refine nV 30 (h:=?_);refine oV 11 (some 32) mk_19_13 (h:=λK hK=>?_);refine gV Try.func67 #[.agg #[.int .i64 a0_0,.int .i64 a0_1,.int .i64 a0_2,.int .i64 a0_3]] (h:=?_)
    with_reducible refine(newer_gone.calls a0_0 a0_1 a0_2 a0_3 t4 _ Af.out).mono ?_
    rintro e wa ⟨rfl,hb⟩;refine⟨_,rfl,?_⟩;replace B0:=Aside0.mk (blk_below mC hb);replace B1:=Aside0.mk (blk_below mE hb);replace HB:=Aside0.mk (below_step mD hb);(try clear hb);(try clear hb2);(try clear hk);(try clear hi);refine hK.out _ _ ⟨(blk_cell B0.out 0).trans rfl,(blk_cell B0.out 1).trans rfl,(blk_cell B0.out 2).trans rfl,(blk_cell B0.out 3).trans rfl,(blk_cell B1.out 0).trans rfl,(blk_cell B1.out 1).trans rfl,(blk_cell B1.out 2).trans rfl,(blk_cell B1.out 3).trans rfl⟩ (λhHeld=>?_);clear hK K;refine nV 32 (h:=?_);refine oV 13 (some 34) mk_19_14 (h:=λK hK=>?_);refine gV Try.func67 #[.agg #[.int .i64 a1_0,.int .i64 a1_1,.int .i64 a1_2,.int .i64 a1_3]] (h:=?_)
    with_reducible refine(newer_gone.calls a1_0 a1_1 a1_2 a1_3 t5 _ Ah.out).mono ?_
    rintro e wb ⟨rfl,hb⟩;refine⟨_,rfl,?_⟩;replace B0:=Aside0.mk (blk_below mC hb);replace B1:=Aside0.mk (blk_below mE hb);replace HB:=Aside0.mk (below_step mD hb);(try clear hb);(try clear hb2);(try clear hk);(try clear hi);refine hK.out _ _ ⟨(blk_cell B0.out 0).trans rfl,(blk_cell B0.out 1).trans rfl,(blk_cell B0.out 2).trans rfl,(blk_cell B0.out 3).trans rfl,(blk_cell B1.out 0).trans rfl,(blk_cell B1.out 1).trans rfl,(blk_cell B1.out 2).trans rfl,(blk_cell B1.out 3).trans rfl⟩ (λhHeld=>?_);clear hK K;refine nV 34 (h:=?_);refine pV 14 35 mk_19_15 ?_;refine oV 15 (some 36) mk_19_16 (h:=λK hK=>?_);refine Kd.R_lit_step (Kd.int .i64) _ 3 ?hg (N:=36) ?hd (xs:=([t2,t3,wrap64 (t4-t5)]:List Int)) (inner:=[.int .i64 t2,.int .i64 t3,.int .i64 (wrap64 (t4-t5))]) (ok:=λ_=>True) (okp:=λ_=>True) ?hr ?hp (λ_ hk=>hk) trivial (Below.refl _ _) (Nat.le_refl _) mAY ?_;(case hd=>rfl);(case hg=>rfl);(case hr=>first|(go_simp;done)|(go_simp;rfl));(case hp=>exact(Reps.one (show Kd.M (Kd.int .i64) _ _ _ t2 [.int .i64 t2]from rfl) (Reps.one (show Kd.M (Kd.int .i64) _ _ _ t3 [.int .i64 t3]from rfl) (Reps.one (show Kd.M (Kd.int .i64) _ _ _ (wrap64 (t4-t5)) [.int .i64 (wrap64 (t4-t5))]from rfl) (Reps.none _ _)))));intro v185 wd ho35 hb hg_ hnew_;clear hg_ hnew_
    (first|rw[<-Y1.out]at ho35|(simp only[Int.reduceToNat]at ho35;rw[<-Y1.out]at ho35))
    have O0:=Aside0.mk (Kd.R_lower ho35 (below_size mD));replace B0:=Aside0.mk (blk_below mC hb);replace B1:=Aside0.mk (blk_below mE hb);replace HB:=Aside0.mk (below_step mD hb);clear hb ho35;obtain⟨s8,s9,sa⟩:=Kd.R_slice O0.out
    (first|subst sa|(injection sa with f1_ f2_ f3_;have f4_:=f1_.symm;have f5_:=f3_.symm;clear f1_ f2_ f3_;subst f4_;subst f5_))
    refine hK.out _ _ ⟨(blk_cell B0.out 0).trans rfl,(blk_cell B0.out 1).trans rfl,(blk_cell B0.out 2).trans rfl,(blk_cell B0.out 3).trans rfl,(blk_cell B1.out 0).trans rfl,(blk_cell B1.out 1).trans rfl,(blk_cell B1.out 2).trans rfl,(blk_cell B1.out 3).trans rfl⟩ (λhHeld=>?_);clear hK K;refine nV 36 (h:=?_);refine oV 16 (some 37) mk_19_17 (h:=λK hK=>?_);refine gV Try.func65 #[.slice s8 y9.length s9] (h:=?_)
    with_reducible refine(cmp_Or_int.calls j1 _ _ y9 t6 _ ?side1 ?side2 Aj.out).mono ?_
    (case side1=>repeat (first|exact(Kd.R_reads' O0.out).2.2 |(with_reducible refine Kd.C_alloc ?_ _)|(with_reducible refine Kd.C_drewN ?_ _)|(with_reducible refine Kd.C_drew ?_)))
    (case side2=>exact(Kd.R_reads' O0.out).2.1)
    rintro e w' ⟨rfl,⟨nd,rfl⟩⟩;refine⟨_,rfl,?_⟩;refine hK.out _ _ ⟨(blk_cell B0.out 0).trans rfl,(blk_cell B0.out 1).trans rfl,(blk_cell B0.out 2).trans rfl,(blk_cell B0.out 3).trans rfl,(blk_cell B1.out 0).trans rfl,(blk_cell B1.out 1).trans rfl,(blk_cell B1.out 2).trans rfl,(blk_cell B1.out 3).trans rfl⟩ (λhHeld=>?_);clear hK K;refine nV 37 (h:=?_);refine pV 17 4 mk_19_18 ?_;refine pV 18 5 mk_19_19 ?_;refine done_ (done_of HT_.out mAI) ?_;(try go_wp2)
    go_ret2
    exact⟨by first|rfl|(simp[errW_none,errW_some] <;> rfl)|(simp[*,errW_none,errW_some] <;> rfl),by repeat (first|(with_reducible first|exact HB.out|apply below_alloc|apply pw_below_drewN|apply below_drew1|refine below_set ?_ G1.out|refine below_set ?_ G3.out)|exact HB.out)⟩
def store_Newer.f (k:Nat) (a0_0:Int) (a0_1:Int) (a0_2:Int) (l0_3:List (S56)) (a1_0:Int) (a1_1:Int) (a1_2:Int) (l1_3:List (S56)):Option (Bool):=(lsa_Head.f k a0_0 a0_1 a0_2 l0_3).bind λbt190=>((lsa_Head.f k a1_0 a1_1 a1_2 l1_3).bind λbt196=>((newer_Compare.f k bt190.1 bt190.2.1 bt190.2.2.1 bt190.2.2.2.1 bt196.1 bt196.2.1 bt196.2.2.1 bt196.2.2.2.1).bind λbt202=>(some (decide (bt202.1>0)))))
theorem store_Newer.mono:∀a0 a1 a2 a3 a4 a5 a6 a7 k,LeO (store_Newer.f k a0 a1 a2 a3 a4 a5 a6 a7) (store_Newer.f (k+1) a0 a1 a2 a3 a4 a5 a6 a7):=by
 intro a0 a1 a2 a3 a4 a5 a6 a7 k;unfold store_Newer.f
 repeat' (with_reducible first|exact lsa_Head.mono _ _ _ _ _|exact newer_Compare.mono _ _ _ _ _ _ _ _ _|exact LeO.refl _|exact LeO.none _|refine LeO.ite ?_ ?_ |refine LeO.bind ?_ (λ_=>?_))
set_option maxHeartbeats 8000000 in
set_option maxRecDepth 100000 in
theorem store_Newer.calls (k:Nat) (a0_0:Int) (a0_1:Int) (a0_2:Int) (A0_3:Option Addr) (c0_3:Nat) (l0_3:List (S56)) (a1_0:Int) (a1_1:Int) (a1_2:Int) (A1_3:Option Addr) (c1_3:Nat) (l1_3:List (S56)) (r:Bool) (w:World) (hr0_3:Kd.C k56 w A0_3 l0_3.length l0_3) (hc0_3:l0_3.length<=c0_3) (hr1_3:Kd.C k56 w A1_3 l1_3.length l1_3) (hc1_3:l1_3.length<=c1_3) (h:store_Newer.f k a0_0 a0_1 a0_2 l0_3 a1_0 a1_1 a1_2 l1_3=some r):
  Calls Try.prog 30 #[.agg #[.int .i64 a0_0,.int .i64 a0_1,.int .i64 a0_2,.slice A0_3 l0_3.length c0_3],.agg #[.int .i64 a1_0,.int .i64 a1_1,.int .i64 a1_2,.slice A1_3 l1_3.length c1_3]] w λe w'=>e= .returned (.bool r)/\Below w.heap.size w w':=by
 have hu32:=Try.underlying32;have hu73:=Try.underlying73;have R0:=Aside0.mk hr0_3;have K0:=Aside0.mk hc0_3;clear hr0_3 hc0_3;have R1:=Aside0.mk hr1_3;have K1:=Aside0.mk hc1_3;clear hr1_3 hc1_3;have HB:=Aside0.mk (Below.refl w.heap.size w);have H:((lsa_Head.f k a0_0 a0_1 a0_2 l0_3).bind λbt190=>((lsa_Head.f k a1_0 a1_1 a1_2 l1_3).bind λbt196=>((newer_Compare.f k bt190.1 bt190.2.1 bt190.2.2.1 bt190.2.2.2.1 bt196.1 bt196.2.1 bt196.2.2.1 bt196.2.2.2.1).bind λbt202=>(some (decide (bt202.1>0))))))=some r:=h;clear h;obtain⟨⟨t0,t1,t2,t3,t4⟩,A0,H⟩:=bsE H;(try dsimp only at H);have A3:=Aside0.mk A0;clear A0;obtain⟨⟨t5,t6,t7,t8,t9⟩,A2,H⟩:=bsE H;(try dsimp only at H);have A4:=Aside0.mk A2;clear A2;obtain⟨⟨ta,tb⟩,A6,H⟩:=bsE H;(try dsimp only at H);have A5:=Aside0.mk A6;clear A6;obtain rfl:=Option.some.inj H
 go_enter Try.func30,Try.ntmps30
 go_wp2_with (first|((with_reducible refine gate_dst (N:=2) rfl ?_);refine bxV (N:=2) (cs:=#[.int .i64 a0_0,.int .i64 a0_1,.int .i64 a0_2,.slice A0_3 l0_3.length c0_3]) (t:=32) (h:=?_);intro g0 hg w6 hbox hb;have B0:=Aside0.mk (hbox);have G0:=Aside0.mk ((mH:w.heap.size<=g0));have G1:=Aside0.mk ((mH:w.heap.size<=g0));replace HB:=Aside0.mk (below_step mA hb);clear hb hbox hg)|((with_reducible refine gate_dst (N:=3) rfl ?_);refine bxV (N:=3) (cs:=#[.int .i64 a1_0,.int .i64 a1_1,.int .i64 a1_2,.slice A1_3 l1_3.length c1_3]) (t:=32) (h:=?_);intro g1 hg w7 hbox hb;have B1:=Aside0.mk (hbox);have G2:=Aside0.mk ((mW:w.heap.size<=g1));have G3:=Aside0.mk ((mW:w.heap.size<=g1));replace HB:=Aside0.mk (below_step mB hb);have N0:=Aside0.mk ((mX:g0≠g1));have N1:=Aside0.mk ((mY:g1≠g0));replace B0:=Aside0.mk (blk_below mC hb);clear hb hbox hg;have n0:=N0.out;have n1:=N1.out;obtain⟨z0,z1,z2,z3⟩:=bc4 B0.out;have z4:=blk_frozen B0.out)|((with_reducible refine gate_callee (f:=53) rfl ?_);refine cLV (some 13) Try.func53 #[.agg #[.int .i64 a0_0,.int .i64 a0_1,.int .i64 a0_2,.slice A0_3 l0_3.length c0_3]] (h:=?_);(with_reducible refine(lsa_Head.calls k a0_0 a0_1 a0_2 _ _ l0_3 t0 t1 t2 t3 t4 _ ?side1 ?side2 A3.out).mono ?_);(case side1=>repeat (first|exact(Kd.C_below R0.out HB.out)|(with_reducible refine Kd.C_alloc ?_ _)|(with_reducible refine Kd.C_drewN ?_ _)|(with_reducible refine Kd.C_drew ?_)));(case side2=>exact K0.out);rintro e w3 ⟨rfl,hb⟩;refine⟨_,rfl,?_⟩;replace B0:=Aside0.mk (blk_below mC hb);replace B1:=Aside0.mk (blk_below mE hb);replace HB:=Aside0.mk (below_step mD hb);(try clear hb))|((with_reducible refine gate_dst (N:=5) rfl ?_);refine bxV (N:=5) (cs:=#[.int .i64 0,.int .i64 0,.int .i64 0,.int .i64 0]) (t:=73) (h:=?_);intro g2 hg w4 hbox hb;have B2:=Aside0.mk (hbox);have G4:=Aside0.mk ((mCE:w.heap.size<=g2));have G5:=Aside0.mk ((mCE:w.heap.size<=g2));replace HB:=Aside0.mk (below_step mD hb);have N2:=Aside0.mk ((mCR:g0≠g2));have N3:=Aside0.mk ((mCV:g2≠g0));replace B0:=Aside0.mk (blk_below mC hb);have N4:=Aside0.mk ((mCP:g1≠g2));have N5:=Aside0.mk ((mCT:g2≠g1));replace B1:=Aside0.mk (blk_below mE hb);clear hb hbox hg;have n2:=N3.out;have n3:=N2.out;have n4:=N5.out;have n5:=N4.out;obtain⟨z5,z6,z7,z8⟩:=bc4 B2.out;have z9:=blk_frozen B2.out)|((with_reducible refine gate_store (t:=73) (p:=5) rfl ?_);refine stV (t:=73) (p:=5) (w1:=((((w4.setCell ⟨g2,0,none⟩ (.int .i64 t0)).setCell ⟨g2,1,none⟩ (.int .i64 t1)).setCell ⟨g2,2,none⟩ (.int .i64 t2)).setCell ⟨g2,3,none⟩ (.int .i64 t3))) (h:=?_);intro w8 hw;replace B0:Aside0 (w8.heap[g0]? =some (.cells #[.int .i64 a0_0,.int .i64 a0_1,.int .i64 a0_2,.slice A0_3 l0_3.length c0_3] 32 (0,0))):=⟨mV⟩;replace B1:Aside0 (w8.heap[g1]? =some (.cells #[.int .i64 a1_0,.int .i64 a1_1,.int .i64 a1_2,.slice A1_3 l1_3.length c1_3] 32 (0,0))):=⟨mU⟩;replace B2:Aside0 (w8.heap[g2]? =some (.cells #[.int .i64 t0,.int .i64 t1,.int .i64 t2,.int .i64 t3] 73 (0,0))):=⟨mAQ⟩;replace HB:Aside0 (Below w.heap.size w w8):=⟨(by rw[hw];exact mG)⟩;clear hw;obtain⟨za,zb,zc,zd⟩:=bc4 B1.out;have ze:=blk_frozen B1.out)|((with_reducible refine gate_callee (f:=53) rfl ?_);refine cLV (some 18) Try.func53 #[.agg #[.int .i64 a1_0,.int .i64 a1_1,.int .i64 a1_2,.slice A1_3 l1_3.length c1_3]] (h:=?_);(with_reducible refine(lsa_Head.calls k a1_0 a1_1 a1_2 _ _ l1_3 t5 t6 t7 t8 t9 _ ?side1 ?side2 A4.out).mono ?_);(case side1=>repeat (first|exact(Kd.C_below R1.out HB.out)|(with_reducible refine Kd.C_alloc ?_ _)|(with_reducible refine Kd.C_drewN ?_ _)|(with_reducible refine Kd.C_drew ?_)));(case side2=>exact K1.out);rintro e w9 ⟨rfl,hb⟩;refine⟨_,rfl,?_⟩;replace B0:=Aside0.mk (blk_below mC hb);replace B1:=Aside0.mk (blk_below mE hb);replace B2:=Aside0.mk (blk_below mK hb);replace HB:=Aside0.mk (below_step mG hb);(try clear hb))|((with_reducible refine gate_dst (N:=7) rfl ?_);refine bxV (N:=7) (cs:=#[.int .i64 0,.int .i64 0,.int .i64 0,.int .i64 0]) (t:=73) (h:=?_);intro g3 hg wa hbox hb;have B3:=Aside0.mk (hbox);have G6:=Aside0.mk ((mDB:w.heap.size<=g3));have G7:=Aside0.mk ((mDB:w.heap.size<=g3));replace HB:=Aside0.mk (below_step mG hb);have N6:=Aside0.mk ((mCQ:g0≠g3));have N7:=Aside0.mk ((mCU:g3≠g0));replace B0:=Aside0.mk (blk_below mC hb);have N8:=Aside0.mk ((mCO:g1≠g3));have N9:=Aside0.mk ((mCS:g3≠g1));replace B1:=Aside0.mk (blk_below mE hb);have Na:=Aside0.mk ((mDG:g2≠g3));have Nb:=Aside0.mk ((mDH:g3≠g2));replace B2:=Aside0.mk (blk_below mK hb);clear hb hbox hg;have n6:=N7.out;have n7:=N6.out;have n8:=N9.out;have n9:=N8.out;have na:=Nb.out;have nb:=Na.out;obtain⟨zf,zg,zh,zi⟩:=bc4 B3.out;have zj:=blk_frozen B3.out)|((with_reducible refine gate_store (t:=73) (p:=7) rfl ?_);refine stV (t:=73) (p:=7) (w1:=((((wa.setCell ⟨g3,0,none⟩ (.int .i64 t5)).setCell ⟨g3,1,none⟩ (.int .i64 t6)).setCell ⟨g3,2,none⟩ (.int .i64 t7)).setCell ⟨g3,3,none⟩ (.int .i64 t8))) (h:=?_);intro wc hw;replace B0:Aside0 (wc.heap[g0]? =some (.cells #[.int .i64 a0_0,.int .i64 a0_1,.int .i64 a0_2,.slice A0_3 l0_3.length c0_3] 32 (0,0))):=⟨mAH⟩;replace B1:Aside0 (wc.heap[g1]? =some (.cells #[.int .i64 a1_0,.int .i64 a1_1,.int .i64 a1_2,.slice A1_3 l1_3.length c1_3] 32 (0,0))):=⟨mAG⟩;replace B2:Aside0 (wc.heap[g2]? =some (.cells #[.int .i64 t0,.int .i64 t1,.int .i64 t2,.int .i64 t3] 73 (0,0))):=⟨mAF⟩;replace B3:Aside0 (wc.heap[g3]? =some (.cells #[.int .i64 t5,.int .i64 t6,.int .i64 t7,.int .i64 t8] 73 (0,0))):=⟨mAP⟩;replace HB:Aside0 (Below w.heap.size w wc):=⟨(by rw[hw];exact mI)⟩;clear hw;obtain⟨zk,zl,zm,zn⟩:=bc4 B2.out;have zo:=blk_frozen B2.out;obtain⟨zp,zq,zr,zs⟩:=bc4 B3.out;have zt:=blk_frozen B3.out)|((with_reducible refine gate_callee (f:=54) rfl ?_);refine cLV (some 24) Try.func54 #[.agg #[.int .i64 t0,.int .i64 t1,.int .i64 t2,.int .i64 t3],.agg #[.int .i64 t5,.int .i64 t6,.int .i64 t7,.int .i64 t8]] (h:=?_);(with_reducible refine(newer_Compare.calls k t0 t1 t2 t3 t5 t6 t7 t8 ta tb _ A5.out).mono ?_);rintro e wd ⟨rfl,hb⟩;refine⟨_,rfl,?_⟩;replace B0:=Aside0.mk (blk_below mC hb);replace B1:=Aside0.mk (blk_below mE hb);replace B2:=Aside0.mk (blk_below mK hb);replace B3:=Aside0.mk (blk_below mAK hb);replace HB:=Aside0.mk (below_step mI hb);(try clear hb)))
 go_ret;exact⟨by first|rfl|(simp[errW_none,errW_some] <;> rfl)|(simp[*,errW_none,errW_some] <;> rfl),by repeat (first|(with_reducible first|exact HB.out|apply below_alloc|apply pw_below_drewN|apply below_drew1|refine below_set ?_ G1.out|refine below_set ?_ G3.out|refine below_set ?_ G5.out|refine below_set ?_ G7.out)|exact HB.out)⟩
end Go.Proofs.Ytbpoflicphgokaa.Q18
namespace Go.Proofs.Ytbpoflicphgokaa.Q18
open Go.RowKit Go.Lib Go.Proofs.YtbpoflicphgokaaW.PrintWords Go.Proofs.YtbpoflicphgokaaW.PrintLast Go.Proofs.YtbpoflicphgokaaW.PrintMore
set_option linter.unusedVariables false
set_option linter.unusedSimpArgs false
theorem step_append_runI {P:Program} {ops:Array Oper} {o:Oper} {a:Act} {w:World} {K:Act->World->Prop} {Q:Exit->Act->World->Prop} {E:Prop}
    (hg:o.guard=none) (d x:Operand) (dT sT:TypeId) (hop:o.op=Op.call {callee:=Callee.builtin Builtin.append,args:=#[d,x],argTypes:=#[dT,sT]})
    (v u:Value) (hd:a.eval d=v) (hx:a.eval x=u) {v':Value} {w':World} (hr:(Builtin.append_ #[dT,sT] o.type #[v,u]).run P w= .ok v' w') (hK:K (a.put o.dst v') w'):
    if Region.wanted o (yielded ops a.tmps)=true then Oper.wp P o a w K Q else E:=by
  have hw:Region.wanted o (yielded ops a.tmps)=true:=by simp[Region.wanted,hg]
  rw[if_pos hw]
  unfold Oper.wp
  simp[execOp,hop,resolve,invoke,builtin,hd,hx,hr,Result.andThen]
  exact hK
def api_Lsa_31.f (l0:List (S32)) (a1:Int) (a2:Int):Option ((List (S32))):=if 0<=a1/\a1<(l0.length:Int)/\a2=a1+1 then some (l0.take a1.toNat++l0.drop (a1.toNat+1))else none
set_option maxHeartbeats 8000000 in
set_option maxRecDepth 100000 in
theorem api_Lsa_31.own (b_:Nat) (ok:Nat->Prop) (A0:Option Addr) (c0:Nat) (l0:List (S32)) (a1:Int) (a2:Int) (r:List (S32)) (w0 w:World) (hB:Below w0.heap.size w0 w) (ho:Kd.N (o32 b_) 32 w w0.heap.size ok (.slice A0 l0.length c0) l0) (h:api_Lsa_31.f l0 a1 a2=some r):
  Calls Try.prog 31 #[.slice A0 l0.length c0,.int .i64 a1,.int .i64 a2] w λe w'=>∃v0_:Value,e= .returned (v0_)/\Kd.N (o32 b_) 32 w' w0.heap.size ok v0_ r/\Below w0.heap.size w0 w':=by
  unfold api_Lsa_31.f at h
  by_cases hc:0<=a1/\a1<(l0.length:Int)/\a2=a1+1
  · rw[if_pos hc]at h
    obtain rfl:=Option.some.inj h
    clear h
    obtain⟨h0,h1,rfl⟩:=hc
    obtain⟨i,rfl⟩:=Int.eq_ofNat_of_zero_le h0
    rw[Int.toNat_natCast]
    have hi:i<l0.length:=by omega
    obtain⟨g,cap,ev,hbg,hgl,cells_,hgc_⟩:=Kd.N_form ho (by omega)
    injection ev with e1 e2 e3
    subst e1;subst e3
    obtain⟨inner,hown,hone,-⟩:=Kd.N_open ho (Nat.succ_pos 3)
    rcases hown.2 with⟨he,he0⟩|⟨g',cap',cur,he,hbg',hg,hnc,hcm,hcs,htake⟩
    · injection he with h1 h2 h3;omega
    · injection he with e1 e2 e3
      injection e1 with e1
      injection e1 with e1 _ _
      subst e1;subst e3
      obtain⟨n,hn⟩:∃n,n=l0.length:=⟨_,rfl⟩
      rw[<-hn]at ho hi hown hnc htake h1 |-
      have hcl:cur.toList.length=c0*4:=by have:cur.size=c0*4:=hcs;simpa using this
      replace htake:cur.toList.take (n*4)=inner:=htake
      obtain⟨i0,hi0,hz0,hzs,hzb⟩:∃i0,Try.prog.info? 32=some i0/\i0.zero=some (.agg #[.int .i64 0,.int .i64 0,.int .i64 0,.slice none 0 0])/\i0.size=4/\i0.bytes=48:=by
        have h:=info32
        cases hq:Try.prog.info? 32 with
        |none=>rw[hq]at h;cases h
        |some i0=>rw[hq]at h;simp only[Option.map_some,Option.some.injEq,Prod.mk.injEq]at h;exact⟨i0,rfl,h.1,h.2.1,h.2.2⟩
      obtain⟨news,hnews⟩:∃l,l=(cur.toList.drop ((i+1)*4)).take ((n-(i+1))*4):=⟨_,rfl⟩
      have hnl:news.length=(n-(i+1))*4:=by rw[hnews,List.length_take,List.length_drop,hcl];omega
      have hn1:∀u∈news,u.oneCell'=true:=by
        intro u hu
        have hs:news=inner.drop ((i+1)*4):=by
          rw[hnews,<-htake,List.drop_take];congr 1;omega
        rw[hs]at hu
        exact hone u (List.mem_of_mem_drop hu)
      obtain⟨B,hBd⟩:∃B:Addr,B=if c0=i+1 then⟨g,0,none⟩else⟨g,(i+1)*4,none⟩:=⟨_,rfl⟩
      have hnc':∀j u,news[j]? =some u->w.drew.cell? (B.add j)=some u:=by
        intro j u hj
        have hjl:j<news.length:=(List.getElem?_eq_some_iff.1 hj).1
        rw[hBd,if_neg (show ¬c0=i+1 by omega),Addr.add_lit,cell_of_row w.drew g ((i+1)*4+j) cur 32 (0,0) hg]
        rw[hnews,List.getElem?_take]at hj
        split at hj
        · rw[List.getElem?_drop]at hj;simpa using hj
        · cases hj
      obtain⟨w1,hw1⟩:∃w1,w1=w.drew.setRow g (cur.toList.take (i*4)++news++cur.toList.drop (i*4+news.length)).toArray :=⟨_,rfl⟩
      have hrz:∀cc,(Builtin.append_ #[24,24] 24 #[.slice (some ⟨g,0,none⟩) i c0,.slice (some B) (n-(i+1)) cc]).run Try.prog w.drew= .ok (.slice (some ⟨g,0,none⟩) (i+(n-(i+1))) c0) w1:=λcc=>by
        have:=run_append_room (P:=Try.prog) w.drew 24 24 32 i0 Try.underlying24 hi0 g i c0 cur hg B (n-(i+1)) cc news (by rw[hzs];exact hnl) hnc' hn1 (by omega) (by rw[hzs,hnl];have:cur.size=c0*4:=hcs;omega)
        rw[hw1]
        rw[hzs]at this
        exact this
      obtain⟨w2,hrunc,hg2,hN2⟩:=Kd.N_deleted (P:=Try.prog) (w1:=w1) (d:=o32 b_) (t:=24) (i:=i) (.agg #[.int .i64 0,.int .i64 0,.int .i64 0,.slice none 0 0]) Try.underlying24 (λ_=>by kernel_rfl) rfl (Nat.succ_pos 3) (by decide) (Kd.N_drew ho) hg hi (by
        rw[hw1,hnl]
        have e1:i*4+(n-(i+1))*4=(n-1)*4:=by omega
        rw[e1,hnews];rfl)
      have hrunc':∀ty,(Builtin.clear_ #[24] ty #[.slice (some ⟨g,(n-1)*4,none⟩) 1 (c0-(n-1))]).run Try.prog w1= .ok (.tuple #[]) w2:=hrunc
      have HR:=Aside0.mk hrz
      have HC:=Aside0.mk hrunc'
      have HN:=Aside0.mk hN2
      have HG:=Aside0.mk (show w.grownBy w2 (some g)from⟨hg2.os,hg2.tape,hg2.output,hg2.size,hg2.block⟩)
      have HB:=Aside0.mk hB
      have HBG:=Aside0.mk hbg
      have hb1:(0:Int)<=(i:Int)+1:=by omega
      have hb2:((i:Int)+1).toNat =i+1:=by omega
      have hb3:¬((i:Int)=(i:Int)+1):=by omega
      have hb4:i+1<=n:=hi
      have hb5:n<=c0:=hnc
      have hb6:i<=n:=by omega
      have hb7:i<=c0:=by omega
      have hb8:i+1<=c0:=by omega
      have hb9:i+(n-(i+1))=n-1:=by omega
      have hb10:¬(c0=n-1):=by omega
      have hb11:n-1<=n:=by omega
      have hb12:n-1<=c0:=by omega
      have hb13:¬(c0=i):=by omega
      have hb14:n-(n-1)=1:=by omega
      have hb15:(i:Int)<=(i:Int)+1:=by omega
      have hb16:(i:Int)+1<=(c0:Int):=by omega
      have hb17:(i:Int)+1<=(n:Int):=by omega
      have hb18:(i:Int)<=(c0:Int):=by omega
      have hb19:(n:Int)<=(c0:Int):=by omega
      have hb20:¬(c0<i+1):=by omega
      subst hn
      clear hrz hrunc hrunc' hN2 hg2 hB hbg hnc' hn1 hnl hnews hw1 hone hown htake hcl hcs hg ho hgc_
      by_cases hcap:c0=i+1
      · rw[if_pos hcap]at hBd
        subst hBd
        subst hcap
        have hl:l0.length=i+1:=by omega
        have HR':=HR.out 0
        have HC':=HC.out
        have HN':=HN.out
        rw[show l0.length-(i+1)=0 by omega]at HR'
        rw[show l0.length-1=i by omega]at HC' HN'
        rw[show i+1-i=1 by omega]at HC'
        rw[Nat.add_zero]at HR'
        have HR2:=Aside0.mk HR'
        have HC2:=Aside0.mk HC'
        have HN2:=Aside0.mk HN'
        rw[hl]
        clear HR HC HN HR' HC' HN' hb4 hb5 hb6 hb9 hb10 hb11 hb12 hb14 hb17 hb19 hi h1 hnc
        clear hl
        have hb21:((i+1:Nat):Int)=(i:Int)+1:=by omega
        have hb22:i<=i+1:=by omega
        have hb23:i+1-i=1:=by omega
        have hb24:i+1-(i+1)=0:=by omega
        go_enter Try.func31,Try.ntmps31
        go_wp2
        go_region_law (refine step_append_runI rfl (.tmp 22) (.tmp 25) 24 24 rfl (.slice (some ⟨g,0,none⟩) i (i+1)) (.slice (some ⟨g,0,none⟩) 0 0) (by simp[Act.eval,Act.put]) (by simp[Act.eval,Act.put]) HR2.out ?_)
        go_wp2_with ((with_reducible refine gate_builtin (b:= .clear) (xs:=#[.tmp 31]) rfl ?_);refine clear_event rfl (.tmp 31) 24 rfl rfl _ rfl (HC2.out _) ?_;intro w9_ hw9_;subst hw9_)
        go_ret
        exact⟨_,rfl,HN2.out,pw_below_grown HB.out _ HB.out.size HG.out (λk hk=>by injection hk with hk;subst hk;exact HBG.out)⟩
      · rw[if_neg hcap]at hBd
        subst hBd
        go_enter Try.func31,Try.ntmps31
        go_wp2
        go_region_law (refine step_append_runI rfl (.tmp 22) (.tmp 25) 24 24 rfl (.slice (some ⟨g,0,none⟩) i c0) (.slice (some ⟨g,(i+1)*4,none⟩) (l0.length-(i+1)) (c0-(i+1))) (by simp[Act.eval,Act.put]) (by simp[Act.eval,Act.put]) (HR.out _) ?_)
        go_wp2_with ((with_reducible refine gate_builtin (b:= .clear) (xs:=#[.tmp 31]) rfl ?_);refine clear_event rfl (.tmp 31) 24 rfl rfl _ rfl (HC.out _) ?_;intro w9_ hw9_;subst hw9_)
        go_ret
        exact⟨_,rfl,HN.out,pw_below_grown HB.out _ HB.out.size HG.out (λk hk=>by injection hk with hk;subst hk;exact HBG.out)⟩
  · rw[if_neg hc]at h
    cases h
end Go.Proofs.Ytbpoflicphgokaa.Q18
namespace Go.Proofs.Ytbpoflicphgokaa.Ins32
open Go.RowKit Go.Lib Go.Proofs.YtbpoflicphgokaaW.PrintWords Go.Proofs.YtbpoflicphgokaaW.PrintLast Go.Proofs.YtbpoflicphgokaaW.PrintMore Go.Proofs.Ytbpoflicphgokaa.Q18
set_option linter.unusedVariables false
set_option linter.unusedSimpArgs false
theorem run_copy_rowK {P:Program} (w:World) (dT sT ty elem:TypeId) (g o dLen dCap:Nat) (a:Addr) (sLen sCap:Nat) (cur:Array Value) (t:TypeId) (cs:List Value) (k m:Nat)
    (hu:P.underlying dT=some (.slice elem)) (hs:(P.info? elem).map (·.size)=some k)
    (hg:w.heap[g]? =some (.cells cur t (0,0))) (hm:m=Nat.min sLen dLen) (hn:cs.length=m*k)
    (hsrc:∀j v,cs[j]? =some v->w.cell? (a.add j)=some v) (hfit:o+cs.length<=cur.size) (h1:∀v∈cs,v.oneCell'=true):
    (Builtin.copy_ #[dT,sT] ty #[.slice (some ⟨g,o,none⟩) dLen dCap,.slice (some a) sLen sCap]).run P w=
      .ok (goInt m) (w.setRow g (cur.toList.take o++cs++cur.toList.drop (o+cs.length)).toArray):=by
  have hl:=run_loadCells_list (P:=P) w a cs hsrc
  have hst:=run_storeCells_at P g o t cs 0 cur w hg (by simpa using hfit) h1
  cases hq:P.info? elem with
  |none=>simp[hq]at hs
  | some i=>
    have hi:i.size=k:=by simpa[hq]using hs
    subst hm
    simp only[Nat.add_zero]at hst
    simp[Builtin.copy_,run_underlying hu,Builtin.lenOf,Builtin.firstCells,sizeOf,typeInfo,hq,hi,<-hn,hl,hst]
theorem wpList_copy_runI {P:Program} (w:World) {ops:Array Oper} {rest:List Oper} {o:Oper} {a:Act} {Q:Exit->Act->World->Prop} (hgd:o.guard=none) (d s:Operand) (t t':TypeId)
    (ho:o.op= .call {callee:= .builtin .copy,args:=#[d,s],argTypes:=#[t,t']}) (v u:Value) (hd:a.eval d=v) (hs:a.eval s=u) {v':Value} {w':World}
    (hr:(Builtin.copy_ #[t,t'] o.type #[v,u]).run P w= .ok v' w') (h:wpList P ops Q rest (a.put o.dst v') w'):wpList P ops Q (o::rest) a w:=
  wpList_plain hgd λK hK=>by
    unfold Oper.wp execOp
    simp only[ho,resolve,invoke,builtin,Sem.run_bind,Sem.run_pure,Result.andThen_ok,List.map_toArray,List.map_cons,List.map_nil,hd,hs,hr]
    exact hK _ _ h
theorem step_copy_runI {P:Program} {ops:Array Oper} {o:Oper} {a:Act} {w:World} {K:Act->World->Prop} {Q:Exit->Act->World->Prop} {E:Prop}
    (hg:o.guard=none) (d x:Operand) (dT sT:TypeId) (hop:o.op=Op.call {callee:=Callee.builtin Builtin.copy,args:=#[d,x],argTypes:=#[dT,sT]})
    (v u:Value) (hd:a.eval d=v) (hx:a.eval x=u) {v':Value} {w':World} (hr:(Builtin.copy_ #[dT,sT] o.type #[v,u]).run P w= .ok v' w') (hK:K (a.put o.dst v') w'):
    if Region.wanted o (yielded ops a.tmps)=true then Oper.wp P o a w K Q else E:=by
  have hw:Region.wanted o (yielded ops a.tmps)=true:=by simp[Region.wanted,hg]
  rw[if_pos hw]
  unfold Oper.wp
  simp[execOp,hop,resolve,invoke,builtin,hd,hx,hr,Result.andThen]
  exact hK
set_option maxHeartbeats 8000000 in
set_option maxRecDepth 100000 in
theorem insert_own (v:Value) (n i vb B:Nat) (xs vs:List Value) (w:World) (hown:w.ownsRow B 32 4 v n xs) (hB:B<=w.heap.size) (hi:i<=n) (hby:(n+1)*48<=140737488355328)
    (hvs:w.heap[vb]? =some (.cells vs.toArray 32 (0,0))) (hvl:vs.length=4) (hvb:some vb≠v.ownBlock) (h1:∀u∈vs,u.oneCell'=true) (h1x:∀u∈xs,u.oneCell'=true):
    Calls Try.prog 55 #[v,.int .i64 i,.slice (some ⟨vb,0,none⟩) 1 1] w λe w'=>∃v',e= .returned v'/\w'.ownsRow B 32 4 v' (n+1) (xs.take (i*4)++vs++xs.drop (i*4))/\w.grownBy w' v.ownBlock/\(v'.ownBlock=v.ownBlock\/v'.ownBlock=some w.heap.size):=by
  have hvc:∀j u,vs[j]? =some u->w.cell? ((⟨vb,0,none⟩:Addr).add j)=some u:=by
    intro j u hj
    rw[Addr.add_lit,cell_of_row w vb (0+j) vs.toArray 32 (0,0) hvs]
    simpa using hj
  obtain⟨i0,hi0,hz0,hzs,hzb⟩:∃i0,Try.prog.info? 32=some i0/\i0.zero=some (.agg #[.int .i64 0,.int .i64 0,.int .i64 0,.slice none 0 0])/\i0.size=4/\i0.bytes=48:=by
    have h:=info32
    cases hq:Try.prog.info? 32 with
    |none=>rw[hq]at h;cases h
    |some i0=>rw[hq]at h;simp only[Option.map_some,Option.some.injEq,Prod.mk.injEq]at h;exact⟨i0,rfl,h.1,h.2.1,h.2.2⟩
  have t22:=Try.underlying24
  by_cases hin:i=n
  · subst hin
    have htk:xs.take (i*4)++vs++xs.drop (i*4)=xs++vs:=by
      rw[List.take_of_length_le (by rw[hown.1];exact Nat.le_refl _),List.drop_eq_nil_of_le (by rw[hown.1];exact Nat.le_refl _),List.append_nil]
    rw[htk]
    obtain⟨HVC⟩:Aside0 (∀j u,vs[j]? =some u->w.cell? ((⟨vb,0,none⟩:Addr).add j)=some u):=⟨hvc⟩
    have HO:=Aside0.mk hown
    have H1:=Aside0.mk h1
    have HV:=Aside0.mk hvc
    clear hown hvc h1x h1 htk hvs hvb HVC
    have hform:(v= .slice none 0 0/\i=0)\/∃g cap,v= .slice (some ⟨g,0,none⟩) i cap/\i<=cap/\cap<=maxLen:=by
      rcases HO.out.2 with h|⟨g,cap,cur,rfl,_,_,hc,hm,_⟩
      · exact .inl h
      · exact .inr ⟨g,cap,rfl,hc,hm⟩
    rcases hform with⟨rfl,rfl⟩|⟨g,cap,rfl,hc,hm⟩
    · go_enter Try.func55,Try.ntmps55
      go_wp2_with (at_builtin;refine wpList_append_own_at _ rfl _ _ 24 rfl B 32 i0 (.agg #[.int .i64 0,.int .i64 0,.int .i64 0,.slice none 0 0]) 4 48 t22 hi0 hz0 hzs hzb rfl (by decide) _ _ xs rfl HO.out ⟨vb,0,none⟩ 1 1 vs rfl (by rw[hvl]) HV.out H1.out (by simp only[maxLen];omega) (by omega) hB ?_;intro v' w1 hown' hgrow hnil hat)
      go_ret
      exact⟨v',rfl,hown',hgrow,hat⟩
    · go_enter Try.func55,Try.ntmps55
      simp only[maxLen]at hm
      go_wp2_with (at_builtin;refine wpList_append_own_at _ rfl _ _ 24 rfl B 32 i0 (.agg #[.int .i64 0,.int .i64 0,.int .i64 0,.slice none 0 0]) 4 48 t22 hi0 hz0 hzs hzb rfl (by decide) _ _ xs rfl HO.out ⟨vb,0,none⟩ 1 1 vs rfl (by rw[hvl]) HV.out H1.out (by simp only[maxLen];omega) (by omega) hB ?_;intro v' w1 hown' hgrow hnil hat)
      all_goals (go_ret;exact⟨v',rfl,hown',hgrow,hat⟩)
  · have hlt:i<n:=by omega
    rcases hown.2 with⟨rfl,rfl⟩|⟨g,cap,cur,rfl,hbg,hg,hnc,hcm,hcs,htake⟩
    · omega
    have hvg:vb≠g:=by rintro rfl;exact hvb rfl
    have hgb:g<w.heap.size:=(Array.getElem?_eq_some_iff.1 hg).1
    have hcur:cur.toList.length=cap*4:=by simpa using hcs
    have hxl:xs.length=n*4:=hown.1
    have hdl:(xs.drop (i*4)).length =(n-i)*4:=by rw[List.length_drop,hxl];omega
    have hsz:(Try.prog.info? 32).map (·.size)=some 4:=by rw[hi0];simp[hzs]
    simp only[maxLen]at hcm
    have hxc:∀j u,(xs.drop (i*4))[j]? =some u->w.cell? ((⟨g,i*4,none⟩:Addr).add j)=some u:=by
      intro j u hj
      rw[Addr.add_lit,cell_of_row w g (i*4+j) cur 32 (0,0) hg]
      rw[List.getElem?_drop,<-htake,List.getElem?_take]at hj
      split at hj
      · simpa using hj
      · cases hj
    have h1d:∀u∈xs.drop (i*4),u.oneCell'=true:=λu hu=>h1x u (List.mem_of_mem_drop hu)
    by_cases hroom:n+1<=cap
    · have hsa:w.shape? vb=some (32,vs.length):=by simp[World.shape?,hvs]
      have hsb:w.shape? g=some (32,cur.size):=by simp[World.shape?,hg]
      have hov:∀lb cb,(callFunc 68 #[.slice (some ⟨vb,0,none⟩) 1 1,.slice (some ⟨g,(i+1)*4,none⟩) lb cb]).run Try.prog w= .ok (.value (.bool false)) w:=λlb cb=>by
        rw[run_callFunc_extern Try.func68 (by kernel_rfl) (by kernel_rfl) (by kernel_rfl) (e:=Extern.SlicesOverlaps.overlaps #[24,24] #[4]) (by kernel_rfl),
          Lib.run_overlaps_apart w 24 4 32 t22 4 Try.sizeOf32 ⟨vb,0,none⟩ ⟨g,(i+1)*4,none⟩ 1 1 lb cb hvg 32 32 vs.length cur.size hsa hsb (by omega) (by simp[World.frozen?,hvs]) (by simp[World.frozen?,hvs])]
        rfl
      obtain⟨X1,hX1⟩:∃X1:Array Value,X1=(cur.toList.take ((i+1)*4)++xs.drop (i*4)++cur.toList.drop ((i+1)*4+(xs.drop (i*4)).length)).toArray :=⟨_,rfl⟩
      obtain⟨W1,hW1⟩:∃W1,W1=w.drew.setRow g X1:=⟨_,rfl⟩
      have hcp1:∀ty dc sc,(Builtin.copy_ #[24,24] ty #[.slice (some ⟨g,(i+1)*4,none⟩) (n-i) dc,.slice (some ⟨g,i*4,none⟩) (n+1-i) sc]).run Try.prog w.drew= .ok (goInt (n-i:Nat)) W1:=λty dc sc=>by
        rw[hW1,hX1]
        exact run_copy_rowK w.drew _ _ ty 32 g ((i+1)*4) (n-i) dc ⟨g,i*4,none⟩ (n+1-i) sc cur 32 (xs.drop (i*4)) 4 (n-i) t22 hsz hg (by simp only[Nat.min_def];split <;> omega) hdl hxc (by rw[hdl,hcs];omega) h1d
      have hX1l:X1.toList.length=cap*4:=by
        rw[hX1];simp only[List.length_append,List.length_take,List.length_drop,hcur,hdl];omega
      have hW1g:W1.heap[g]? =some (.cells X1 32 (0,0)):=by rw[hW1];exact setRow_heap w.drew g cur X1 32 _ hg
      have hW1o:∀k,k≠g->W1.heap[k]? =w.heap[k]? :=λk hk=>by rw[hW1];exact setRow_other w.drew g k X1 hk
      have hW1s:W1.heap.size=w.heap.size:=by rw[hW1];simp[World.setRow]
      obtain⟨X2,hX2⟩:∃X2:Array Value,X2=(X1.toList.take (i*4)++vs++X1.toList.drop (i*4+vs.length)).toArray :=⟨_,rfl⟩
      have hcp2:∀(W:World),W.heap=W1.heap->∀ty dc,(Builtin.copy_ #[24,24] ty #[.slice (some ⟨g,i*4,none⟩) (n+1-i) dc,.slice (some ⟨vb,0,none⟩) 1 1]).run Try.prog W= .ok (goInt (1:Nat)) (W.setRow g X2):=λW hW ty dc=>by
        rw[hX2]
        exact run_copy_rowK W _ _ ty 32 g (i*4) (n+1-i) dc ⟨vb,0,none⟩ 1 1 X1 32 vs 4 1 t22 hsz (by rw[hW];exact hW1g) (by simp only[Nat.min_def];split <;> omega) (by rw[hvl]) (λj u hj=>by
          rw[Addr.add_lit,cell_of_row W vb (0+j) vs.toArray 32 (0,0) (by rw[hW,hW1o vb hvg];exact hvs)]
          simpa using hj) (by have:X1.size=X1.toList.length:=by simp
                              rw[this,hX1l,hvl];omega) h1
      have hfin:∀W:World,W.heap=W1.heap->W.os=w.os->W.tape=w.tape->W.output=w.output->∃v',(Ending.returned (.slice (some ⟨g,0,none⟩) (n+1) cap):Ending)= .returned v'/\(W.setRow g X2).ownsRow B 32 4 v' (n+1) (xs.take (i*4)++vs++xs.drop (i*4))/\w.grownBy (W.setRow g X2) (Value.slice (some ⟨g,0,none⟩) n cap).ownBlock /\(v'.ownBlock=(Value.slice (some ⟨g,0,none⟩) n cap).ownBlock \/v'.ownBlock=some w.heap.size):=by
        intro W hW ho ht hp
        rw[hX2]
        refine⟨_,rfl,⟨by simp only[List.length_append,List.length_take,List.length_drop,hxl,hvl];omega,.inr ⟨g,cap,_,rfl,hbg,setRow_heap W g X1 _ 32 _ (by rw[hW];exact hW1g),hroom,by simp only[maxLen];omega,?_,?_⟩⟩,⟨ho,ht,hp,by simp[World.setRow,hW,hW1s],λk hk hne=>?_⟩,.inl rfl⟩
        · simp only[List.size_toArray,List.length_append,List.length_take,List.length_drop,hX1l,hvl];omega
        · have e1:X1.toList.take (i*4)=xs.take (i*4):=by
            rw[hX1,List.toList_toArray,List.append_assoc,List.take_append_of_le_length (by rw[List.length_take,hcur];omega),List.take_take,<-htake,List.take_take]
            congr 1;omega
          have e2:(X1.toList.drop (i*4+vs.length)).take ((n-i)*4)=xs.drop (i*4):=by
            rw[hX1,List.toList_toArray,List.append_assoc,List.drop_append,List.drop_eq_nil_of_le (by rw[List.length_take,hcur,hvl];omega),List.nil_append,List.length_take,hcur,hvl]
            rw[show i*4+4-min ((i+1)*4) (cap*4)=0 by omega,List.drop_zero,List.take_append_of_le_length (by rw[hdl];exact Nat.le_refl _)]
            exact List.take_of_length_le (by rw[hdl];exact Nat.le_refl _)
          rw[List.toList_toArray,e1,List.take_append,List.take_of_length_le (by simp only[List.length_append,List.length_take,hxl,hvl];omega)]
          congr 1
          rw[<-e2]
          congr 1
          simp only[List.length_append,List.length_take,hxl,hvl];omega
        · have hk':k≠g:=λe=>hne (by simp[Value.ownBlock,e])
          rw[setRow_other W g k _ hk',hW]
          exact hW1o k hk'
      have hW1os:W1.os=w.os/\W1.tape=w.tape/\W1.output=w.output:=by rw[hW1];exact⟨rfl,rfl,rfl⟩
      have HF:=Aside0.mk hfin
      have HC1:=Aside0.mk hcp1
      have HC2:=Aside0.mk hcp2
      have HOS:=Aside0.mk hW1os
      have hz2:¬((i:Int)=(n:Int)):=by omega
      have hw1:IntKind.i64.wrap ((n:Int)+1)=(n:Int)+1:=by rw[IntKind.wrap_i64];omega
      have hw2:IntKind.i64.wrap ((i:Int)+1)=(i:Int)+1:=by rw[IntKind.wrap_i64];omega
      have hb0:¬((cap:Int)<(n:Int)+1):=by omega
      have hb1:(0:Int)<=(i:Int)+1:=by omega
      have hb2:¬(cap=i+1):=by omega
      have hb3:(i:Int)<=(n:Int)+1:=by omega
      have hb4:¬(cap=i):=by omega
      have htn:((i:Int)+1).toNat =i+1:=by omega
      have htn2:((n:Int)+1).toNat =n+1:=by omega
      clear hfin hcp1 hcp2 hW1os hW1 hX2 hX1 hX1l hW1g hW1o hW1s htake hxc h1d hdl hsa hsb hown hvc h1 h1x hvs
      go_enter Try.func55,Try.ntmps55
      go_wp2_with (simp only[hov])
      have hc1:=HC1.out 3 (cap-(i+1)) (cap-i)
      go_region
      have hc2:=HC2.out W1 rfl 3 (cap-i)
      go_wp2
      go_ret
      exact HF.out _ rfl HOS.out.1 HOS.out.2.1 HOS.out.2.2
    · obtain rfl:cap=n:=by omega
      obtain⟨gN,hgN⟩:∃gN,gN=w.heap.size:=⟨_,rfl⟩
      obtain⟨G,hG⟩:∃G,G=grownCap w (cap+1) cap 32:=⟨_,rfl⟩
      have hGn:cap+1<=G:=by rw[hG];exact grownCap_ge w _ _ _
      have hG63:G<=9223372036854775807:=by
        have:=grownCap_le_maxLen w (cap+1) cap 32 (by unfold maxLen;omega)
        rw[<-hG]at this
        unfold maxLen at this
        omega
      have hvn:vb<w.heap.size:=(Array.getElem?_eq_some_iff.1 hvs).1
      have htl:(xs.take (i*4)).length =i*4:=by rw[List.length_take,hxl];omega
      have hold:(Builtin.firstCells i0.size i (.slice (some ⟨g,0,none⟩) i cap)).run Try.prog w.drew= .ok (xs.take (i*4)).toArray w.drew:=by
        rw[hzs]
        exact run_firstCells_some w.drew 4 i ⟨g,0,none⟩ i cap (xs.take (i*4)) htl (λj u hj=>by
          rw[Addr.add_lit]
          rw[List.getElem?_take]at hj
          split at hj
          · rw[cell_of_row w.drew g (0+j) cur 32 (0,0) hg]
            rw[<-htake,List.getElem?_take]at hj
            split at hj
            · simpa using hj
            · cases hj
          · cases hj)
      obtain⟨X1,hX1⟩:∃X1:Array Value,X1=(xs.take (i*4)).toArray ++Builtin.zeroCells (.agg #[.int .i64 0,.int .i64 0,.int .i64 0,.slice none 0 0]:Value).cells (cap+1-i)++Builtin.zeroCells (.agg #[.int .i64 0,.int .i64 0,.int .i64 0,.slice none 0 0]:Value).cells (G-(cap+1)):=⟨_,rfl⟩
      obtain⟨W1,hW1⟩:∃W1,W1=w.drew.alloc (.cells X1 32):=⟨_,rfl⟩
      have hkk:(cap:Int)+1-(i:Int)=((cap+1-i:Nat):Int):=by omega
      have hik:i+(cap+1-i)=cap+1:=by omega
      have hrz:(Builtin.append_ #[24,3] 24 #[.slice (some ⟨g,0,none⟩) i cap,.int .i64 ((cap:Int)+1-(i:Int))]).run Try.prog w= .ok (.slice (some ⟨gN,0,none⟩) (cap+1) G) W1:=by
        have h:=Lib.run_append_grow_zeros w 24 3 24 32 i0 _ .i64 .i64 t22 Try.underlying3 hi0 hz0 (some ⟨g,0,none⟩) i cap (xs.take (i*4)) hold (cap+1-i) (by omega) (by omega) (by omega) (by omega) (by rw[hzb];omega) (by rw[hzb,hik];exact growslice_fits (by omega) hby)
        rw[hik]at h
        rw[hkk,hW1,hX1,hgN,hG]
        exact h
      have hX1l:X1.toList.length=G*4:=by
        rw[hX1]
        simp only[Array.toList_append,List.length_append,List.toList_toArray,htl,Array.length_toList,size_zeroCells]
        simp[Value.cells]
        omega
      have hX1t:X1.toList.take (i*4)=xs.take (i*4):=by
        rw[hX1]
        simp only[Array.toList_append,List.toList_toArray,List.append_assoc]
        rw[List.take_append_of_le_length (by rw[htl];exact Nat.le_refl _)]
        exact List.take_of_length_le (by rw[htl];exact Nat.le_refl _)
      have hW1g:W1.heap[gN]? =some (.cells X1 32 (0,0)):=by rw[hW1,hgN];exact heap_alloc_new w.drew _
      have hW1o:∀k,k<w.heap.size->W1.heap[k]? =w.heap[k]? :=λk hk=>by rw[hW1];first|exact heap_alloc_old w.drew _ hk|exact heap_alloc_old w.drew _ k hk
      have hW1s:W1.heap.size=w.heap.size+1:=by rw[hW1];simp
      have hW1os:W1.os=w.os/\W1.tape=w.tape/\W1.output=w.output:=by rw[hW1];exact⟨rfl,rfl,rfl⟩
      have hgn1:g≠gN:=by omega
      have hvn1:vb≠gN:=by omega
      obtain⟨X2,hX2⟩:∃X2:Array Value,X2=(X1.toList.take (i*4)++vs++X1.toList.drop (i*4+vs.length)).toArray :=⟨_,rfl⟩
      have hX2l:X2.toList.length=G*4:=by
        rw[hX2];simp only[List.length_append,List.length_take,List.length_drop,hX1l,hvl];omega
      have hX2t:X2.toList.take ((i+1)*4)=xs.take (i*4)++vs:=by
        rw[hX2,List.toList_toArray,hX1t,List.take_append_of_le_length (by rw[List.length_append,htl,hvl];omega)]
        exact List.take_of_length_le (by rw[List.length_append,htl,hvl];omega)
      obtain⟨W2,hW2⟩:∃W2,W2=W1.setRow gN X2:=⟨_,rfl⟩
      have hW2g:W2.heap[gN]? =some (.cells X2 32 (0,0)):=by rw[hW2];exact setRow_heap W1 gN X1 X2 32 _ hW1g
      have hW2o:∀k,k≠gN->W2.heap[k]? =W1.heap[k]? :=λk hk=>by rw[hW2];exact setRow_other W1 gN k X2 hk
      have hW2s:W2.heap.size=w.heap.size+1:=by rw[hW2,<-hW1s];simp[World.setRow]
      have hW2os:W2.os=w.os/\W2.tape=w.tape/\W2.output=w.output:=by rw[hW2];exact hW1os
      have hcA:(Builtin.copy_ #[24,24] 3 #[.slice (some ⟨gN,i*4,none⟩) (cap+1-i) (G-i),.slice (some ⟨vb,0,none⟩) 1 1]).run Try.prog W1= .ok (goInt (1:Nat)) W2:=by
        rw[hW2,hX2]
        exact run_copy_rowK W1 _ _ 3 32 gN (i*4) (cap+1-i) (G-i) ⟨vb,0,none⟩ 1 1 X1 32 vs 4 1 t22 hsz hW1g (by simp only[Nat.min_def];split <;> omega) (by rw[hvl]) (λj u hj=>by
          rw[Addr.add_lit,cell_of_row W1 vb (0+j) vs.toArray 32 (0,0) (by rw[hW1o vb hvn];exact hvs)]
          simpa using hj) (by have:X1.size=X1.toList.length:=by simp
                              rw[this,hX1l,hvl];omega) h1
      obtain⟨X3,hX3⟩:∃X3:Array Value,X3=(X2.toList.take ((i+1)*4)++xs.drop (i*4)++X2.toList.drop ((i+1)*4+(xs.drop (i*4)).length)).toArray :=⟨_,rfl⟩
      obtain⟨W3,hW3⟩:∃W3,W3=W2.drew.setRow gN X3:=⟨_,rfl⟩
      have hcB:∀sc,(Builtin.copy_ #[24,24] 3 #[.slice (some ⟨gN,(i+1)*4,none⟩) (cap-i) (G-(i+1)),.slice (some ⟨g,i*4,none⟩) (cap-i) sc]).run Try.prog W2.drew= .ok (goInt (cap-i:Nat)) W3:=λsc=>by
        rw[hW3,hX3]
        exact run_copy_rowK W2.drew _ _ 3 32 gN ((i+1)*4) (cap-i) (G-(i+1)) ⟨g,i*4,none⟩ (cap-i) sc X2 32 (xs.drop (i*4)) 4 (cap-i) t22 hsz hW2g (by simp only[Nat.min_def];split <;> omega) hdl (λj u hj=>by
          have h:=hxc j u hj
          rw[Addr.add_lit]at h |-
          rw[cell_of_row w g (i*4+j) cur 32 (0,0) hg]at h
          rw[cell_of_row W2.drew g (i*4+j) cur 32 (0,0) (by show W2.heap[g]? =_;rw[hW2o g hgn1,hW1o g hgb];exact hg)]
          exact h) (by have:X2.size=X2.toList.length:=by simp
                       rw[this,hX2l,hdl];omega) h1d
      have hfin:W3.ownsRow B 32 4 (.slice (some ⟨gN,0,none⟩) (cap+1) G) (cap+1) (xs.take (i*4)++vs++xs.drop (i*4))/\w.grownBy W3 (Value.slice (some ⟨g,0,none⟩) cap cap).ownBlock :=by
        have hX3l:X3.toList.length=G*4:=by
          rw[hX3];simp only[List.length_append,List.length_take,List.length_drop,hX2l,hdl];omega
        refine⟨⟨by simp only[List.length_append,htl,hvl,hdl];omega,.inr ⟨gN,G,X3,rfl,by omega,by rw[hW3];exact setRow_heap W2.drew gN X2 X3 32 _ hW2g,hGn,by simp only[maxLen];omega,by simpa using hX3l,?_⟩⟩,⟨by rw[hW3];exact hW2os.1,by rw[hW3];exact hW2os.2.1,by rw[hW3];exact hW2os.2.2,by rw[hW3];simp[World.setRow,hW2s],λk hk hne=>?_⟩⟩
        · rw[hX3,List.toList_toArray,hX2t,List.take_append_of_le_length (by simp only[List.length_append,htl,hvl,hdl];omega)]
          exact List.take_of_length_le (by simp only[List.length_append,htl,hvl,hdl];omega)
        · have hk':k≠gN:=by omega
          rw[hW3,setRow_other W2.drew gN k X3 hk']
          show W2.heap[k]? =_
          rw[hW2o k hk',hW1o k hk]
      have HF:=Aside0.mk hfin
      have HGN:=Aside0.mk hgN
      have hcb:=hcB (cap-i)
      have hz2:¬((i:Int)=(cap:Int)):=by omega
      have hw1:IntKind.i64.wrap ((cap:Int)+1)=(cap:Int)+1:=by rw[IntKind.wrap_i64];omega
      have hw2:IntKind.i64.wrap ((i:Int)+1)=(i:Int)+1:=by rw[IntKind.wrap_i64];omega
      have hw3:IntKind.i64.wrap ((cap:Int)+1-(i:Int))=(cap:Int)+1-(i:Int):=by rw[IntKind.wrap_i64];omega
      have hb1:(0:Int)<=(i:Int)+1:=by omega
      have hb2:¬(G=i+1):=by omega
      have hb3:(i:Int)<=(cap:Int):=by omega
      have hb4:¬(G=i):=by omega
      have hb5:¬(cap=i):=by omega
      have hb6:(i:Int)<=(cap:Int)+1:=by omega
      have htn:((i:Int)+1).toNat =i+1:=by omega
      clear hcB hfin hX1 hX2 hX3 hX1l hX1t hX2l hX2t hW1 hW2 hW3 hW1g hW1o hW1s hW1os hW2g hW2o hW2s hW2os hold hkk hik hG hgN htake hxc h1d hdl hown hvc h1 h1x hvs hroom hcur hcs hg htl
      go_enter Try.func55,Try.ntmps55
      go_wp2_with (at_builtin;refine Lib.wpList_append_run _ rfl _ _ _ _ rfl _ _ rfl rfl _ _ hrz ?_)
      go_region
      go_wp2
      go_ret
      exact⟨_,rfl,HF.out.1,HF.out.2,.inr (congrArg some HGN.out)⟩
end Go.Proofs.Ytbpoflicphgokaa.Ins32
namespace Go.Proofs.Ytbpoflicphgokaa.Q18
open Go.RowKit Go.Lib Go.Proofs.YtbpoflicphgokaaW.PrintWords Go.Proofs.YtbpoflicphgokaaW.PrintLast Go.Proofs.YtbpoflicphgokaaW.PrintMore
set_option linter.unusedVariables false
set_option linter.unusedSimpArgs false
theorem lit_event_ {P:Program} {ops:Array Oper} {rest:List Oper} {o:Oper} {a:Act} {Q:Exit->Act->World->Prop} {W:World} (hgd:o.guard=none) {N:Tmp} (_hd:o.dst=some N) {cs:Array Value} {t:TypeId} {n:Nat}
    (hrun:(execOp a.eval o).run P W= .ok (.value (.slice (some ⟨W.heap.size,0,none⟩) n n)) (W.alloc (.cells cs t (0,0))))
    (h:∀g,g=W.heap.size->∀w1,w1.heap[g]? =some (.cells cs t (0,0))->Below W.heap.size W w1->wpList P ops Q rest (a.put o.dst (.slice (some ⟨g,0,none⟩) n n)) w1):wpList P ops Q (o::rest) a W:=
  Kd.event_run hgd hrun (h _ rfl _ (blk_new W _) (below_alloc (Below.refl _ _) _))
def api_Lsa_55.f (l0:List (S32)) (a1:Int):Option ((List (S32))):=if 0<=a1/\a1<=(l0.length:Int)/\l0.length<2932031007402 then some (l0.take a1.toNat++[(⟨0,0,0,([]:List (S56))⟩:S32)]++l0.drop a1.toNat)else none
theorem api_Lsa_55.own (b_:Nat) (ok:Nat->Prop) (A0:Option Addr) (c0:Nat) (l0:List (S32)) (a1:Int) (r:List (S32)) (gl:Nat) (w0 w:World) (hB:Below w0.heap.size w0 w) (ho:Kd.N (o32 b_) 32 w w0.heap.size ok (.slice A0 l0.length c0) l0) (hfresh:∀k,w.heap.size<=k->ok k)
    (hlit:w.heap[gl]? =some (.cells #[.int .i64 0,.int .i64 0,.int .i64 0,.slice none 0 0] 32 (0,0))) (hne:some gl≠(Value.slice A0 l0.length c0).ownBlock) (h:api_Lsa_55.f l0 a1=some r):
  Calls Try.prog 55 #[.slice A0 l0.length c0,.int .i64 a1,.slice (some ⟨gl,0,none⟩) 1 1] w λe w'=>∃v0_:Value,e= .returned (v0_)/\Kd.N (o32 b_) 32 w' w0.heap.size ok v0_ r/\Below w0.heap.size w0 w'/\w.grownBy w' (Value.slice A0 l0.length c0).ownBlock :=by
  unfold api_Lsa_55.f at h
  by_cases hc:0<=a1/\a1<=(l0.length:Int)/\l0.length<2932031007402
  · rw[if_pos hc]at h
    obtain rfl:=Option.some.inj h
    clear h
    obtain⟨h0,h1,h2⟩:=hc
    obtain⟨i,rfl⟩:=Int.eq_ofNat_of_zero_le h0
    rw[Int.toNat_natCast]
    obtain⟨inner,hown,hone,hr⟩:=Kd.N_open ho (Nat.succ_pos 3)
    have hFK:Kd.FK (o32 b_) w (λk=>ok k/\some k≠(Value.slice A0 l0.length c0).ownBlock) (⟨0,0,0,([]:List (S56))⟩:S32) [.int .i64 0,.int .i64 0,.int .i64 0,.slice none 0 0]:=o32_mkF _ _ _ (⟨0,0,0,([]:List (S56))⟩:S32) (Kd.N_nil _ _ _ _ _)
    have hbase:=Kd.N_base ho
    have h00:=ho.1
    generalize hv:(Value.slice A0 l0.length c0)=v at*
    refine(Ins32.insert_own v l0.length i gl w0.heap.size inner [.int .i64 0,.int .i64 0,.int .i64 0,.slice none 0 0] w hown (by have:=hB.size;exact this) (by omega) (by omega) hlit rfl hne (by decide) hone).mono ?_
    rintro e w' ⟨v',he,hown',hg,hat⟩
    exact⟨v',he,Kd.N_inserted (by omega) h00 hone hr hFK rfl (by decide) hfresh hown' hg hat,pw_below_grown hB _ hB.size hg hbase,hg⟩
  · rw[if_neg hc]at h
    cases h
end Go.Proofs.Ytbpoflicphgokaa.Q18
namespace Go.Proofs.Ytbpoflicphgokaa.Q18
open Go.RowKit Go.Proofs.Ytbpoflicphgokaa.Stp Go.Proofs.YtbpoflicphgokaaW.PrintWords Go.Proofs.YtbpoflicphgokaaW.PrintLast Go.Proofs.YtbpoflicphgokaaW.PrintMore
attribute [local go_sem] max2_int min2_int max_two min_two max_three min_three max_four min_four
set_option linter.unusedVariables false
set_option linter.unusedSimpArgs false
attribute [local go_sem high] eqA56
def store_Put.g (k:Nat) (t213:List (S32)) (a1_0:Int) (a1_1:Int) (a1_2:Int) (l1_3:List (S56)):Option ((List (S32))):=((store_at.f k t213 a1_0).bind λbt217=>(if bt217.2=true then((api_Link.f l1_3).bind λt219=>(if 0<=bt217.1 then(if bt217.1<(t213.length:Int)then(some (t213.set (bt217.1:Int).toNat (⟨a1_0,a1_1,a1_2,t219⟩:S32)))else(none))else(none)))else((api_Lsa_55.f t213 bt217.1).bind λt226=>((api_Link.f l1_3).bind λt229=>(if 0<=bt217.1 then(if bt217.1<(t226.length:Int)then(some (t226.set (bt217.1:Int).toNat (⟨a1_0,a1_1,a1_2,t229⟩:S32)))else(none))else(none))))))
def store_Put.f (l0:List (S32)) (a1_0:Int) (a1_1:Int) (a1_2:Int) (l1_3:List (S56)):Option ((List (S32))):=store_Put.g (l0.length+1000) l0 a1_0 a1_1 a1_2 l1_3
set_option maxHeartbeats 8000000 in
set_option maxRecDepth 100000 in
theorem store_Put.own (P0_:Nat->Prop) (Ao13:Option Addr) (co13:Nat) (t213:List (S32)) (a1_0:Int) (a1_1:Int) (a1_2:Int) (A1_3:Option Addr) (c1_3:Nat) (l1_3:List (S56)) (r:List (S32)) (w w10:World) (hB:Below w.heap.size w w10) (ho:Kd.N (o32 w.heap.size) 32 w10 w.heap.size (λk_=>(P0_ k_\/w.heap.size<=k_)) (.slice Ao13 t213.length co13) t213) (hr1_3:Kd.C k56 w A1_3 l1_3.length l1_3) (hc1_3:l1_3.length<=c1_3) (h:store_Put.f t213 a1_0 a1_1 a1_2 l1_3=some r):
  Calls Try.prog 32 #[.slice Ao13 t213.length co13,.agg #[.int .i64 a1_0,.int .i64 a1_1,.int .i64 a1_2,.slice A1_3 l1_3.length c1_3]] w10 λe w'=>∃v0_:Value,e= .returned (v0_)/\Kd.N (o32 w.heap.size) 32 w' w.heap.size (λk_=>(P0_ k_\/w.heap.size<=k_)) v0_ r/\Below w.heap.size w w':=by
 have hu32:=Try.underlying32;have O0:Aside0 (Kd.V k32 32 w10 w.heap.size (λk_=>(P0_ k_\/w.heap.size<=k_)/\some k_≠(.slice Ao13 t213.length co13:Value).ownBlock) (.slice (none:Option Addr) ([]:List S32).length 0) ([]:List S32)):=⟨Kd.N_V (Kd.N_nil k32 32 _ 0 _)⟩;have O1:=Aside0.mk ho;have R0:=Aside0.mk hr1_3;have K0:=Aside0.mk hc1_3;clear hr1_3 hc1_3;have HB:=Aside0.mk hB;unfold store_Put.f at h;generalize t213.length+1000=k at h;clear ho hB;have H:((store_at.f k t213 a1_0).bind λbt217=>(if bt217.2=true then((api_Link.f l1_3).bind λt0=>(if 0<=bt217.1 then(if bt217.1<(t213.length:Int)then(some (t213.set (bt217.1:Int).toNat (⟨a1_0,a1_1,a1_2,t0⟩:S32)))else(none))else(none)))else((api_Lsa_55.f t213 bt217.1).bind λt1=>((api_Link.f l1_3).bind λt2=>(if 0<=bt217.1 then(if bt217.1<(t1.length:Int)then(some (t1.set (bt217.1:Int).toNat (⟨a1_0,a1_1,a1_2,t2⟩:S32)))else(none))else(none))))))=some r:=h;clear h;obtain⟨⟨t3,t4⟩,A0,H⟩:=bsE H;(try dsimp only at H);have A4:=Aside0.mk A0;clear A0
 by_cases c5:t4=true
 ·subst c5
  rw[if_pos rfl]at H;obtain⟨t0,A2,H⟩:=bsE H;(try dsimp only at H);have A6:=Aside0.mk A2;clear A2
  by_cases c7:0<=t3
  ·rw[if_pos c7]at H
   have c4:=decide_eq_true c7;clear c7
   by_cases c8:t3<(t213.length:Int)
   ·rw[if_pos c8]at H
    have ca:=decide_eq_true c8;clear c8;obtain⟨y0,Y0⟩:∃y_:List (S32),y_=(t213.set (t3:Int).toNat (⟨a1_0,a1_1,a1_2,t0⟩:S32)):=⟨_,rfl⟩
    replace H:(some y0)=some r:=by first|(rw[Y0];with_reducible exact H)|(have H2_:=(Option.bind_some _ _).symm.trans H;rw[Y0];with_reducible exact H2_)|(have H2_:=(Option.bind_some _ _).symm.trans H;with_reducible exact H2_)|with_reducible exact H|(rw[Y0];exact H)|exact H
    have Y1:=Aside0.mk Y0;clear Y0;obtain rfl:=Option.some.inj H
    go_enter Try.func32,Try.ntmps32
    go_wp2_with (first|((with_reducible refine gate_dst (N:=3) rfl ?_);refine bxV (N:=3) (cs:=#[.int .i64 a1_0,.int .i64 a1_1,.int .i64 a1_2,.slice A1_3 l1_3.length c1_3]) (t:=32) (h:=?_);intro g0 hg w0 hbox hb;replace O0:=Aside0.mk (Kd.V_below (Kd.V_elderB mAC g0 (Nat.le_of_eq hg.symm)) hb);replace O1:=Aside0.mk (Kd.N_below (Kd.N_elderB mM g0 (Nat.le_of_eq hg.symm)) hb);have B0:=Aside0.mk (hbox);have G0:=Aside0.mk ((mH:w.heap.size<=g0));have G1:=Aside0.mk ((mH:w.heap.size<=g0));replace HB:=Aside0.mk (below_step mA hb);clear hb hbox hg;obtain⟨z0,z1,z2,z3⟩:=bc4 B0.out;have z4:=blk_frozen B0.out)|((with_reducible refine gate_callee (f:=29) rfl ?_);refine cLV (some 11) Try.func29 #[.slice Ao13 t213.length co13,.int .i64 a1_0] (h:=?_);(with_reducible refine(store_at.calls k _ _ t213 a1_0 t3 true _ ?side1 ?side2 A4.out).mono ?_);(case side1=>repeat (first|exact(Kd.N_reads' (Kd.own_N O1.out)).2.2 |(with_reducible refine Kd.C_alloc ?_ _)|(with_reducible refine Kd.C_drewN ?_ _)|(with_reducible refine Kd.C_drew ?_)));(case side2=>exact(Kd.N_reads' O1.out).2.1);rintro e w2 ⟨rfl,hb⟩;refine⟨_,rfl,?_⟩;replace O0:=Aside0.mk (Kd.V_below mAC hb);replace O1:=Aside0.mk (Kd.N_below mM hb);replace B0:=Aside0.mk (blk_below mC hb);replace HB:=Aside0.mk (below_step mB hb);(try clear hb);obtain⟨z5,z6,z7,z8⟩:=bc4 B0.out;have z9:=blk_frozen B0.out)|((with_reducible refine gate_callee (f:=33) rfl ?_);refine cLV (some 23) Try.func33 #[.slice A1_3 l1_3.length c1_3] (h:=?_);(with_reducible refine(api_Link.calls _ _ l1_3 t0 _ ?side1 ?side2 A6.out).mono ?_);(case side1=>repeat (first|exact(Kd.C_below R0.out HB.out)|(with_reducible refine Kd.C_alloc ?_ _)|(with_reducible refine Kd.C_drewN ?_ _)|(with_reducible refine Kd.C_drew ?_)));(case side2=>exact K0.out);rintro e w3 ⟨v220,rfl,ho0,hb⟩;refine⟨_,rfl,?_⟩;replace O0:=Aside0.mk (Kd.V_elder' mAC (Kd.R_base ho0) hb);replace O1:=Aside0.mk (Kd.N_elder' mM (Kd.R_base ho0) hb);have O2:=Aside0.mk (Kd.R_lower (Kd.R_newM (M:=λk_=>(w.heap.size<=k_)) ho0 (below_size mB) (λk_ h_=>h_)) (below_size mB));replace B0:=Aside0.mk (blk_below mC hb);replace HB:=Aside0.mk (below_step mB hb);(try clear hb);(try clear ho0);obtain⟨s0,s1,s2⟩:=Kd.R_slice O2.out;subst s2;obtain⟨za,zb,zc,zd⟩:=bc4 B0.out;have ze:=blk_frozen B0.out)|((with_reducible refine gate_store (t:=30) (p:=24) rfl ?_);refine stV (t:=30) (p:=24) (w1:=(w3.setCell ⟨g0,3,none⟩ (.slice s0 t0.length s1))) (h:=?_);intro w5 hw;replace O0:Aside0 (Kd.V k32 32 w5 w.heap.size (λk_=>(P0_ k_\/w.heap.size<=k_)/\some k_≠(.slice Ao13 t213.length co13:Value).ownBlock /\some k_≠(.slice s0 t0.length s1:Value).ownBlock /\k_≠g0) (.slice (none:Option Addr) ([]:List S32).length 0) ([]:List S32)):=⟨(by rw[hw];exact(by(with_reducible repeat (first|apply Kd.V_alloc|apply Kd.V_drewN|apply Kd.V_drew));exact Kd.V_mono (Kd.V_far (p:=⟨g0,3,none⟩) (Kd.V_mono O0.out (λk_ hk=>(⟨hk,hk.1.2⟩:_/\k_≠g0))) (λ_ hk=>hk.2) (.slice s0 t0.length s1)) (λ_ hk=>⟨hk.1.1.1.1,⟨hk.1.1.1.2,⟨hk.1.2,hk.1.1.2⟩⟩⟩)))⟩;replace O1:Aside0 (Kd.N (o32 w.heap.size) 32 w5 w.heap.size (λk_=>(P0_ k_\/w.heap.size<=k_)/\some k_≠(.slice s0 t0.length s1:Value).ownBlock /\k_≠g0) (.slice Ao13 t213.length co13) t213):=⟨(by rw[hw];exact(by(with_reducible repeat (first|apply Kd.N_alloc|apply Kd.N_drewN|apply Kd.N_drew));exact Kd.N_mono (Kd.N_far (p:=⟨g0,3,none⟩) (Kd.N_mono O1.out (λk_ hk=>(⟨hk,hk.1.2⟩:_/\k_≠g0))) (λ_ hk=>hk.2) (.slice s0 t0.length s1)) (λ_ hk=>⟨hk.1.1.1,⟨hk.1.2,hk.1.1.2⟩⟩)))⟩;replace O2:Aside0 (Kd.R k56 56 w5 w.heap.size (λk_=>(w.heap.size<=k_)) (.slice s0 t0.length s1) t0):=⟨(by rw[hw];exact(by(with_reducible repeat (first|apply Kd.R_alloc|apply Kd.R_drewN|apply Kd.R_drew));exact Kd.R_mono (Kd.R_far (p:=⟨g0,3,none⟩) (Kd.R_types O2.out B0.out mAE) (λ_ hk=>hk.2) (.slice s0 t0.length s1)) (λ_ hk=>hk.1.1)))⟩;replace B0:Aside0 (w5.heap[g0]? =some (.cells #[.int .i64 a1_0,.int .i64 a1_1,.int .i64 a1_2,.slice s0 t0.length s1] 32 (0,0))):=⟨mBO⟩;replace HB:Aside0 (Below w.heap.size w w5):=⟨mBF⟩;clear hw;obtain⟨zf,zg,zh,zi⟩:=bc4 B0.out;have zj:=blk_frozen B0.out;have p9:0<=(t3:Int):=of_decide_eq_true mF;have q9:(t3:Int)<((t213.length:Int):Int):=of_decide_eq_true mF;obtain⟨go9,s3,s4,g1,gl9,cl9,HG9⟩:=Kd.N_form O1.out mBX;(first|cases s4|(injection s4 with ea_ en_ ec_;(first|subst ea_|(injection ea_ with ea_;subst ea_));subst ec_;clear en_));have GB9:=Aside0.mk g1;have GG9:=Aside0.mk HG9;clear g1 gl9 HG9;obtain⟨ce9,hcl9,hM9,hcc9,hfr9⟩:=Kd.N_elem O1.out z32 (t3:Int) p9 q9;obtain⟨ua9_3,uc9_3,rfl,ul9_3,ge9_3⟩:=k32_openF (Kd.own_FK hM9);have h0:w5.cell? ⟨go9,(t3:Int).toNat *4,none⟩=some (.int .i64 ((rd_T32 t213 t3).f0)):=hcc9 0 _ rfl;have h1:w5.cell? ⟨go9,(t3:Int).toNat *4+1,none⟩=some (.int .i64 ((rd_T32 t213 t3).f1)):=hcc9 1 _ rfl;have h2:w5.cell? ⟨go9,(t3:Int).toNat *4+2,none⟩=some (.int .i64 ((rd_T32 t213 t3).f2)):=hcc9 2 _ rfl;have h3:w5.cell? ⟨go9,(t3:Int).toNat *4+3,none⟩=some (.slice ua9_3 ((rd_T32 t213 t3).f3).length uc9_3):=hcc9 3 _ rfl;have hf9_0:w5.frozen? ⟨go9,(t3:Int).toNat *4,none⟩=false:=hfr9 0;have hf9_1:w5.frozen? ⟨go9,(t3:Int).toNat *4+1,none⟩=false:=hfr9 1;have hf9_2:w5.frozen? ⟨go9,(t3:Int).toNat *4+2,none⟩=false:=hfr9 2;have hf9_3:w5.frozen? ⟨go9,(t3:Int).toNat *4+3,none⟩=false:=hfr9 3;clear hcl9 hcc9 hfr9 hM9;replace p9:=eq_true p9;replace q9:=eq_true q9;have HX21:=Aside0.mk (show Kd.N (o32 w.heap.size) 32 w5 w.heap.size (λk_=>(P0_ k_\/w.heap.size<=k_)/\k_≠g0) (.slice (some ⟨go9,0,none⟩) t213.length co13) t213 from mDI);obtain⟨ce21,hcl21,hM21,hcc21,hfr21⟩:=Kd.N_elem HX21.out z32 (t3:Int) (of_decide_eq_true mF) mCX;obtain⟨ua21_3,uc21_3,rfl,ul21_3,ge21_3⟩:=k32_openF (Kd.own_FK hM21);have HP21:=Kd.N_seg HX21.out (t3:Int) (of_decide_eq_true mF) mCX (seg:=[.int .i64 a1_0,.int .i64 a1_1,.int .i64 a1_2,.slice s0 t0.length s1]) (j:=0) hcl21 hcc21 (show 4<=4 from by decide) (x':=(⟨a1_0,a1_1,a1_2,t0⟩:S32)) (o32_mkF _ _ _ (⟨a1_0,a1_1,a1_2,t0⟩:S32) (Kd.R_N (Kd.R_mono (ok':=(λk_=>((λk_=>(P0_ k_\/w.heap.size<=k_)/\k_≠g0)) k_/\k_≠go9)) (Kd.R_types (Kd.R_apart' (O2.out) (Kd.N_typed O1.out) mAE) B0.out mAE) (λk_ hk=>⟨⟨(.inr (hk.1.1)),hk.2⟩,λe_=>(hk.1.2) (by rw[e_];rfl)⟩)))) (λ_ hk=>hk);have h4:=hcc21 0 _ rfl;(try simp only[show(o32 w.heap.size).sz =4 from rfl,Nat.mul_one,Nat.add_zero]at h4);have hf21_0:=hfr21 0;(try simp only[show(o32 w.heap.size).sz =4 from rfl,Nat.mul_one,Nat.add_zero]at hf21_0);have h5:=hcc21 1 _ rfl;(try simp only[show(o32 w.heap.size).sz =4 from rfl,Nat.mul_one,Nat.add_zero]at h5);have hf21_1:=hfr21 1;(try simp only[show(o32 w.heap.size).sz =4 from rfl,Nat.mul_one,Nat.add_zero]at hf21_1);have h6:=hcc21 2 _ rfl;(try simp only[show(o32 w.heap.size).sz =4 from rfl,Nat.mul_one,Nat.add_zero]at h6);have hf21_2:=hfr21 2;(try simp only[show(o32 w.heap.size).sz =4 from rfl,Nat.mul_one,Nat.add_zero]at hf21_2);have h7:=hcc21 3 _ rfl;(try simp only[show(o32 w.heap.size).sz =4 from rfl,Nat.mul_one,Nat.add_zero]at h7);have hf21_3:=hfr21 3;(try simp only[show(o32 w.heap.size).sz =4 from rfl,Nat.mul_one,Nat.add_zero]at hf21_3);clear hcl21 hcc21 hfr21 hM21)|((with_reducible refine gate_store (t:=32) (p:=28) rfl ?_);refine stV (t:=32) (p:=28) (w1:=((((w5.setCell ⟨go9,(t3:Int).toNat *4,none⟩ (.int .i64 a1_0)).setCell ⟨go9,(t3:Int).toNat *4+1,none⟩ (.int .i64 a1_1)).setCell ⟨go9,(t3:Int).toNat *4+2,none⟩ (.int .i64 a1_2)).setCell ⟨go9,(t3:Int).toNat *4+3,none⟩ (.slice s0 t0.length s1))) (h:=?_);intro w7 hw;have hg:w5.grownBy w7 (some go9):=(by rw[hw];exact HP21.2);have hp_:Kd.N (o32 w.heap.size) 32 w7 w.heap.size (λk_=>(P0_ k_\/w.heap.size<=k_)/\k_≠g0) (.slice (some ⟨go9,0,none⟩) t213.length co13) y0:=(by rw[hw,Y1.out];exact HP21.1);clear HP21;replace O0:=Aside0.mk (Kd.V_afterv (v:=(.slice (some ⟨go9,0,none⟩) t213.length co13)) (v1:=(.slice (some ⟨go9,0,none⟩) t213.length co13)) (ok:=(λk_=>(P0_ k_\/w.heap.size<=k_)/\some k_≠(.slice s0 t0.length s1:Value).ownBlock /\k_≠g0)) mCN hg (.inl rfl));replace B0:=Aside0.mk (blk_grown (g:=g0) (o:= .cells #[.int .i64 a1_0,.int .i64 a1_1,.int .i64 a1_2,.slice s0 t0.length s1] 32 (0,0)) mC hg (Kd.N_away O1.out (λ_ hk=>hk.2.2)));replace O1:=Aside0.mk (hp_);replace HB:=Aside0.mk ((mDK:Below w.heap.size w w7));clear O2;clear hg hw hp_))
    go_ret;exact⟨_,by first|rfl|(simp[errW_none,errW_some] <;> rfl)|(simp[*,errW_none,errW_some] <;> rfl),by(with_reducible repeat (first|apply Kd.N_alloc|apply Kd.N_drewN|apply Kd.N_drew));exact Kd.N_mono O1.out (λ_ hk=>hk.1),by repeat (first|(with_reducible first|exact HB.out|apply below_alloc|apply pw_below_drewN|apply below_drew1|refine below_set ?_ G1.out)|exact HB.out)⟩
   ·rw[if_neg c8]at H
    exact absurd H mAY
  ·rw[if_neg c7]at H
   exact absurd H mAY
 ·replace c5:=Bool.eq_false_iff.mpr c5
  subst c5;rw[if_neg (show ¬(false=true)by decide)]at H;obtain⟨t1,A7,H⟩:=bsE H;(try dsimp only at H);have A8:=Aside0.mk A7;clear A7;obtain⟨t2,A9,H⟩:=bsE H;(try dsimp only at H);have Aa:=Aside0.mk A9;clear A9
  by_cases ci:0<=t3
  ·rw[if_pos ci]at H
   have cj:=decide_eq_true ci;clear ci
   by_cases ck:t3<(t1.length:Int)
   ·rw[if_pos ck]at H
    have cl:=decide_eq_true ck;clear ck;obtain⟨y1,Y2⟩:∃y_:List (S32),y_=(t1.set (t3:Int).toNat (⟨a1_0,a1_1,a1_2,t2⟩:S32)):=⟨_,rfl⟩
    replace H:(some y1)=some r:=by first|(rw[Y2];with_reducible exact H)|(have H2_:=(Option.bind_some _ _).symm.trans H;rw[Y2];with_reducible exact H2_)|(have H2_:=(Option.bind_some _ _).symm.trans H;with_reducible exact H2_)|with_reducible exact H|(rw[Y2];exact H)|exact H
    have Y3:=Aside0.mk Y2;clear Y2;obtain rfl:=Option.some.inj H
    go_enter Try.func32,Try.ntmps32
    go_wp2_with (first|((with_reducible refine gate_dst (N:=3) rfl ?_);refine bxV (N:=3) (cs:=#[.int .i64 a1_0,.int .i64 a1_1,.int .i64 a1_2,.slice A1_3 l1_3.length c1_3]) (t:=32) (h:=?_);intro g0 hg w0 hbox hb;replace O0:=Aside0.mk (Kd.V_below (Kd.V_elderB mAC g0 (Nat.le_of_eq hg.symm)) hb);replace O1:=Aside0.mk (Kd.N_below (Kd.N_elderB mM g0 (Nat.le_of_eq hg.symm)) hb);have B0:=Aside0.mk (hbox);have G0:=Aside0.mk ((mH:w.heap.size<=g0));have G1:=Aside0.mk ((mH:w.heap.size<=g0));replace HB:=Aside0.mk (below_step mA hb);clear hb hbox hg;obtain⟨z0,z1,z2,z3⟩:=bc4 B0.out;have z4:=blk_frozen B0.out)|((with_reducible refine gate_callee (f:=29) rfl ?_);refine cLV (some 11) Try.func29 #[.slice Ao13 t213.length co13,.int .i64 a1_0] (h:=?_);(with_reducible refine(store_at.calls k _ _ t213 a1_0 t3 false _ ?side1 ?side2 A4.out).mono ?_);(case side1=>repeat (first|exact(Kd.N_reads' (Kd.own_N O1.out)).2.2 |(with_reducible refine Kd.C_alloc ?_ _)|(with_reducible refine Kd.C_drewN ?_ _)|(with_reducible refine Kd.C_drew ?_)));(case side2=>exact(Kd.N_reads' O1.out).2.1);rintro e w8 ⟨rfl,hb⟩;refine⟨_,rfl,?_⟩;replace O0:=Aside0.mk (Kd.V_below mAC hb);replace O1:=Aside0.mk (Kd.N_below mM hb);replace B0:=Aside0.mk (blk_below mC hb);replace HB:=Aside0.mk (below_step mB hb);(try clear hb);obtain⟨zk,zl,zm,zn⟩:=bc4 B0.out;have zo:=blk_frozen B0.out)|((with_reducible refine gate_dst (N:=19) rfl ?_);refine lit_event_ ?hg (N:=19) ?hd (cs:=#[.int .i64 0,.int .i64 0,.int .i64 0,.slice none 0 0]) (t:=32) (n:=1) ?hr ?_;(case hd=>rfl);(case hg=>rfl);(case hr=>first|(go_simp;done)|(go_simp;rfl));intro gl hg w9 hbox hb;replace O0:=Aside0.mk (Kd.V_below (Kd.V_elderB O0.out gl (Nat.le_of_eq hg.symm)) hb);replace O1:=Aside0.mk (Kd.N_below (Kd.N_elderB O1.out gl (Nat.le_of_eq hg.symm)) hb);replace HB:=Aside0.mk (below_step HB.out hb);have BKL:=Aside0.mk hbox;replace B0:=Aside0.mk (blk_below B0.out hb);clear hb hbox hg)|((with_reducible refine gate_callee (f:=55) rfl ?_);refine cLV (some 20) Try.func55 #[.slice Ao13 t213.length co13,.int .i64 t3,.slice (some ⟨gl,0,none⟩) 1 1] (h:=?_);(with_reducible refine(api_Lsa_55.own _ (λk_=>(P0_ k_\/w.heap.size<=k_)/\k_≠g0) _ _ t213 t3 t1 gl w _ HB.out (Kd.N_mono O1.out (λ_ hk=>hk.1)) (λk_ hk=>⟨.inr (Nat.le_trans (below_size HB.out) hk),Kd.freshB (g:=g0) (o:= .cells #[.int .i64 a1_0,.int .i64 a1_1,.int .i64 a1_2,.slice A1_3 l1_3.length c1_3] 32 (0,0)) B0.out k_ hk⟩) BKL.out (Kd.N_away O1.out (λ_ hk=>hk.2)) A8.out).mono ?_);rintro e w2 ⟨v227,rfl,ho0,hb,hg_⟩;refine⟨_,rfl,?_⟩;have n2_:=Aside0.mk (blk_grown (g:=g0) (o:= .cells #[.int .i64 a1_0,.int .i64 a1_1,.int .i64 a1_2,.slice A1_3 l1_3.length c1_3] 32 (0,0)) B0.out hg_ (Kd.N_away O1.out (λ_ hk=>hk.1.2)));obtain⟨s5,s6,s7⟩:=Kd.N_slice ho0;subst s7;have n0_:Aside0 (Kd.V k32 32 w2 w.heap.size (λk_=>((P0_ k_\/w.heap.size<=k_)/\some k_≠(.slice s5 t1.length s6:Value).ownBlock)/\k_≠g0) (.slice (none:Option Addr) ([]:List S32).length 0) ([]:List S32)):=⟨Kd.N_V (Kd.N_nil k32 32 _ 0 _)⟩;clear O0 O1 HB B0 BKL hg_;have O0:=n0_;have O1:=Aside0.mk ho0;have B0:=n2_;have HB:=Aside0.mk hb;clear n0_ n2_ ho0 hb;obtain⟨z5,z6,z7,z8⟩:=bc4 B0.out;have z9:=blk_frozen B0.out)|((with_reducible refine gate_callee (f:=33) rfl ?_);refine cLV (some 23) Try.func33 #[.slice A1_3 l1_3.length c1_3] (h:=?_);(with_reducible refine(api_Link.calls _ _ l1_3 t2 _ ?side1 ?side2 Aa.out).mono ?_);(case side1=>repeat (first|exact(Kd.C_below R0.out HB.out)|(with_reducible refine Kd.C_alloc ?_ _)|(with_reducible refine Kd.C_drewN ?_ _)|(with_reducible refine Kd.C_drew ?_)));(case side2=>exact K0.out);rintro e w3 ⟨v220,rfl,ho0,hb⟩;refine⟨_,rfl,?_⟩;replace O0:=Aside0.mk (Kd.V_elder' mAC (Kd.R_base ho0) hb);replace O1:=Aside0.mk (Kd.N_elder' mM (Kd.R_base ho0) hb);have O2:=Aside0.mk (Kd.R_lower (Kd.R_newM (M:=λk_=>(w.heap.size<=k_)) ho0 (below_size mB) (λk_ h_=>h_)) (below_size mB));replace B0:=Aside0.mk (blk_below mC hb);replace HB:=Aside0.mk (below_step mB hb);(try clear hb);(try clear ho0);obtain⟨s0,s1,s2⟩:=Kd.R_slice O2.out;subst s2;obtain⟨za,zb,zc,zd⟩:=bc4 B0.out;have ze:=blk_frozen B0.out)|((with_reducible refine gate_store (t:=30) (p:=24) rfl ?_);refine stV (t:=30) (p:=24) (w1:=(w3.setCell ⟨g0,3,none⟩ (.slice s0 t2.length s1))) (h:=?_);intro w5 hw;replace O0:Aside0 (Kd.V k32 32 w5 w.heap.size (λk_=>(P0_ k_\/w.heap.size<=k_)/\some k_≠(.slice s5 t1.length s6:Value).ownBlock /\some k_≠(.slice s0 t2.length s1:Value).ownBlock /\k_≠g0) (.slice (none:Option Addr) ([]:List S32).length 0) ([]:List S32)):=⟨(by rw[hw];exact(by(with_reducible repeat (first|apply Kd.V_alloc|apply Kd.V_drewN|apply Kd.V_drew));exact Kd.V_mono (Kd.V_far (p:=⟨g0,3,none⟩) (Kd.V_mono O0.out (λk_ hk=>(⟨hk,hk.1.2⟩:_/\k_≠g0))) (λ_ hk=>hk.2) (.slice s0 t2.length s1)) (λ_ hk=>⟨hk.1.1.1.1,⟨hk.1.1.1.2,⟨hk.1.2,hk.1.1.2⟩⟩⟩)))⟩;replace O1:Aside0 (Kd.N (o32 w.heap.size) 32 w5 w.heap.size (λk_=>(P0_ k_\/w.heap.size<=k_)/\some k_≠(.slice s0 t2.length s1:Value).ownBlock /\k_≠g0) (.slice s5 t1.length s6) t1):=⟨(by rw[hw];exact(by(with_reducible repeat (first|apply Kd.N_alloc|apply Kd.N_drewN|apply Kd.N_drew));exact Kd.N_mono (Kd.N_far (p:=⟨g0,3,none⟩) (Kd.N_mono O1.out (λk_ hk=>(⟨hk,hk.1.2⟩:_/\k_≠g0))) (λ_ hk=>hk.2) (.slice s0 t2.length s1)) (λ_ hk=>⟨hk.1.1.1,⟨hk.1.2,hk.1.1.2⟩⟩)))⟩;replace O2:Aside0 (Kd.R k56 56 w5 w.heap.size (λk_=>(w.heap.size<=k_)) (.slice s0 t2.length s1) t2):=⟨(by rw[hw];exact(by(with_reducible repeat (first|apply Kd.R_alloc|apply Kd.R_drewN|apply Kd.R_drew));exact Kd.R_mono (Kd.R_far (p:=⟨g0,3,none⟩) (Kd.R_types O2.out B0.out mAE) (λ_ hk=>hk.2) (.slice s0 t2.length s1)) (λ_ hk=>hk.1.1)))⟩;replace B0:Aside0 (w5.heap[g0]? =some (.cells #[.int .i64 a1_0,.int .i64 a1_1,.int .i64 a1_2,.slice s0 t2.length s1] 32 (0,0))):=⟨mBO⟩;replace HB:Aside0 (Below w.heap.size w w5):=⟨mBF⟩;clear hw;obtain⟨zf,zg,zh,zi⟩:=bc4 B0.out;have zj:=blk_frozen B0.out;have p9:0<=(t3:Int):=of_decide_eq_true mF;have q9:(t3:Int)<((t1.length:Int):Int):=of_decide_eq_true mF;obtain⟨go9,s3,s4,g1,gl9,cl9,HG9⟩:=Kd.N_form O1.out mBX;(first|cases s4|(injection s4 with ea_ en_ ec_;(first|subst ea_|(injection ea_ with ea_;subst ea_));subst ec_;clear en_));have GB9:=Aside0.mk g1;have GG9:=Aside0.mk HG9;clear g1 gl9 HG9;obtain⟨ce9,hcl9,hM9,hcc9,hfr9⟩:=Kd.N_elem O1.out z32 (t3:Int) p9 q9;obtain⟨ua9_3,uc9_3,rfl,ul9_3,ge9_3⟩:=k32_openF (Kd.own_FK hM9);have h0:w5.cell? ⟨go9,(t3:Int).toNat *4,none⟩=some (.int .i64 ((rd_T32 t1 t3).f0)):=hcc9 0 _ rfl;have h1:w5.cell? ⟨go9,(t3:Int).toNat *4+1,none⟩=some (.int .i64 ((rd_T32 t1 t3).f1)):=hcc9 1 _ rfl;have h2:w5.cell? ⟨go9,(t3:Int).toNat *4+2,none⟩=some (.int .i64 ((rd_T32 t1 t3).f2)):=hcc9 2 _ rfl;have h3:w5.cell? ⟨go9,(t3:Int).toNat *4+3,none⟩=some (.slice ua9_3 ((rd_T32 t1 t3).f3).length uc9_3):=hcc9 3 _ rfl;have hf9_0:w5.frozen? ⟨go9,(t3:Int).toNat *4,none⟩=false:=hfr9 0;have hf9_1:w5.frozen? ⟨go9,(t3:Int).toNat *4+1,none⟩=false:=hfr9 1;have hf9_2:w5.frozen? ⟨go9,(t3:Int).toNat *4+2,none⟩=false:=hfr9 2;have hf9_3:w5.frozen? ⟨go9,(t3:Int).toNat *4+3,none⟩=false:=hfr9 3;clear hcl9 hcc9 hfr9 hM9;replace p9:=eq_true p9;replace q9:=eq_true q9;have HX21:=Aside0.mk (show Kd.N (o32 w.heap.size) 32 w5 w.heap.size (λk_=>(P0_ k_\/w.heap.size<=k_)/\k_≠g0) (.slice (some ⟨go9,0,none⟩) t1.length s6) t1 from mDI);obtain⟨ce21,hcl21,hM21,hcc21,hfr21⟩:=Kd.N_elem HX21.out z32 (t3:Int) (of_decide_eq_true mF) mDA;obtain⟨ua21_3,uc21_3,rfl,ul21_3,ge21_3⟩:=k32_openF (Kd.own_FK hM21);have HP21:=Kd.N_seg HX21.out (t3:Int) (of_decide_eq_true mF) mDA (seg:=[.int .i64 a1_0,.int .i64 a1_1,.int .i64 a1_2,.slice s0 t2.length s1]) (j:=0) hcl21 hcc21 (show 4<=4 from by decide) (x':=(⟨a1_0,a1_1,a1_2,t2⟩:S32)) (o32_mkF _ _ _ (⟨a1_0,a1_1,a1_2,t2⟩:S32) (Kd.R_N (Kd.R_mono (ok':=(λk_=>((λk_=>(P0_ k_\/w.heap.size<=k_)/\k_≠g0)) k_/\k_≠go9)) (Kd.R_types (Kd.R_apart' (O2.out) (Kd.N_typed O1.out) mAE) B0.out mAE) (λk_ hk=>⟨⟨(.inr (hk.1.1)),hk.2⟩,λe_=>(hk.1.2) (by rw[e_];rfl)⟩)))) (λ_ hk=>hk);have h4:=hcc21 0 _ rfl;(try simp only[show(o32 w.heap.size).sz =4 from rfl,Nat.mul_one,Nat.add_zero]at h4);have hf21_0:=hfr21 0;(try simp only[show(o32 w.heap.size).sz =4 from rfl,Nat.mul_one,Nat.add_zero]at hf21_0);have h5:=hcc21 1 _ rfl;(try simp only[show(o32 w.heap.size).sz =4 from rfl,Nat.mul_one,Nat.add_zero]at h5);have hf21_1:=hfr21 1;(try simp only[show(o32 w.heap.size).sz =4 from rfl,Nat.mul_one,Nat.add_zero]at hf21_1);have h6:=hcc21 2 _ rfl;(try simp only[show(o32 w.heap.size).sz =4 from rfl,Nat.mul_one,Nat.add_zero]at h6);have hf21_2:=hfr21 2;(try simp only[show(o32 w.heap.size).sz =4 from rfl,Nat.mul_one,Nat.add_zero]at hf21_2);have h7:=hcc21 3 _ rfl;(try simp only[show(o32 w.heap.size).sz =4 from rfl,Nat.mul_one,Nat.add_zero]at h7);have hf21_3:=hfr21 3;(try simp only[show(o32 w.heap.size).sz =4 from rfl,Nat.mul_one,Nat.add_zero]at hf21_3);clear hcl21 hcc21 hfr21 hM21)|((with_reducible refine gate_store (t:=32) (p:=28) rfl ?_);refine stV (t:=32) (p:=28) (w1:=((((w5.setCell ⟨go9,(t3:Int).toNat *4,none⟩ (.int .i64 a1_0)).setCell ⟨go9,(t3:Int).toNat *4+1,none⟩ (.int .i64 a1_1)).setCell ⟨go9,(t3:Int).toNat *4+2,none⟩ (.int .i64 a1_2)).setCell ⟨go9,(t3:Int).toNat *4+3,none⟩ (.slice s0 t2.length s1))) (h:=?_);intro w7 hw;have hg:w5.grownBy w7 (some go9):=(by rw[hw];exact HP21.2);have hp_:Kd.N (o32 w.heap.size) 32 w7 w.heap.size (λk_=>(P0_ k_\/w.heap.size<=k_)/\k_≠g0) (.slice (some ⟨go9,0,none⟩) t1.length s6) y1:=(by rw[hw,Y3.out];exact HP21.1);clear HP21;replace O0:=Aside0.mk (Kd.V_afterv (v:=(.slice (some ⟨go9,0,none⟩) t1.length s6)) (v1:=(.slice (some ⟨go9,0,none⟩) t1.length s6)) (ok:=(λk_=>(P0_ k_\/w.heap.size<=k_)/\some k_≠(.slice s0 t2.length s1:Value).ownBlock /\k_≠g0)) mCN hg (.inl rfl));replace B0:=Aside0.mk (blk_grown (g:=g0) (o:= .cells #[.int .i64 a1_0,.int .i64 a1_1,.int .i64 a1_2,.slice s0 t2.length s1] 32 (0,0)) mC hg (Kd.N_away O1.out (λ_ hk=>hk.2.2)));replace O1:=Aside0.mk (hp_);replace HB:=Aside0.mk ((mDK:Below w.heap.size w w7));clear O2;clear hg hw hp_))
    go_ret;exact⟨_,by first|rfl|(simp[errW_none,errW_some] <;> rfl)|(simp[*,errW_none,errW_some] <;> rfl),by(with_reducible repeat (first|apply Kd.N_alloc|apply Kd.N_drewN|apply Kd.N_drew));exact Kd.N_mono O1.out (λ_ hk=>hk.1),by repeat (first|(with_reducible first|exact HB.out|apply below_alloc|apply pw_below_drewN|apply below_drew1|refine below_set ?_ G1.out)|exact HB.out)⟩
   ·rw[if_neg ck]at H
    exact absurd H mAY
  ·rw[if_neg ci]at H
   exact absurd H mAY
end Go.Proofs.Ytbpoflicphgokaa.Q18
namespace Go.Proofs.Ytbpoflicphgokaa.Q18
open Go.RowKit Go.Proofs.Ytbpoflicphgokaa.Stp Go.Proofs.YtbpoflicphgokaaW.PrintWords Go.Proofs.YtbpoflicphgokaaW.PrintLast Go.Proofs.YtbpoflicphgokaaW.PrintMore
attribute [local go_sem] max2_int min2_int max_two min_two max_three min_three max_four min_four
set_option linter.unusedVariables false
set_option linter.unusedSimpArgs false
mutual
def store_With.j0:Nat->List (S32)->Bool->Int->Int->Int->List (S56)->Option ((List (S32)) × Bool × Int)
 |0,_,_,_,_,_,_=>none
 |k+1,x0,x18,x217000,x217001,x217002,x217003=>if x18=true then(some (([]:List (S32)),false,1800))else((store_Copy.f k x0).bind λt219=>((store_at.f k t219 x217000).bind λbt222=>(if bt222.2=true then(if 0<=bt222.1 then(if bt222.1<(t219.length:Int)then((store_Newer.f k x217000 x217001 x217002 x217003 ((rd_T32 t219 bt222.1).f0) ((rd_T32 t219 bt222.1).f1) ((rd_T32 t219 bt222.1).f2) ((rd_T32 t219 bt222.1).f3)).bind λt225=>(store_With.j1 k t219 bt222.1 (x217002==60) (!t225) x217000 x217001 x217002 x217003))else(none))else(none))else(if x217002=60 then(store_With.j1 k t219 bt222.1 (x217002==60) true x217000 x217001 x217002 x217003)else(store_With.j1 k t219 bt222.1 (x217002==60) false x217000 x217001 x217002 x217003)))))
def store_With.j1:Nat->List (S32)->Int->Bool->Bool->Int->Int->Int->List (S56)->Option ((List (S32)) × Bool × Int)
 |0,_,_,_,_,_,_,_,_=>none
 |k+1,x7,x8,x10,x31,x217000,x217001,x217002,x217003=>if x31=true then(some (x7,false,0))else(if x10=true then((api_Lsa_31.f x7 x8 (wrap64 (x8+1))).bind λt226=>(some (t226,true,0)))else((store_Put.f x7 x217000 x217001 x217002 x217003).bind λt229=>(some (t229,true,0))))
end
def store_With.f (k:Nat) (l0:List (S32)) (a1_0:Int) (a1_1:Int) (a1_2:Int) (l1_3:List (S56)):Option ((List (S32)) × Bool × Int):=(store_May.f k l0).bind λt217=>(if t217=true then((lsa_May.f k a1_0 a1_1 a1_2 l1_3).bind λt218=>(store_With.j0 k l0 (!t218) a1_0 a1_1 a1_2 l1_3))else(store_With.j0 k l0 true a1_0 a1_1 a1_2 l1_3))
theorem store_With.mono_l:∀k,(∀y0 y1 y2 y3 y4 y5,LeO (store_With.j0 k y0 y1 y2 y3 y4 y5) (store_With.j0 (k+1) y0 y1 y2 y3 y4 y5))/\(∀y0 y1 y2 y3 y4 y5 y6 y7,LeO (store_With.j1 k y0 y1 y2 y3 y4 y5 y6 y7) (store_With.j1 (k+1) y0 y1 y2 y3 y4 y5 y6 y7))
 |0=>⟨λ_ _ _ _ _ _ r h=>by simp[store_With.j0]at h,λ_ _ _ _ _ _ _ _ r h=>by simp[store_With.j1]at h⟩
 |k+1=>by
  obtain⟨ih0,ih1⟩:=store_With.mono_l k;refine⟨?_,?_⟩
  ·intro y0 y1 y2 y3 y4 y5
   unfold store_With.j0
   repeat' (with_reducible first|exact ih0 _ _ _ _ _ _|exact ih1 _ _ _ _ _ _ _ _|exact lsa_May.mono _ _ _ _ _|exact store_Copy.mono _ _|exact store_May.mono _ _|exact store_Newer.mono _ _ _ _ _ _ _ _ _|exact store_at.mono _ _ _|exact LeO.refl _|exact LeO.none _|refine LeO.ite ?_ ?_ |refine LeO.bind ?_ (λ_=>?_))
  ·intro y0 y1 y2 y3 y4 y5 y6 y7
   unfold store_With.j1
   repeat' (with_reducible first|exact ih0 _ _ _ _ _ _|exact ih1 _ _ _ _ _ _ _ _|exact lsa_May.mono _ _ _ _ _|exact store_Copy.mono _ _|exact store_May.mono _ _|exact store_Newer.mono _ _ _ _ _ _ _ _ _|exact store_at.mono _ _ _|exact LeO.refl _|exact LeO.none _|refine LeO.ite ?_ ?_ |refine LeO.bind ?_ (λ_=>?_))
theorem store_With.mono:∀a0 a1 a2 a3 a4 k,LeO (store_With.f k a0 a1 a2 a3 a4) (store_With.f (k+1) a0 a1 a2 a3 a4):=by
 intro a0 a1 a2 a3 a4 k;obtain⟨ih0,ih1⟩:=store_With.mono_l k;unfold store_With.f
 repeat' (with_reducible first|exact ih0 _ _ _ _ _ _|exact ih1 _ _ _ _ _ _ _ _|exact lsa_May.mono _ _ _ _ _|exact store_Copy.mono _ _|exact store_May.mono _ _|exact store_Newer.mono _ _ _ _ _ _ _ _ _|exact store_at.mono _ _ _|exact LeO.refl _|exact LeO.none _|refine LeO.ite ?_ ?_ |refine LeO.bind ?_ (λ_=>?_))
def store_With.T6:Bool × List (List Nat × List Nat):=(true,[([],[]),([0],[0]),([1],[1]),([2],[2]),([2,3],[2,3]),([4,2],[4]),([5],[5]),([6,5,5],[5,6]),([7],[7]),([7],[7]),([7],[7]),([9,10,7],[7,9,10]),([11,7],[7,11]),([8,12,7,7],[7,8,12]),([13,7],[7,13]),([7,14,5],[5,7,14]),([5,15],[5,15]),([16,13],[16])])
def store_With.B6:List Nat:=[0,1,3,7,15,31,63,127,255,255,255,1791,3839,8191,16383,32767,65535,131071]
theorem store_With.tab6:rtab .any (opsOf Try.f10 6)=store_With.T6:=by kernel_rfl
theorem store_With.bits6:waitsOk store_With.T6.2 store_With.B6=true:=by kernel_rfl
set_option maxHeartbeats 8000000 in
set_option maxRecDepth 100000 in
theorem store_With.callsO (k:Nat) (P0_:Nat->Prop) (A0:Option Addr) (c0:Nat) (l0:List (S32)) (a1_0:Int) (a1_1:Int) (a1_2:Int) (A1_3:Option Addr) (c1_3:Nat) (l1_3:List (S56)) (r1:List (S32)) (r2:Bool) (r3:Int) (w:World) (hs0:Kd.V k32 32 w w.heap.size (λk_=>P0_ k_) (.slice A0 l0.length c0) l0) (hr1_3:Kd.C k56 w A1_3 l1_3.length l1_3) (hc1_3:l1_3.length<=c1_3) (h:store_With.f k l0 a1_0 a1_1 a1_2 l1_3=some (r1,r2,r3)):
  Calls Try.prog 10 #[.slice A0 l0.length c0,.agg #[.int .i64 a1_0,.int .i64 a1_1,.int .i64 a1_2,.slice A1_3 l1_3.length c1_3]] w λe w'=>∃v0_:Value,e= .returned (.tuple #[v0_,.bool r2,.int .i64 r3])/\Kd.N (o32 w.heap.size) 32 w' w.heap.size (λk_=>(P0_ k_\/w.heap.size<=k_)) v0_ r1/\Below w.heap.size w w':=by
 have hu32:=Try.underlying32;have O0:=Aside0.mk (show Kd.V k32 32 w w.heap.size (λk_=>(P0_ k_\/w.heap.size<=k_)) (.slice A0 l0.length c0) l0 from Kd.V_mono hs0 (λk_ hk=> .inl hk));have R0:=Aside0.mk hr1_3;have K0:=Aside0.mk hc1_3;clear hr1_3 hc1_3;have HB:=Aside0.mk (Below.refl w.heap.size w);have H:((store_May.f k l0).bind λt0=>(if t0=true then((lsa_May.f k a1_0 a1_1 a1_2 l1_3).bind λt1=>(store_With.j0 k l0 (!t1) a1_0 a1_1 a1_2 l1_3))else(store_With.j0 k l0 true a1_0 a1_1 a1_2 l1_3)))=some (r1,r2,r3):=h;clear h;have K1:=Aside0.mk H;clear H
 go_enter Try.func10,Try.ntmps10
 go_upto_region 1 with(first|((with_reducible refine gate_dst (N:=3) rfl ?_);refine bxV (N:=3) (cs:=#[.int .i64 a1_0,.int .i64 a1_1,.int .i64 a1_2,.slice A1_3 l1_3.length c1_3]) (t:=32) (h:=?_);intro g0 hg w4 hbox hb;replace O0:=Aside0.mk (Kd.V_below (Kd.V_elderB mAC g0 (Nat.le_of_eq hg.symm)) hb);have B0:=Aside0.mk (hbox);have G0:=Aside0.mk ((mH:w.heap.size<=g0));have G1:=Aside0.mk ((mH:w.heap.size<=g0));replace HB:=Aside0.mk (below_step mA hb);clear hb hbox hg))
 (try simp only[Act.put,List.setIfInBounds_toArray,List.set_cons_zero,List.set_cons_succ])
 go_cut [18] (λv18 wc=>∃(kq:Nat) (x1:Bool),v18= .bool x1/\Aside0 (store_With.j0 kq l0 x1 a1_0 a1_1 a1_2 l1_3=some (r1,r2,r3))/\Aside0 (kq<=k)/\Aside0 (Kd.V k32 32 wc w.heap.size (λk_=>(P0_ k_\/w.heap.size<=k_)/\k_≠g0) (.slice A0 l0.length c0) l0)/\Aside0 (wc.heap[g0]? =some (.cells #[.int .i64 a1_0,.int .i64 a1_1,.int .i64 a1_2,(.slice A1_3 l1_3.length c1_3)] 32 (0,0)))/\Aside0 (Below w.heap.size w wc))
 case first=>
  have H:=K1.out;clear K1;obtain⟨t0,A1,H⟩:=bsE H;(try dsimp only at H);have A5:=Aside0.mk A1;clear A1
  by_cases c6:t0=true
  ·subst c6
   rw[if_pos rfl]at H;obtain⟨t1,A3,H⟩:=bsE H;(try dsimp only at H);have A7:=Aside0.mk A3;clear A3;have H':=Aside0.mk H;clear H
   go_wp2_with (first|((with_reducible refine gate_callee (f:=13) rfl ?_);refine cLV (some 12) Try.func13 #[.slice A0 l0.length c0] (h:=?_);(with_reducible refine(store_May.calls k _ _ l0 true _ ?side1 ?side2 A5.out).mono ?_);(case side1=>repeat (first|exact(Kd.V_reads' O0.out).2.2 |(with_reducible refine Kd.C_alloc ?_ _)|(with_reducible refine Kd.C_drewN ?_ _)|(with_reducible refine Kd.C_drew ?_)));(case side2=>exact(Kd.V_reads' O0.out).2.1);rintro e w8 ⟨rfl,hb⟩;refine⟨_,rfl,?_⟩;replace O0:=Aside0.mk (Kd.V_below mAC hb);replace B0:=Aside0.mk (blk_below mC hb);replace HB:=Aside0.mk (below_step mB hb);(try clear hb);obtain⟨z0,z1,z2,z3⟩:=bc4 B0.out;have z4:=blk_frozen B0.out)|(go_at_call 27;(with_reducible refine(lsa_May.calls k a1_0 a1_1 a1_2 _ _ l1_3 t1 _ ?side1 ?side2 A7.out).mono ?_);(case side1=>repeat (first|exact(Kd.C_below R0.out HB.out)|(with_reducible refine Kd.C_alloc ?_ _)|(with_reducible refine Kd.C_drewN ?_ _)|(with_reducible refine Kd.C_drew ?_)));(case side2=>exact K0.out);rintro e w2 ⟨rfl,hb⟩;replace O0:=Aside0.mk (Kd.V_below mAC hb);replace B0:=Aside0.mk (blk_below mC hb);replace HB:=Aside0.mk (below_step mB hb);(try clear hb);(try clear hb2);(try clear hk);(try clear hi)))
   go_meet
   case rel=>exact⟨_,(!t1),mJ,H',⟨by first|omega|exact Nat.le_refl _⟩,⟨by(with_reducible repeat (first|apply Kd.V_alloc|apply Kd.V_drewN|apply Kd.V_drew));exact O0.out⟩,⟨by(with_reducible repeat (first|refine blk_drewN ?_ _|refine blk_drew ?_ |refine blk_alloc ?_ _));exact B0.out⟩,⟨by repeat (first|(with_reducible first|exact HB.out|apply below_alloc|apply pw_below_drewN|apply below_drew1|refine below_set ?_ G1.out)|exact HB.out)⟩⟩
  ·replace c6:=Bool.eq_false_iff.mpr c6
   subst c6;rw[if_neg (show ¬(false=true)by decide)]at H;have H':=Aside0.mk H;clear H
   go_wp2_with (first|((with_reducible refine gate_callee (f:=13) rfl ?_);refine cLV (some 12) Try.func13 #[.slice A0 l0.length c0] (h:=?_);(with_reducible refine(store_May.calls k _ _ l0 false _ ?side1 ?side2 A5.out).mono ?_);(case side1=>repeat (first|exact(Kd.V_reads' O0.out).2.2 |(with_reducible refine Kd.C_alloc ?_ _)|(with_reducible refine Kd.C_drewN ?_ _)|(with_reducible refine Kd.C_drew ?_)));(case side2=>exact(Kd.V_reads' O0.out).2.1);rintro e w3 ⟨rfl,hb⟩;refine⟨_,rfl,?_⟩;replace O0:=Aside0.mk (Kd.V_below mAC hb);replace B0:=Aside0.mk (blk_below mC hb);replace HB:=Aside0.mk (below_step mB hb);(try clear hb)))
   go_meet
   case rel=>exact⟨_,(true),mJ,H',⟨by first|omega|exact Nat.le_refl _⟩,⟨by(with_reducible repeat (first|apply Kd.V_alloc|apply Kd.V_drewN|apply Kd.V_drew));exact O0.out⟩,⟨by(with_reducible repeat (first|refine blk_drewN ?_ _|refine blk_drew ?_ |refine blk_alloc ?_ _));exact B0.out⟩,⟨by repeat (first|(with_reducible first|exact HB.out|apply below_alloc|apply pw_below_drewN|apply below_drew1|refine below_set ?_ G1.out)|exact HB.out)⟩⟩
 case rest=>
  clear K1;(try clear c1);(try clear p2);(try clear c6);(try clear c10);(try clear z0);(try clear z1);(try clear z2);(try clear z3);(try clear z4);(try clear hfz9_1);(try clear hfz9_2);(try clear hfz9_3);obtain⟨kq,x1,rfl,HA,HJ2,O1,B0,HB⟩:=hcut;cases kq with
  |zero=>exact absurd HA.out (by simp[store_With.j0])
  |succ j2=>
   have H:=HA.out;clear HA;simp only[store_With.j0]at H
   by_cases ca:x1=true
   ·subst ca
    rw[if_pos rfl]at H;simp only[Option.some.injEq,Prod.mk.injEq]at H;obtain⟨rfl,rfl,rfl⟩:=H;go_wp2
    go_ret3
    exact⟨_,by first|rfl|(simp[errW_none,errW_some] <;> rfl)|(simp[*,errW_none,errW_some] <;> rfl),by first|exact Kd.S_nil _ _ _ _ _|exact Kd.N_nil _ _ _ _ _|exact Kd.V_nil _ _ _ _ _|exact Kd.Q_nil _ _ _ _ _|exact Kd.R_nil _ _ _ _ _,by repeat (first|(with_reducible first|exact HB.out|apply below_alloc|apply pw_below_drewN|apply below_drew1|refine below_set ?_ G1.out)|exact HB.out)⟩
   ·replace ca:=Bool.eq_false_iff.mpr ca
    subst ca;rw[if_neg (show ¬(false=true)by decide)]at H;obtain⟨t2,A9,H⟩:=bsE H;(try dsimp only at H);have Aa:=Aside0.mk A9;clear A9;obtain⟨⟨t3,t4⟩,Ab,H⟩:=bsE H;(try dsimp only at H);have Ac:=Aside0.mk Ab;clear Ab;have K2:=Aside0.mk H;clear H
    go_upto_region 6 with(first|((with_reducible refine gate_callee (f:=28) rfl ?_);refine cLV (some 20) Try.func28 #[.slice A0 l0.length c0] (h:=?_);(with_reducible refine(store_Copy.calls j2 (λk_=>((P0_ k_\/w.heap.size<=k_)/\k_≠g0)) _ _ l0 t2 _ ?side1 Aa.out).mono ?_);(case side1=>exact O1.out);rintro e w5 ⟨v220,rfl,ho0,hb⟩;refine⟨_,rfl,?_⟩;replace O1:=Aside0.mk (Kd.V_elder' mCG (Kd.N_base ho0) hb);have O2:=Aside0.mk (Kd.own_lower (Kd.N_lower (Kd.N_mono (ok':=λk_=>(P0_ k_\/w.heap.size<=k_)/\k_≠g0) ho0 (λk_ hk_=>⟨Or.elim hk_ (λhs_=>hs_.1) (λhn_=>(.inr (Nat.le_trans (below_size mB) hn_))),Or.elim hk_ (λhs_=>hs_.2) (λhn_=>(Kd.freshB (g:=g0) (o:= .cells #[.int .i64 a1_0,.int .i64 a1_1,.int .i64 a1_2,.slice A1_3 l1_3.length c1_3] 32 (0,0)) mC k_ hn_))⟩)) (below_size mB)) (below_size mB));replace B0:=Aside0.mk (blk_below mC hb);replace HB:=Aside0.mk (below_step mB hb);(try clear hb);(try clear ho0);obtain⟨z5,z6,z7,z8⟩:=bc4 B0.out;have z9:=blk_frozen B0.out;obtain⟨s8,s9,sa⟩:=Kd.N_slice O2.out;subst sa)|((with_reducible refine gate_callee (f:=29) rfl ?_);refine cLV (some 25) Try.func29 #[.slice s8 t2.length s9,.int .i64 a1_0] (h:=?_);(with_reducible refine(store_at.calls j2 _ _ t2 a1_0 t3 t4 _ ?side1 ?side2 Ac.out).mono ?_);(case side1=>repeat (first|exact(Kd.N_reads' (Kd.own_N O2.out)).2.2 |(with_reducible refine Kd.C_alloc ?_ _)|(with_reducible refine Kd.C_drewN ?_ _)|(with_reducible refine Kd.C_drew ?_)));(case side2=>exact(Kd.N_reads' O2.out).2.1);rintro e w6 ⟨rfl,hb⟩;refine⟨_,rfl,?_⟩;replace O1:=Aside0.mk (Kd.V_below mCG hb);replace O2:=Aside0.mk (Kd.N_below mL hb);replace B0:=Aside0.mk (blk_below mC hb);replace HB:=Aside0.mk (below_step mB hb);(try clear hb);obtain⟨za,zb,zc,zd⟩:=bc4 B0.out;have ze:=blk_frozen B0.out))
    (try simp only[Act.put,List.setIfInBounds_toArray,List.set_cons_zero,List.set_cons_succ])
    go_cut [31] (λv31 wc=>∃(kq:Nat) (x2:Bool),v31= .bool x2/\Aside0 (store_With.j1 kq t2 t3 (a1_2==60) x2 a1_0 a1_1 a1_2 l1_3=some (r1,r2,r3))/\Aside0 (kq<=j2)/\Aside0 (Kd.N (o32 w.heap.size) 32 wc w.heap.size (λk_=>(P0_ k_\/w.heap.size<=k_)/\k_≠g0) (.slice s8 t2.length s9) t2)/\Aside0 (wc.heap[g0]? =some (.cells #[.int .i64 a1_0,.int .i64 a1_1,.int .i64 a1_2,(.slice A1_3 l1_3.length c1_3)] 32 (0,0)))/\Aside0 (Below w.heap.size w wc))
    case first=>
     have H:=K2.out;clear K2
     by_cases cb:t4=true
     ·subst cb
      rw[if_pos rfl]at H
      by_cases cc:0<=t3
      ·rw[if_pos cc]at H
       have cd:=decide_eq_true cc;clear cc
       (first|rw[cd]|(simp only[i64_w,i32_w];rw[cd])|skip)
       by_cases ce:t3<(t2.length:Int)
       ·rw[if_pos ce]at H
        have cf:=decide_eq_true ce;clear ce;obtain⟨t5,Ad,H⟩:=bsE H;(try dsimp only at H);have Ae:=Aside0.mk Ad;clear Ad;have H':=Aside0.mk H;clear H;(try go_wp2);replace O1:=Aside0.mk (Kd.V_drew O1.out);replace O2:=Aside0.mk (Kd.N_drew O2.out);replace B0:=Aside0.mk (blk_drew B0.out);replace HB:=Aside0.mk (below_drew1 HB.out);have p0:0<=(t3:Int):=of_decide_eq_true mF;have q0:t3<(t2.length:Int):=of_decide_eq_true mF;obtain⟨d0,Af,sb,e0,h0,h1,h2,h3,i0,i1⟩:=at_T32 (Kd.N_reads' (Kd.own_N O2.out)).2.2 t3 p0 q0;cases e0;obtain⟨ce224,hce224,hMe224,hcc224⟩:=Kd.N_get O2.out z32 t3 p0 mDP;obtain⟨ua224_3,uc224_3,rfl,ul224_3,ge224_3⟩:=k32_openF (Kd.own_FK hMe224);have hv224_3:=hcc224 3 _ rfl;rw[add_field _ _ 3 mBX]at hv224_3;replace hv224_3:=Option.some.inj (hv224_3.symm.trans h3)
        injection hv224_3 with hva_ hvn_ hvc_
        rw[hva_]at ge224_3;rw[hvc_]at ul224_3;have HL224_3:=Aside0.mk (show Kd.V k56 56 _ w.heap.size _ _ ((rd_T32 t2 t3).f3)from Kd.V_mk ul224_3 ge224_3);clear hva_ hvn_ hvc_ ge224_3 ul224_3;clear hcc224 hce224;have R1:=Aside0.mk i1;have K3:=Aside0.mk i0;clear i1 i0;replace p0:=eq_true p0;replace q0:=eq_true q0;refine start_ (n:=18) (S:=λw'=>w'.cell? ⟨g0,0,none⟩=some (.int .i64 a1_0)/\w'.cell? ⟨g0,1,none⟩=some (.int .i64 a1_1)/\w'.cell? ⟨g0,2,none⟩=some (.int .i64 a1_2)/\w'.cell? ⟨g0,3,none⟩=some (.slice A1_3 l1_3.length c1_3)/\w'.cell? (d0.add ((t3).toNat *4))=some (.int .i64 ((rd_T32 t2 t3).f0))/\w'.cell? ⟨(d0.add ((t3).toNat *4)).block,(d0.add ((t3).toNat *4)).off +1,none⟩=some (.int .i64 ((rd_T32 t2 t3).f1))/\w'.cell? ⟨(d0.add ((t3).toNat *4)).block,(d0.add ((t3).toNat *4)).off +2,none⟩=some (.int .i64 ((rd_T32 t2 t3).f2))/\w'.cell? ⟨(d0.add ((t3).toNat *4)).block,(d0.add ((t3).toNat *4)).off +3,none⟩=some (.slice Af ((rd_T32 t2 t3).f3).length sb)) (ds:=[]) mk_18_0 mAI rfl rfl ⟨(blk_cell B0.out 0).trans rfl,(blk_cell B0.out 1).trans rfl,(blk_cell B0.out 2).trans rfl,(blk_cell B0.out 3).trans rfl,h0,h1,h2,h3⟩ (λhHeld=>?_);refine with_tabW store_With.tab6 store_With.bits6 (λHT_ HW_=>?_);generalize w6.drew=w7 at O1 O2 B0 HB HL224_3 R1 h0 h1 h2 h3 hHeld |-;refine pV 0 32 mk_18_1 ?_;refine pV 1 33 mk_18_2 ?_;refine pV 2 34 mk_18_3 ?_;refine pU 3 35 mk_18_4 ?_;refine pV 4 36 mk_18_5 ?_;refine pV 5 37 mk_18_6 ?_;refine pV 6 38 mk_18_7 ?_;refine pV 7 39 mk_18_8 ?_;refine pV 9 41 #[true,true,true,true,true,true,true,true,false,true,false,false,false,false,false,false,false,false] ?_;refine pV 10 42 #[true,true,true,true,true,true,true,true,false,true,true,false,false,false,false,false,false,false] ?_;refine pV 11 43 #[true,true,true,true,true,true,true,true,false,true,true,true,false,false,false,false,false,false] ?_;refine tV 8 (some 40) mk_18_12 (hy:=Or.inl ⟨by rfl,by rintro w' ⟨s0,s1,s2,s3,s4,s5,s6,s7⟩;go_simp;with_reducible rfl⟩) (h:=?_);refine tV 12 (some 44) mk_18_13 (hy:=Or.inl ⟨by rfl,by rintro w' ⟨s0,s1,s2,s3,s4,s5,s6,s7⟩;go_simp;with_reducible rfl⟩) (h:=?_);refine oV 13 (some 45) mk_18_14 (h:=λK hK=>?_);refine gV Try.func30 #[.agg #[.int .i64 a1_0,.int .i64 a1_1,.int .i64 a1_2,.slice A1_3 l1_3.length c1_3],.agg #[.int .i64 ((rd_T32 t2 t3).f0),.int .i64 ((rd_T32 t2 t3).f1),.int .i64 ((rd_T32 t2 t3).f2),.slice Af ((rd_T32 t2 t3).f3).length sb]] (h:=?_)
        with_reducible refine(store_Newer.calls j2 a1_0 a1_1 a1_2 _ _ l1_3 ((rd_T32 t2 t3).f0) ((rd_T32 t2 t3).f1) ((rd_T32 t2 t3).f2) _ _ ((rd_T32 t2 t3).f3) t5 _ ?side1 ?side2 ?side3 ?side4 Ae.out).mono ?_
        (case side1=>repeat (first|exact(Kd.C_below R0.out HB.out)|(with_reducible refine Kd.C_alloc ?_ _)|(with_reducible refine Kd.C_drewN ?_ _)|(with_reducible refine Kd.C_drew ?_)))
        (case side2=>exact K0.out)
        (case side3=>repeat (first|exact mCL|(with_reducible refine Kd.C_alloc ?_ _)|(with_reducible refine Kd.C_drewN ?_ _)|(with_reducible refine Kd.C_drew ?_)))
        (case side4=>exact K3.out)
        rintro e w9 ⟨rfl,hb⟩;have HS4_:=(hb.cell (World.block_lt_of_cell? _ _ (hHeld.2.2.2.2.1))).trans (hHeld.2.2.2.2.1);have HS5_:=(hb.cell (World.block_lt_of_cell? _ _ (hHeld.2.2.2.2.2.1))).trans (hHeld.2.2.2.2.2.1);have HS6_:=(hb.cell (World.block_lt_of_cell? _ _ (hHeld.2.2.2.2.2.2.1))).trans (hHeld.2.2.2.2.2.2.1);have HS7_:=(hb.cell (World.block_lt_of_cell? _ _ (hHeld.2.2.2.2.2.2.2))).trans (hHeld.2.2.2.2.2.2.2);refine⟨_,rfl,?_⟩;replace O1:=Aside0.mk (Kd.V_below mCG hb);replace O2:=Aside0.mk (Kd.N_below mL hb);replace HL224_3:=Aside0.mk (Kd.V_below (by(with_reducible repeat (first|apply Kd.V_alloc|apply Kd.V_drewN|apply Kd.V_drew));exact HL224_3.out) hb);replace B0:=Aside0.mk (blk_below mC hb);replace R1:=Aside0.mk (Kd.C_below mCL hb);replace HB:=Aside0.mk (below_step mB hb);(try clear hb);(try clear hb2);(try clear hk);(try clear hi);refine hK.out _ _ ⟨(blk_cell B0.out 0).trans rfl,(blk_cell B0.out 1).trans rfl,(blk_cell B0.out 2).trans rfl,(blk_cell B0.out 3).trans rfl,HS4_,HS5_,HS6_,HS7_⟩ (λhHeld=>?_);clear hK K;refine nV 45 (h:=?_);refine pV 14 46 mk_18_15 ?_;refine pV 15 47 mk_18_16 ?_;refine pV 16 48 mk_18_17 ?_;refine pV 17 31 mk_18_18 ?_;refine done_ (done_of HT_.out mAI) ?_;(try go_wp2);go_meet
        case rel=>exact⟨_,(!t5),mJ,H',⟨by have:=HJ2.out;first|omega|exact Nat.le_refl _⟩,⟨by(with_reducible repeat (first|apply Kd.N_alloc|apply Kd.N_drewN|apply Kd.N_drew));exact O2.out⟩,⟨by(with_reducible repeat (first|refine blk_drewN ?_ _|refine blk_drew ?_ |refine blk_alloc ?_ _));exact B0.out⟩,⟨by repeat (first|(with_reducible first|exact HB.out|apply below_alloc|apply pw_below_drewN|apply below_drew1|refine below_set ?_ G1.out)|exact HB.out)⟩⟩
       ·rw[if_neg ce]at H
        exact absurd H mAY
      ·rw[if_neg cc]at H
       exact absurd H mAY
     ·replace cb:=Bool.eq_false_iff.mpr cb
      subst cb;rw[if_neg (show ¬(false=true)by decide)]at H
      by_cases cg:a1_2=60
      ·rw[if_pos cg]at H
       have ch:=beq_iff_eq.mpr cg;have ci:=bne_eq_false_iff_eq.mpr cg;clear cg;have H':=Aside0.mk H;clear H;(try go_wp2);replace O1:=Aside0.mk (Kd.V_drew O1.out);replace O2:=Aside0.mk (Kd.N_drew O2.out);replace B0:=Aside0.mk (blk_drew B0.out);replace HB:=Aside0.mk (below_drew1 HB.out);refine start_ (n:=18) (S:=λw'=>True) (ds:=[]) mk_18_0 mAI rfl rfl trivial (λhHeld=>?_);refine with_tabW store_With.tab6 store_With.bits6 (λHT_ HW_=>?_);generalize w6.drew=wa at O1 O2 B0 HB hHeld |-;refine pV 0 32 mk_18_1 ?_;refine pV 1 33 mk_18_2 ?_;refine pV 2 34 mk_18_3 ?_;refine pV 3 35 mk_18_4 ?_;refine pV 4 36 mk_18_5 ?_;refine pV 5 37 mk_18_6 ?_;refine pU 6 38 mk_18_7 ?_;refine pU 7 39 mk_18_8 ?_;refine pU 8 40 mk_18_9 ?_;refine pU 9 41 mk_18_10 ?_;refine pU 10 42 mk_18_11 ?_;refine pU 11 43 mk_18_12 ?_;refine pU 12 44 mk_18_13 ?_;refine pU 13 45 mk_18_14 ?_;refine pU 14 46 mk_18_15 ?_;refine pU 15 47 mk_18_16 ?_;refine pV 16 48 mk_18_17 ?_;refine pV 17 31 mk_18_18 ?_;refine done_ (done_of HT_.out mAI) ?_;(try go_wp2);go_meet
       case rel=>exact⟨_,(true),mJ,H',⟨by have:=HJ2.out;first|omega|exact Nat.le_refl _⟩,⟨by(with_reducible repeat (first|apply Kd.N_alloc|apply Kd.N_drewN|apply Kd.N_drew));exact O2.out⟩,⟨by(with_reducible repeat (first|refine blk_drewN ?_ _|refine blk_drew ?_ |refine blk_alloc ?_ _));exact B0.out⟩,⟨by repeat (first|(with_reducible first|exact HB.out|apply below_alloc|apply pw_below_drewN|apply below_drew1|refine below_set ?_ G1.out)|exact HB.out)⟩⟩
      ·rw[if_neg cg]at H
       have ch:=beq_eq_false_iff_ne.mpr cg;have ci:=bne_iff_ne.mpr cg;have H':=Aside0.mk H;clear H;(try go_wp2);replace O1:=Aside0.mk (Kd.V_drew O1.out);replace O2:=Aside0.mk (Kd.N_drew O2.out);replace B0:=Aside0.mk (blk_drew B0.out);replace HB:=Aside0.mk (below_drew1 HB.out);refine start_ (n:=18) (S:=λw'=>True) (ds:=[]) mk_18_0 mAI rfl rfl trivial (λhHeld=>?_);refine with_tabW store_With.tab6 store_With.bits6 (λHT_ HW_=>?_);generalize w6.drew=wb at O1 O2 B0 HB hHeld |-;refine pV 0 32 mk_18_1 ?_;refine pV 1 33 mk_18_2 ?_;refine pV 2 34 mk_18_3 ?_;refine pV 3 35 mk_18_4 ?_;refine pV 4 36 mk_18_5 ?_;refine pV 5 37 mk_18_6 ?_;refine pV 6 38 mk_18_7 ?_;refine pV 7 39 mk_18_8 ?_;refine pU 8 40 mk_18_9 ?_;refine pU 9 41 mk_18_10 ?_;refine pU 10 42 mk_18_11 ?_;refine pU 11 43 mk_18_12 ?_;refine pU 12 44 mk_18_13 ?_;refine pU 13 45 mk_18_14 ?_;refine pU 14 46 mk_18_15 ?_;refine pV 15 47 mk_18_16 ?_;refine pV 16 48 mk_18_17 ?_;refine pV 17 31 mk_18_18 ?_;refine done_ (done_of HT_.out mAI) ?_;(try go_wp2);go_meet
       case rel=>exact⟨_,(false),mJ,H',⟨by have:=HJ2.out;first|omega|exact Nat.le_refl _⟩,⟨by(with_reducible repeat (first|apply Kd.N_alloc|apply Kd.N_drewN|apply Kd.N_drew));exact O2.out⟩,⟨by(with_reducible repeat (first|refine blk_drewN ?_ _|refine blk_drew ?_ |refine blk_alloc ?_ _));exact B0.out⟩,⟨by repeat (first|(with_reducible first|exact HB.out|apply below_alloc|apply pw_below_drewN|apply below_drew1|refine below_set ?_ G1.out)|exact HB.out)⟩⟩
    case rest=>
     clear K2;(try clear c1);(try clear c2);(try clear p2);(try clear q2);(try clear hx2);(try clear c3);(try clear c6);(try clear c10);(try clear ca);(try clear c13);(try clear cb);(try clear cc);(try clear cd);(try clear p22);(try clear q22);(try clear hx22);(try clear ce);(try clear cf);(try clear cg);(try clear ch);(try clear ci);(try clear c28);(try clear c29);(try clear z5);(try clear z6);(try clear z7);(try clear z8);(try clear za);(try clear zb);(try clear zc);(try clear zd);(try clear z0);(try clear z1);(try clear z2);(try clear z3);(try clear z9);(try clear hfz17_1);(try clear hfz17_2);(try clear hfz17_3);(try clear ze);(try clear hfz20_1);(try clear hfz20_2);(try clear hfz20_3);(try clear z4);(try clear hfz9_1);(try clear hfz9_2);(try clear hfz9_3);(try clear h0);(try clear h1);(try clear h2);(try clear h3);(try clear p2);(try clear p0);(try clear q0);obtain⟨kq,x2,rfl,HA,HJ14,O3,B0,HB⟩:=hcut;cases kq with
     |zero=>exact absurd HA.out (by simp[store_With.j1])
     |succ j3=>
      have H:=HA.out;clear HA;simp only[store_With.j1]at H
      by_cases ck:x2=true
      ·subst ck
       rw[if_pos rfl]at H;simp only[Option.some.injEq,Prod.mk.injEq]at H;obtain⟨rfl,rfl,rfl⟩:=H;go_wp2
       go_ret3
       exact⟨_,by first|rfl|(simp[errW_none,errW_some] <;> rfl)|(simp[*,errW_none,errW_some] <;> rfl),by(with_reducible repeat (first|apply Kd.N_alloc|apply Kd.N_drewN|apply Kd.N_drew));exact Kd.N_mono O3.out (λ_ hk=>hk.1),by repeat (first|(with_reducible first|exact HB.out|apply below_alloc|apply pw_below_drewN|apply below_drew1|refine below_set ?_ G1.out)|exact HB.out)⟩
      ·replace ck:=Bool.eq_false_iff.mpr ck
       subst ck;rw[if_neg (show ¬(false=true)by decide)]at H
       by_cases cl:(a1_2==60)=true
       ·rw[if_pos cl]at H
        have cm:(a1_2==60)=true:=cl;(try (have cn:decide (a1_2=60)=true:=by simpa using cl));(try (have co:(a1_2==60)=true:=by simpa using cl));clear cl;obtain⟨t6,Ag,H⟩:=bsE H;(try dsimp only at H);have Ah:=Aside0.mk Ag;clear Ag;simp only[Option.some.injEq,Prod.mk.injEq]at H;obtain⟨rfl,rfl,rfl⟩:=H
        go_wp2_with (first|((with_reducible refine gate_callee (f:=31) rfl ?_);refine cLV (some 56) Try.func31 #[.slice s8 t2.length s9,.int .i64 t3,.int .i64 (wrap64 (t3+1))] (h:=?_);(with_reducible refine(api_Lsa_31.own _ (λk_=>(P0_ k_\/w.heap.size<=k_)) _ _ t2 t3 (wrap64 (t3+1)) t6 w _ HB.out (Kd.N_mono O3.out (λ_ hk=>hk.1)) Ah.out).mono ?_);rintro e wd ⟨v227,rfl,ho0,hb⟩;refine⟨_,rfl,?_⟩;clear O3;clear B0;clear HB;have O4:=Aside0.mk ho0;have HB:=Aside0.mk hb;(try clear hb);(try clear ho0)))
        go_ret3
        exact⟨_,by first|rfl|(simp[errW_none,errW_some] <;> rfl)|(simp[*,errW_none,errW_some] <;> rfl),by(with_reducible repeat (first|apply Kd.N_alloc|apply Kd.N_drewN|apply Kd.N_drew));exact O4.out,by repeat (first|(with_reducible first|exact HB.out|apply below_alloc|apply pw_below_drewN|apply below_drew1|refine below_set ?_ G1.out)|exact HB.out)⟩
       ·rw[if_neg cl]at H
        have cm:(a1_2==60)=false:=by simpa using cl
        (try (have cn:decide (a1_2=60)=false:=by simpa using cl))
        (try (have co:(a1_2==60)=false:=by simpa using cl))
        (try (have cp:¬(a1_2=60):=by simpa using cl))
        clear cl;obtain⟨t7,Ai,H⟩:=bsE H;(try dsimp only at H);have Aj:=Aside0.mk Ai;clear Ai;simp only[Option.some.injEq,Prod.mk.injEq]at H;obtain⟨rfl,rfl,rfl⟩:=H;obtain⟨zf,zg,zh,zi⟩:=bc4 B0.out;have zj:=blk_frozen B0.out
        go_wp2_with (first|((with_reducible refine gate_callee (f:=32) rfl ?_);refine cLV (some 59) Try.func32 #[.slice s8 t2.length s9,.agg #[.int .i64 a1_0,.int .i64 a1_1,.int .i64 a1_2,.slice A1_3 l1_3.length c1_3]] (h:=?_);(with_reducible refine(store_Put.own P0_ _ _ t2 a1_0 a1_1 a1_2 _ _ l1_3 t7 w _ HB.out (Kd.N_mono O3.out (λ_ hk=>hk.1)) R0.out K0.out Aj.out).mono ?_);rintro e we ⟨v230,rfl,ho0,hb⟩;refine⟨_,rfl,?_⟩;clear O3;clear B0;clear HB;have O5:=Aside0.mk ho0;have HB:=Aside0.mk hb;(try clear hb);(try clear ho0)))
        go_ret3
        exact⟨_,by first|rfl|(simp[errW_none,errW_some] <;> rfl)|(simp[*,errW_none,errW_some] <;> rfl),by(with_reducible repeat (first|apply Kd.N_alloc|apply Kd.N_drewN|apply Kd.N_drew));exact O5.out,by repeat (first|(with_reducible first|exact HB.out|apply below_alloc|apply pw_below_drewN|apply below_drew1|refine below_set ?_ G1.out)|exact HB.out)⟩
theorem store_With.calls (k:Nat) (P0_:Nat->Prop) (A0:Option Addr) (c0:Nat) (l0:List (S32)) (a1_0:Int) (a1_1:Int) (a1_2:Int) (A1_3:Option Addr) (c1_3:Nat) (l1_3:List (S56)) (r1:List (S32)) (r2:Bool) (r3:Int) (w:World) (hs0:Kd.V k32 32 w w.heap.size (λk_=>P0_ k_) (.slice A0 l0.length c0) l0) (hr1_3:Kd.C k56 w A1_3 l1_3.length l1_3) (hc1_3:l1_3.length<=c1_3) (h:store_With.f k l0 a1_0 a1_1 a1_2 l1_3=some (r1,r2,r3)):
  Calls Try.prog 10 #[.slice A0 l0.length c0,.agg #[.int .i64 a1_0,.int .i64 a1_1,.int .i64 a1_2,.slice A1_3 l1_3.length c1_3]] w λe w'=>∃v0_:Value,e= .returned (.tuple #[v0_,.bool r2,.int .i64 r3])/\Kd.N k32 32 w' w.heap.size (λk_=>(P0_ k_\/w.heap.size<=k_)) v0_ r1/\Below w.heap.size w w':=
  (store_With.callsO k P0_ A0 c0 l0 a1_0 a1_1 a1_2 A1_3 c1_3 l1_3 r1 r2 r3 w hs0 hr1_3 hc1_3 h).mono (λe w' ⟨v0_,he,hN,hr⟩=>⟨v0_,he,Kd.own_N hN,hr⟩)
def watchwordlaw0_Num.f (a0:Int):Option (Int):=some a0
set_option maxHeartbeats 8000000 in
set_option maxRecDepth 100000 in
theorem watchwordlaw0_Num.calls (a0:Int) (r:Int) (w:World) (h:watchwordlaw0_Num.f a0=some r):
  Calls Try.prog 11 #[.int .i64 a0] w λe w'=>e= .returned (.int .i64 r)/\Drawn0 w w':=by
 have H:(some a0)=some r:=h;clear h;obtain rfl:=Option.some.inj H
 go_enter Try.func11,Try.ntmps11
 go_wp2;go_ret;exact⟨by first|rfl|(simp;done)|(simp[*];done),by repeat (first|exact Drawn0.refl _|apply Drawn0.step)⟩
end Go.Proofs.Ytbpoflicphgokaa.Q18
namespace Go.Proofs.Ytbpoflicphgokaa.Q18
open Go.RowKit Go.Proofs.Ytbpoflicphgokaa.Stp Go.Proofs.YtbpoflicphgokaaW.PrintWords Go.Proofs.YtbpoflicphgokaaW.PrintLast Go.Proofs.YtbpoflicphgokaaW.PrintMore
attribute [local go_sem] max2_int min2_int max_two min_two max_three min_three max_four min_four
set_option linter.unusedVariables false
set_option linter.unusedSimpArgs false
attribute [local go_sem high] eqA56
def store_Find.f (k:Nat) (l0:List (S32)) (a1:Int):Option (Int × Int × Int × (List (S56)) × Bool):=(store_at.f k l0 a1).bind λbt233=>((store_May.f k l0).bind λt235=>(if t235=true then(if bt233.2=true then(if 0<=bt233.1 then(if bt233.1<(l0.length:Int)then((api_Link.f ((rd_T32 l0 bt233.1).f3)).bind λt238=>(some ((rd_T32 l0 bt233.1).f0,(rd_T32 l0 bt233.1).f1,(rd_T32 l0 bt233.1).f2,t238,true)))else(none))else(none))else(some (0,0,0,([]:List (S56)),false)))else(some (0,0,0,([]:List (S56)),false))))
theorem store_Find.mono:∀a0 a1 k,LeO (store_Find.f k a0 a1) (store_Find.f (k+1) a0 a1):=by
 intro a0 a1 k;unfold store_Find.f
 repeat' (with_reducible first|exact store_May.mono _ _|exact store_at.mono _ _ _|exact LeO.refl _|exact LeO.none _|refine LeO.ite ?_ ?_ |refine LeO.bind ?_ (λ_=>?_))
set_option maxHeartbeats 8000000 in
set_option maxRecDepth 100000 in
theorem store_Find.calls (k:Nat) (A0:Option Addr) (c0:Nat) (l0:List (S32)) (a1:Int) (r1:Int) (r2:Int) (r3:Int) (r4:List (S56)) (r5:Bool) (w:World) (hr0:Kd.C k32 w A0 l0.length l0) (hc0:l0.length<=c0) (h:store_Find.f k l0 a1=some (r1,r2,r3,r4,r5)):
  Calls Try.prog 12 #[.slice A0 l0.length c0,.int .i64 a1] w λe w'=>∃v3_:Value,e= .returned (.tuple #[.agg #[.int .i64 r1,.int .i64 r2,.int .i64 r3,v3_],.bool r5])/\Kd.R k56 56 w' w.heap.size (λ_=>True) v3_ r4/\Below w.heap.size w w':=by
 have hu32:=Try.underlying32;have R0:=Aside0.mk hr0;have K0:=Aside0.mk hc0;clear hr0 hc0;have HB:=Aside0.mk (Below.refl w.heap.size w);have H:((store_at.f k l0 a1).bind λbt233=>((store_May.f k l0).bind λt0=>(if t0=true then(if bt233.2=true then(if 0<=bt233.1 then(if bt233.1<(l0.length:Int)then((api_Link.f ((rd_T32 l0 bt233.1).f3)).bind λt1=>(some ((rd_T32 l0 bt233.1).f0,(rd_T32 l0 bt233.1).f1,(rd_T32 l0 bt233.1).f2,t1,true)))else(none))else(none))else(some (0,0,0,([]:List (S56)),false)))else(some (0,0,0,([]:List (S56)),false)))))=some (r1,r2,r3,r4,r5):=h;clear h;obtain⟨⟨t2,t3⟩,A1,H⟩:=bsE H;(try dsimp only at H);have A3:=Aside0.mk A1;clear A1;obtain⟨t0,A5,H⟩:=bsE H;(try dsimp only at H);have A4:=Aside0.mk A5;clear A5
 by_cases c5:t0=true
 ·subst c5
  rw[if_pos rfl]at H
  by_cases c6:t3=true
  ·subst c6
   rw[if_pos rfl]at H
   by_cases c7:0<=t2
   ·rw[if_pos c7]at H
    have ca:=decide_eq_true c7;clear c7
    by_cases c8:t2<(l0.length:Int)
    ·rw[if_pos c8]at H
     have cf:=decide_eq_true c8;clear c8;obtain⟨t1,A7,H⟩:=bsE H;(try dsimp only at H);have A9:=Aside0.mk A7;clear A7;simp only[Option.some.injEq,Prod.mk.injEq]at H;obtain⟨rfl,rfl,rfl,rfl,rfl⟩:=H
     go_enter Try.func12,Try.ntmps12
     go_wp2_with (first|((with_reducible refine gate_dst (N:=4) rfl ?_);refine bxV (N:=4) (cs:=#[.int .i64 0,.int .i64 0,.int .i64 0,.slice none 0 0]) (t:=32) (h:=?_);intro g0 hg w0 hbox hb;have B0:=Aside0.mk (hbox);have G0:=Aside0.mk ((mH:w.heap.size<=g0));have G1:=Aside0.mk ((mH:w.heap.size<=g0));replace HB:=Aside0.mk (below_step mA hb);clear hb hbox hg)|((with_reducible refine gate_callee (f:=29) rfl ?_);refine cLV (some 12) Try.func29 #[.slice A0 l0.length c0,.int .i64 a1] (h:=?_);(with_reducible refine(store_at.calls k _ _ l0 a1 t2 true _ ?side1 ?side2 A3.out).mono ?_);(case side1=>repeat (first|exact(Kd.C_below R0.out HB.out)|(with_reducible refine Kd.C_alloc ?_ _)|(with_reducible refine Kd.C_drewN ?_ _)|(with_reducible refine Kd.C_drew ?_)));(case side2=>exact K0.out);rintro e w2 ⟨rfl,hb⟩;refine⟨_,rfl,?_⟩;replace B0:=Aside0.mk (blk_below mC hb);replace HB:=Aside0.mk (below_step mB hb);(try clear hb))|((with_reducible refine gate_callee (f:=13) rfl ?_);refine cLV (some 16) Try.func13 #[.slice A0 l0.length c0] (h:=?_);(with_reducible refine(store_May.calls k _ _ l0 true _ ?side1 ?side2 A4.out).mono ?_);(case side1=>repeat (first|exact(Kd.C_below R0.out HB.out)|(with_reducible refine Kd.C_alloc ?_ _)|(with_reducible refine Kd.C_drewN ?_ _)|(with_reducible refine Kd.C_drew ?_)));(case side2=>exact K0.out);rintro e w3 ⟨rfl,hb⟩;refine⟨_,rfl,?_⟩;replace B0:=Aside0.mk (blk_below mC hb);replace HB:=Aside0.mk (below_step mB hb);(try clear hb);have p0:0<=(t2:Int):=of_decide_eq_true mF;have q0:t2<(l0.length:Int):=of_decide_eq_true mF;obtain⟨d0,Ac,s0,e0,h0,h1,h2,h3,i0,i1⟩:=at_T32 R0.out t2 p0 q0;cases e0;replace h0:=hB HB h0;replace h1:=hB HB h1;replace h2:=hB HB h2;replace h3:=hB HB h3;have R1:=Aside0.mk i1;have K1:=Aside0.mk i0;clear i1 i0;replace p0:=eq_true p0;replace q0:=eq_true q0)|((with_reducible refine gate_dst (N:=8) rfl ?_);refine bxV (N:=8) (cs:=#[.int .i64 0,.int .i64 0,.int .i64 0,.slice none 0 0]) (t:=32) (h:=?_);intro g1 hg w4 hbox hb;have B1:=Aside0.mk (hbox);have G2:=Aside0.mk ((mW:w.heap.size<=g1));have G3:=Aside0.mk ((mW:w.heap.size<=g1));replace HB:=Aside0.mk (below_step mB hb);have N0:=Aside0.mk ((by rw[hg];exact Nat.ne_of_lt (blk_lt (g:=g0) (o:= .cells #[.int .i64 0,.int .i64 0,.int .i64 0,.slice none 0 0] 32 (0,0)) mC):g0≠g1));have N1:=Aside0.mk ((by rw[hg];exact Nat.ne_of_gt (blk_lt (g:=g0) (o:= .cells #[.int .i64 0,.int .i64 0,.int .i64 0,.slice none 0 0] 32 (0,0)) mC):g1≠g0));replace B0:=Aside0.mk (blk_below mC hb);clear hb hbox hg;have n0:=N1.out;have n1:=N0.out;obtain⟨z0,z1,z2,z3⟩:=bc4 B1.out;have z4:=blk_frozen B1.out)|((with_reducible refine gate_store (t:=32) (p:=8) rfl ?_);refine stV (t:=32) (p:=8) (w1:=((((w4.setCell ⟨g1,0,none⟩ (.int .i64 ((rd_T32 l0 t2).f0))).setCell ⟨g1,1,none⟩ (.int .i64 ((rd_T32 l0 t2).f1))).setCell ⟨g1,2,none⟩ (.int .i64 ((rd_T32 l0 t2).f2))).setCell ⟨g1,3,none⟩ (.slice Ac ((rd_T32 l0 t2).f3).length s0))) (h:=?_);intro w6 hw;replace B0:Aside0 (w6.heap[g0]? =some (.cells #[.int .i64 0,.int .i64 0,.int .i64 0,.slice none 0 0] 32 (0,0))):=⟨mN⟩;replace B1:Aside0 (w6.heap[g1]? =some (.cells #[.int .i64 ((rd_T32 l0 t2).f0),.int .i64 ((rd_T32 l0 t2).f1),.int .i64 ((rd_T32 l0 t2).f2),.slice Ac ((rd_T32 l0 t2).f3).length s0] 32 (0,0))):=⟨(by rw[hw];exact(by(with_reducible repeat (first|refine blk_drewN ?_ _|refine blk_drew ?_ |refine blk_alloc ?_ _));refine blk_put (cs:=#[.int .i64 ((rd_T32 l0 t2).f0),.int .i64 ((rd_T32 l0 t2).f1),.int .i64 ((rd_T32 l0 t2).f2),.slice none 0 0]) ?_ 3 _ rfl;(with_reducible repeat (first|refine blk_drewN ?_ _|refine blk_drew ?_ |refine blk_alloc ?_ _));refine blk_put (cs:=#[.int .i64 ((rd_T32 l0 t2).f0),.int .i64 ((rd_T32 l0 t2).f1),.int .i64 0,.slice none 0 0]) ?_ 2 _ rfl;(with_reducible repeat (first|refine blk_drewN ?_ _|refine blk_drew ?_ |refine blk_alloc ?_ _));refine blk_put (cs:=#[.int .i64 ((rd_T32 l0 t2).f0),.int .i64 0,.int .i64 0,.slice none 0 0]) ?_ 1 _ rfl;(with_reducible repeat (first|refine blk_drewN ?_ _|refine blk_drew ?_ |refine blk_alloc ?_ _));refine blk_put (cs:=#[.int .i64 0,.int .i64 0,.int .i64 0,.slice none 0 0]) ?_ 0 _ rfl;(with_reducible repeat (first|refine blk_drewN ?_ _|refine blk_drew ?_ |refine blk_alloc ?_ _));exact B1.out))⟩;replace HB:Aside0 (Below w.heap.size w w6):=⟨mCF⟩;clear hw;obtain⟨z5,z6,z7,z8⟩:=bc4 B1.out;have z9:=blk_frozen B1.out)|((with_reducible refine gate_callee (f:=33) rfl ?_);refine cLV (some 29) Try.func33 #[.slice Ac ((rd_T32 l0 t2).f3).length s0] (h:=?_);(with_reducible refine(api_Link.calls _ _ ((rd_T32 l0 t2).f3) t1 _ ?side1 ?side2 A9.out).mono ?_);(case side1=>repeat (first|exact(Kd.C_below R1.out HB.out)|(with_reducible refine Kd.C_alloc ?_ _)|(with_reducible refine Kd.C_drewN ?_ _)|(with_reducible refine Kd.C_drew ?_)));(case side2=>exact K1.out);rintro e w7 ⟨v239,rfl,ho0,hb⟩;refine⟨_,rfl,?_⟩;have O0:=Aside0.mk (Kd.R_lower ho0 (below_size mD));replace B0:=Aside0.mk (blk_below mC hb);replace B1:=Aside0.mk (blk_below mE hb);replace HB:=Aside0.mk (below_step mD hb);(try clear hb);(try clear ho0);obtain⟨s1,s2,s3⟩:=Kd.R_slice O0.out;subst s3;obtain⟨za,zb,zc,zd⟩:=bc4 B1.out;have ze:=blk_frozen B1.out)|((with_reducible refine gate_store (t:=30) (p:=30) rfl ?_);refine stV (t:=30) (p:=30) (w1:=(w7.setCell ⟨g1,3,none⟩ (.slice s1 t1.length s2))) (h:=?_);intro w9 hw;replace O0:Aside0 (Kd.R k56 56 w9 w.heap.size (λ_=>True) (.slice s1 t1.length s2) t1):=⟨(by rw[hw];exact(by(with_reducible repeat (first|apply Kd.R_alloc|apply Kd.R_drewN|apply Kd.R_drew));exact Kd.R_mono (Kd.R_far (p:=⟨g1,3,none⟩) (Kd.R_types O0.out B1.out mAE) (λ_ hk=>hk.2) (.slice s1 t1.length s2)) (λ_ hk=>trivial)))⟩;replace B0:Aside0 (w9.heap[g0]? =some (.cells #[.int .i64 0,.int .i64 0,.int .i64 0,.slice none 0 0] 32 (0,0))):=⟨mBD⟩;replace B1:Aside0 (w9.heap[g1]? =some (.cells #[.int .i64 ((rd_T32 l0 t2).f0),.int .i64 ((rd_T32 l0 t2).f1),.int .i64 ((rd_T32 l0 t2).f2),.slice s1 t1.length s2] 32 (0,0))):=⟨(by rw[hw];exact(by(with_reducible repeat (first|refine blk_drewN ?_ _|refine blk_drew ?_ |refine blk_alloc ?_ _));refine blk_put (cs:=#[.int .i64 ((rd_T32 l0 t2).f0),.int .i64 ((rd_T32 l0 t2).f1),.int .i64 ((rd_T32 l0 t2).f2),.slice Ac ((rd_T32 l0 t2).f3).length s0]) ?_ 3 _ rfl;(with_reducible repeat (first|refine blk_drewN ?_ _|refine blk_drew ?_ |refine blk_alloc ?_ _));exact B1.out))⟩;replace HB:Aside0 (Below w.heap.size w w9):=⟨mCF⟩;clear hw;obtain⟨zf,zg,zh,zi⟩:=bc4 B1.out;have zj:=blk_frozen B1.out;obtain⟨zk,zl,zm,zn⟩:=bc4 B0.out;have zo:=blk_frozen B0.out)|((with_reducible refine gate_store (t:=32) (p:=4) rfl ?_);refine stV (t:=32) (p:=4) (w1:=((((w9.setCell ⟨g0,0,none⟩ (.int .i64 ((rd_T32 l0 t2).f0))).setCell ⟨g0,1,none⟩ (.int .i64 ((rd_T32 l0 t2).f1))).setCell ⟨g0,2,none⟩ (.int .i64 ((rd_T32 l0 t2).f2))).setCell ⟨g0,3,none⟩ (.slice s1 t1.length s2))) (h:=?_);intro wb hw;replace O0:Aside0 (Kd.R k56 56 wb w.heap.size (λ_=>True) (.slice s1 t1.length s2) t1):=⟨(by rw[hw];exact(by(with_reducible repeat (first|apply Kd.R_alloc|apply Kd.R_drewN|apply Kd.R_drew));exact Kd.R_mono (Kd.R_far (p:=⟨g0,3,none⟩) (Kd.R_far (p:=⟨g0,2,none⟩) (Kd.R_far (p:=⟨g0,1,none⟩) (Kd.R_far (p:=⟨g0,0,none⟩) (Kd.R_types O0.out B0.out mAE) (λ_ hk=>hk.2) (.int .i64 ((rd_T32 l0 t2).f0))) (λ_ hk=>hk.2) (.int .i64 ((rd_T32 l0 t2).f1))) (λ_ hk=>hk.2) (.int .i64 ((rd_T32 l0 t2).f2))) (λ_ hk=>hk.2) (.slice s1 t1.length s2)) (λ_ hk=>trivial)))⟩;replace B0:Aside0 (wb.heap[g0]? =some (.cells #[.int .i64 ((rd_T32 l0 t2).f0),.int .i64 ((rd_T32 l0 t2).f1),.int .i64 ((rd_T32 l0 t2).f2),.slice s1 t1.length s2] 32 (0,0))):=⟨(by rw[hw];exact(by(with_reducible repeat (first|refine blk_drewN ?_ _|refine blk_drew ?_ |refine blk_alloc ?_ _));refine blk_put (cs:=#[.int .i64 ((rd_T32 l0 t2).f0),.int .i64 ((rd_T32 l0 t2).f1),.int .i64 ((rd_T32 l0 t2).f2),.slice none 0 0]) ?_ 3 _ rfl;(with_reducible repeat (first|refine blk_drewN ?_ _|refine blk_drew ?_ |refine blk_alloc ?_ _));refine blk_put (cs:=#[.int .i64 ((rd_T32 l0 t2).f0),.int .i64 ((rd_T32 l0 t2).f1),.int .i64 0,.slice none 0 0]) ?_ 2 _ rfl;(with_reducible repeat (first|refine blk_drewN ?_ _|refine blk_drew ?_ |refine blk_alloc ?_ _));refine blk_put (cs:=#[.int .i64 ((rd_T32 l0 t2).f0),.int .i64 0,.int .i64 0,.slice none 0 0]) ?_ 1 _ rfl;(with_reducible repeat (first|refine blk_drewN ?_ _|refine blk_drew ?_ |refine blk_alloc ?_ _));refine blk_put (cs:=#[.int .i64 0,.int .i64 0,.int .i64 0,.slice none 0 0]) ?_ 0 _ rfl;(with_reducible repeat (first|refine blk_drewN ?_ _|refine blk_drew ?_ |refine blk_alloc ?_ _));exact B0.out))⟩;replace B1:Aside0 (wb.heap[g1]? =some (.cells #[.int .i64 ((rd_T32 l0 t2).f0),.int .i64 ((rd_T32 l0 t2).f1),.int .i64 ((rd_T32 l0 t2).f2),.slice s1 t1.length s2] 32 (0,0))):=⟨(by rw[hw];exact(by(with_reducible repeat (first|refine blk_drewN ?_ _|refine blk_drew ?_ |refine blk_alloc ?_ _));refine blk_far ?_ N1.out _;(with_reducible repeat (first|refine blk_drewN ?_ _|refine blk_drew ?_ |refine blk_alloc ?_ _));refine blk_far ?_ N1.out _;(with_reducible repeat (first|refine blk_drewN ?_ _|refine blk_drew ?_ |refine blk_alloc ?_ _));refine blk_far ?_ N1.out _;(with_reducible repeat (first|refine blk_drewN ?_ _|refine blk_drew ?_ |refine blk_alloc ?_ _));refine blk_far ?_ N1.out _;(with_reducible repeat (first|refine blk_drewN ?_ _|refine blk_drew ?_ |refine blk_alloc ?_ _));exact B1.out))⟩;replace HB:Aside0 (Below w.heap.size w wb):=⟨mCF⟩;clear hw))
     refine bodyPost_ret (results_ct rfl _ _ g0 32 #[.int .i64 ((rd_T32 l0 t2).f0),.int .i64 ((rd_T32 l0 t2).f1),.int .i64 ((rd_T32 l0 t2).f2),.slice s1 t1.length s2] (0,0) _ rfl mC Try.underlying32 rfl mAI) rfl ?_;exact⟨_,by first|rfl|(simp[errW_none,errW_some] <;> rfl)|(simp[*,errW_none,errW_some] <;> rfl),by(with_reducible repeat (first|apply Kd.R_alloc|apply Kd.R_drewN|apply Kd.R_drew));exact O0.out,by repeat (first|(with_reducible first|exact HB.out|apply below_alloc|apply pw_below_drewN|apply below_drew1|refine below_set ?_ G1.out|refine below_set ?_ G3.out)|exact HB.out)⟩
    ·rw[if_neg c8]at H
     exact absurd H mAY
   ·rw[if_neg c7]at H
    exact absurd H mAY
  ·replace c6:=Bool.eq_false_iff.mpr c6
   subst c6;rw[if_neg (show ¬(false=true)by decide)]at H;simp only[Option.some.injEq,Prod.mk.injEq]at H;obtain⟨rfl,rfl,rfl,rfl,rfl⟩:=H
   go_enter Try.func12,Try.ntmps12
   go_wp2_with (first|((with_reducible refine gate_dst (N:=4) rfl ?_);refine bxV (N:=4) (cs:=#[.int .i64 0,.int .i64 0,.int .i64 0,.slice none 0 0]) (t:=32) (h:=?_);intro g0 hg wc hbox hb;have B0:=Aside0.mk (hbox);have G0:=Aside0.mk ((mH:w.heap.size<=g0));have G1:=Aside0.mk ((mH:w.heap.size<=g0));replace HB:=Aside0.mk (below_step mA hb);clear hb hbox hg)|((with_reducible refine gate_callee (f:=29) rfl ?_);refine cLV (some 12) Try.func29 #[.slice A0 l0.length c0,.int .i64 a1] (h:=?_);(with_reducible refine(store_at.calls k _ _ l0 a1 t2 false _ ?side1 ?side2 A3.out).mono ?_);(case side1=>repeat (first|exact(Kd.C_below R0.out HB.out)|(with_reducible refine Kd.C_alloc ?_ _)|(with_reducible refine Kd.C_drewN ?_ _)|(with_reducible refine Kd.C_drew ?_)));(case side2=>exact K0.out);rintro e wd ⟨rfl,hb⟩;refine⟨_,rfl,?_⟩;replace B0:=Aside0.mk (blk_below mC hb);replace HB:=Aside0.mk (below_step mB hb);(try clear hb))|((with_reducible refine gate_callee (f:=13) rfl ?_);refine cLV (some 16) Try.func13 #[.slice A0 l0.length c0] (h:=?_);(with_reducible refine(store_May.calls k _ _ l0 true _ ?side1 ?side2 A4.out).mono ?_);(case side1=>repeat (first|exact(Kd.C_below R0.out HB.out)|(with_reducible refine Kd.C_alloc ?_ _)|(with_reducible refine Kd.C_drewN ?_ _)|(with_reducible refine Kd.C_drew ?_)));(case side2=>exact K0.out);rintro e we ⟨rfl,hb⟩;refine⟨_,rfl,?_⟩;replace B0:=Aside0.mk (blk_below mC hb);replace HB:=Aside0.mk (below_step mB hb);(try clear hb);obtain⟨zp,zq,zr,zs⟩:=bc4 B0.out;have zt:=blk_frozen B0.out)|((with_reducible refine gate_store (t:=32) (p:=4) rfl ?_);refine stV (t:=32) (p:=4) (w1:=((((we.setCell ⟨g0,0,none⟩ (.int .i64 0)).setCell ⟨g0,1,none⟩ (.int .i64 0)).setCell ⟨g0,2,none⟩ (.int .i64 0)).setCell ⟨g0,3,none⟩ (.slice none 0 0))) (h:=?_);intro wg hw;replace B0:Aside0 (wg.heap[g0]? =some (.cells #[.int .i64 0,.int .i64 0,.int .i64 0,.slice none 0 0] 32 (0,0))):=⟨mR⟩;replace HB:Aside0 (Below w.heap.size w wg):=⟨mBF⟩;clear hw))
   refine bodyPost_ret (results_ct rfl _ _ g0 32 #[.int .i64 0,.int .i64 0,.int .i64 0,.slice none 0 0] (0,0) _ rfl mC Try.underlying32 rfl mAI) rfl ?_;exact⟨_,by first|rfl|(simp[errW_none,errW_some] <;> rfl)|(simp[*,errW_none,errW_some] <;> rfl),by first|exact Kd.R_nil _ _ _ _ _|exact Kd.N_nil _ _ _ _ _|exact Kd.V_nil _ _ _ _ _|exact Kd.Q_nil _ _ _ _ _|exact Kd.S_nil _ _ _ _ _,by repeat (first|(with_reducible first|exact HB.out|apply below_alloc|apply pw_below_drewN|apply below_drew1|refine below_set ?_ G1.out)|exact HB.out)⟩
 ·replace c5:=Bool.eq_false_iff.mpr c5
  subst c5;rw[if_neg (show ¬(false=true)by decide)]at H;simp only[Option.some.injEq,Prod.mk.injEq]at H;obtain⟨rfl,rfl,rfl,rfl,rfl⟩:=H
  go_enter Try.func12,Try.ntmps12
  go_wp2_with (first|((with_reducible refine gate_dst (N:=4) rfl ?_);refine bxV (N:=4) (cs:=#[.int .i64 0,.int .i64 0,.int .i64 0,.slice none 0 0]) (t:=32) (h:=?_);intro g0 hg wh hbox hb;have B0:=Aside0.mk (hbox);have G0:=Aside0.mk ((mH:w.heap.size<=g0));have G1:=Aside0.mk ((mH:w.heap.size<=g0));replace HB:=Aside0.mk (below_step mA hb);clear hb hbox hg)|((with_reducible refine gate_callee (f:=29) rfl ?_);refine cLV (some 12) Try.func29 #[.slice A0 l0.length c0,.int .i64 a1] (h:=?_);(with_reducible refine(store_at.calls k _ _ l0 a1 t2 t3 _ ?side1 ?side2 A3.out).mono ?_);(case side1=>repeat (first|exact(Kd.C_below R0.out HB.out)|(with_reducible refine Kd.C_alloc ?_ _)|(with_reducible refine Kd.C_drewN ?_ _)|(with_reducible refine Kd.C_drew ?_)));(case side2=>exact K0.out);rintro e wi ⟨rfl,hb⟩;refine⟨_,rfl,?_⟩;replace B0:=Aside0.mk (blk_below mC hb);replace HB:=Aside0.mk (below_step mB hb);(try clear hb))|((with_reducible refine gate_callee (f:=13) rfl ?_);refine cLV (some 16) Try.func13 #[.slice A0 l0.length c0] (h:=?_);(with_reducible refine(store_May.calls k _ _ l0 false _ ?side1 ?side2 A4.out).mono ?_);(case side1=>repeat (first|exact(Kd.C_below R0.out HB.out)|(with_reducible refine Kd.C_alloc ?_ _)|(with_reducible refine Kd.C_drewN ?_ _)|(with_reducible refine Kd.C_drew ?_)));(case side2=>exact K0.out);rintro e wj ⟨rfl,hb⟩;refine⟨_,rfl,?_⟩;replace B0:=Aside0.mk (blk_below mC hb);replace HB:=Aside0.mk (below_step mB hb);(try clear hb);obtain⟨zu,zv,zw,zx⟩:=bc4 B0.out;have zy:=blk_frozen B0.out)|((with_reducible refine gate_store (t:=32) (p:=4) rfl ?_);refine stV (t:=32) (p:=4) (w1:=((((wj.setCell ⟨g0,0,none⟩ (.int .i64 0)).setCell ⟨g0,1,none⟩ (.int .i64 0)).setCell ⟨g0,2,none⟩ (.int .i64 0)).setCell ⟨g0,3,none⟩ (.slice none 0 0))) (h:=?_);intro wl hw;replace B0:Aside0 (wl.heap[g0]? =some (.cells #[.int .i64 0,.int .i64 0,.int .i64 0,.slice none 0 0] 32 (0,0))):=⟨mR⟩;replace HB:Aside0 (Below w.heap.size w wl):=⟨mBF⟩;clear hw))
  refine bodyPost_ret (results_ct rfl _ _ g0 32 #[.int .i64 0,.int .i64 0,.int .i64 0,.slice none 0 0] (0,0) _ rfl mC Try.underlying32 rfl mAI) rfl ?_;exact⟨_,by first|rfl|(simp[errW_none,errW_some] <;> rfl)|(simp[*,errW_none,errW_some] <;> rfl),by first|exact Kd.R_nil _ _ _ _ _|exact Kd.N_nil _ _ _ _ _|exact Kd.V_nil _ _ _ _ _|exact Kd.Q_nil _ _ _ _ _|exact Kd.S_nil _ _ _ _ _,by repeat (first|(with_reducible first|exact HB.out|apply below_alloc|apply pw_below_drewN|apply below_drew1|refine below_set ?_ G1.out)|exact HB.out)⟩
def store_Older.l0:Nat->List (S32)->List Int->List (S32)->Int->Int->Option ((List (S32)) × List Int × Int)
 |0,_,_,_,_,_=>none
 |k+1,x5,x6,x13,x14,x15=>if x15<x14 then(if 0<=x15 then(if x15<(x13.length:Int)then(if(wrap64 (((rd_T32 x13 x15).f2)+1))<60 then(if x5.length<2932031007402 then(store_Older.l0 k (x5++[(⟨(rd_T32 x13 x15).f0,(rd_T32 x13 x15).f1,wrap64 (((rd_T32 x13 x15).f2)+1),(rd_T32 x13 x15).f3⟩:S32)]) x6 x13 x14 (wrap64 (x15+1)))else(none))else(if x6.length<17592186044416 then(store_Older.l0 k x5 (x6++[(rd_T32 x13 x15).f0]) x13 x14 (wrap64 (x15+1)))else(none)))else(none))else(none))else(some (x5,x6,0))
def store_Older.f (k:Nat) (l0:List (S32)):Option ((List (S32)) × List Int × Int):=(store_May.f k l0).bind λt259=>(if t259=true then((store_Copy.f k l0).bind λt260=>(store_Older.l0 k ([]:List (S32)) ([]:List Int) t260 (t260.length:Int) 0))else(some (([]:List (S32)),([]:List Int),1800)))
theorem store_Older.mono_l:∀k,(∀y0 y1 y2 y3 y4,LeO (store_Older.l0 k y0 y1 y2 y3 y4) (store_Older.l0 (k+1) y0 y1 y2 y3 y4))
 |0=>λ_ _ _ _ _ r h=>by simp[store_Older.l0]at h
 |k+1=>by
  have ih0:=store_Older.mono_l k
  ·intro y0 y1 y2 y3 y4
   unfold store_Older.l0
   repeat' (with_reducible first|exact ih0 _ _ _ _ _|exact store_Copy.mono _ _|exact store_May.mono _ _|exact LeO.refl _|exact LeO.none _|refine LeO.ite ?_ ?_ |refine LeO.bind ?_ (λ_=>?_))
theorem store_Older.mono:∀a0 k,LeO (store_Older.f k a0) (store_Older.f (k+1) a0):=by
 intro a0 k;have ih0:=store_Older.mono_l k;unfold store_Older.f
 repeat' (with_reducible first|exact ih0 _ _ _ _ _|exact store_Copy.mono _ _|exact store_May.mono _ _|exact LeO.refl _|exact LeO.none _|refine LeO.ite ?_ ?_ |refine LeO.bind ?_ (λ_=>?_))
set_option maxHeartbeats 8000000 in
set_option maxRecDepth 100000 in
theorem store_Older.callsO (k:Nat) (P0_:Nat->Prop) (A0:Option Addr) (c0:Nat) (l0:List (S32)) (r1:List (S32)) (r2:List Int) (r3:Int) (w:World) (hs0:Kd.V k32 32 w w.heap.size (λk_=>P0_ k_) (.slice A0 l0.length c0) l0) (h:store_Older.f k l0=some (r1,r2,r3)):
  Calls Try.prog 19 #[.slice A0 l0.length c0] w λe w'=>∃v0_ v1_:Value,e= .returned (.tuple #[v0_,v1_,.int .i64 r3])/\Kd.N (o32 w.heap.size) 32 w' w.heap.size (λk_=>(P0_ k_\/w.heap.size<=k_)/\some k_≠(v1_:Value).ownBlock) v0_ r1/\Kd.R (Kd.int .i64) 3 w' w.heap.size (λk_=>(w.heap.size<=k_)) v1_ r2/\Below w.heap.size w w':=by
 have hu32:=Try.underlying32;have O0:=Aside0.mk (show Kd.V k32 32 w w.heap.size (λk_=>(P0_ k_\/w.heap.size<=k_)) (.slice A0 l0.length c0) l0 from Kd.V_mono hs0 (λk_ hk=> .inl hk));have HB:=Aside0.mk (Below.refl w.heap.size w);have H:((store_May.f k l0).bind λt0=>(if t0=true then((store_Copy.f k l0).bind λt1=>(store_Older.l0 k ([]:List (S32)) ([]:List Int) t1 (t1.length:Int) 0))else(some (([]:List (S32)),([]:List Int),1800))))=some (r1,r2,r3):=h;clear h;obtain⟨t0,A1,H⟩:=bsE H;(try dsimp only at H);have A2:=Aside0.mk A1;clear A1
 by_cases c3:t0=true
 ·subst c3
  rw[if_pos rfl]at H;obtain⟨t1,A3,H⟩:=bsE H;(try dsimp only at H);have A4:=Aside0.mk A3;clear A3;have H':=Aside0.mk H;clear H
  go_enter Try.func19,Try.ntmps19
  go_wp2_with (first|((with_reducible refine gate_callee (f:=13) rfl ?_);refine cLV (some 10) Try.func13 #[.slice A0 l0.length c0] (h:=?_);(with_reducible refine(store_May.calls k _ _ l0 true _ ?side1 ?side2 A2.out).mono ?_);(case side1=>repeat (first|exact(Kd.V_reads' O0.out).2.2 |(with_reducible refine Kd.C_alloc ?_ _)|(with_reducible refine Kd.C_drewN ?_ _)|(with_reducible refine Kd.C_drew ?_)));(case side2=>exact(Kd.V_reads' O0.out).2.1);rintro e w5 ⟨rfl,hb⟩;refine⟨_,rfl,?_⟩;replace O0:=Aside0.mk (Kd.V_below mAC hb);replace HB:=Aside0.mk (below_step mA hb);(try clear hb))|((with_reducible refine gate_callee (f:=28) rfl ?_);refine cLV (some 13) Try.func28 #[.slice A0 l0.length c0] (h:=?_);(with_reducible refine(store_Copy.calls k (λk_=>(P0_ k_\/w.heap.size<=k_)) _ _ l0 t1 _ ?side1 A4.out).mono ?_);(case side1=>exact O0.out);rintro e w6 ⟨v261,rfl,ho0,hb⟩;refine⟨_,rfl,?_⟩;replace O0:=Aside0.mk (Kd.V_elder' mAC (Kd.N_base ho0) hb);have O1:=Aside0.mk (Kd.own_lower (Kd.N_lower (Kd.N_mono (ok':=λk_=>(P0_ k_\/w.heap.size<=k_)) ho0 (λk_ hk_=>Or.elim hk_ (λhs_=>hs_) (λhn_=>(.inr (Nat.le_trans (below_size mA) hn_))))) (below_size mA)) (below_size mA));replace HB:=Aside0.mk (below_step mA hb);(try clear hb);(try clear ho0);obtain⟨s0,s1,s2⟩:=Kd.N_slice O1.out;subst s2))
  go_loopg [5,6,15] k (λkq v5 v6 v15 w'=>∃(x0:List (S32)) (x1:List Int) (x2:Int),v15= .int .i64 x2/\Aside0 (store_Older.l0 kq x0 x1 t1 (t1.length:Int) x2=some (r1,r2,r3))/\Aside0 (kq<=k)/\Aside0 (Kd.N (o32 w.heap.size) 32 w' w.heap.size (λk_=>(P0_ k_\/w.heap.size<=k_)/\some k_≠(v6:Value).ownBlock /\some k_≠((.slice s0 t1.length s1):Value).ownBlock) v5 x0)/\Aside0 (Kd.R (Kd.int .i64) 3 w' w.heap.size (λk_=>(w.heap.size<=k_)) v6 x1)/\Aside0 (Kd.N (o32 w.heap.size) 32 w' w.heap.size (λk_=>(P0_ k_\/w.heap.size<=k_)/\some k_≠(v5:Value).ownBlock /\some k_≠(v6:Value).ownBlock) (.slice s0 t1.length s1) t1)/\Aside0 (Below w.heap.size w w'))
  case atStart=>exact⟨(([]:List (S32))),(([]:List Int)),(0),mJ,H',⟨Nat.le_refl _⟩,⟨by first|exact Kd.S_nil _ _ _ _ _|exact Kd.N_nil _ _ _ _ _|exact Kd.V_nil _ _ _ _ _|exact Kd.Q_nil _ _ _ _ _|exact Kd.R_nil _ _ _ _ _⟩,⟨by first|exact Kd.R_nil _ _ _ _ _|exact Kd.N_nil _ _ _ _ _|exact Kd.V_nil _ _ _ _ _|exact Kd.Q_nil _ _ _ _ _|exact Kd.S_nil _ _ _ _ _⟩,⟨by(with_reducible repeat (first|apply Kd.N_alloc|apply Kd.N_drewN|apply Kd.N_drew));exact Kd.N_mono O1.out (λ_ hk=>⟨hk,⟨(by simp[Value.ownBlock]),(by simp[Value.ownBlock])⟩⟩)⟩,⟨by repeat (first|(with_reducible first|exact HB.out|apply below_alloc|apply pw_below_drewN|apply below_drew1)|exact HB.out)⟩⟩
  case round=>
   clear H';(try clear c1);(try clear c2);(try clear p2);(try clear c3);obtain⟨x0,x1,x2,rfl,HA,HK1,O2,O3,O4,HB⟩:=hrel;cases gk with
   |zero=>exact absurd HA.out (by simp[store_Older.l0])
   |succ k1=>
    have H:=HA.out;clear HA;simp only[store_Older.l0]at H
    by_cases c8:x2<(t1.length:Int)
    ·rw[if_pos c8]at H
     have ca:=decide_eq_true c8;clear c8
     by_cases c9:0<=x2
     ·rw[if_pos c9]at H
      have cf:=decide_eq_true c9;clear c9
      by_cases ci:x2<(t1.length:Int)
      ·rw[if_pos ci]at H
       have cj:=decide_eq_true ci;clear ci
       by_cases ck:(wrap64 (((rd_T32 t1 x2).f2)+1))<60
       ·rw[if_pos ck]at H
        have cl:=decide_eq_true ck;clear ck
        by_cases cm:x0.length<2932031007402
        ·rw[if_pos cm]at H
         have L0:=Aside0.mk cm;clear cm;obtain⟨y5,Y0⟩:∃y_:List (S32),y_=(x0++[(⟨(rd_T32 t1 x2).f0,(rd_T32 t1 x2).f1,wrap64 (((rd_T32 t1 x2).f2)+1),(rd_T32 t1 x2).f3⟩:S32)]):=⟨_,rfl⟩
         replace H:(store_Older.l0 k1 y5 x1 t1 (t1.length:Int) (wrap64 (x2+1)))=some (r1,r2,r3):=by first|(rw[Y0];with_reducible exact H)|(have H2_:=(Option.bind_some _ _).symm.trans H;rw[Y0];with_reducible exact H2_)|(have H2_:=(Option.bind_some _ _).symm.trans H;with_reducible exact H2_)|with_reducible exact H|(rw[Y0];exact H)|exact H
         have Y1:=Aside0.mk Y0;clear Y0;have H':=Aside0.mk H;clear H;have p0:0<=(x2:Int):=of_decide_eq_true mF;have q0:x2<(t1.length:Int):=of_decide_eq_true mF;obtain⟨d0,A7,s3,e0,h0,h1,h2,h3,i0,i1⟩:=at_T32 (Kd.N_reads' (Kd.own_N O4.out)).2.2 x2 p0 q0;cases e0;obtain⟨ce263,hce263,hMe263,hcc263⟩:=Kd.N_get O4.out z32 x2 p0 mDO;obtain⟨ua263_3,uc263_3,rfl,ul263_3,ge263_3⟩:=o32_openF hMe263;have hv263_3:=hcc263 3 _ rfl;rw[add_field _ _ 3 mBX]at hv263_3;replace hv263_3:=Option.some.inj (hv263_3.symm.trans h3)
         injection hv263_3 with hva_ hvn_ hvc_
         rw[hva_,hvc_]at ge263_3;have HL263_3:=Aside0.mk (show Kd.N k56 56 _ w.heap.size _ _ ((rd_T32 t1 x2).f3)from ge263_3);clear hva_ hvn_ hvc_ ge263_3 ul263_3;clear hcc263 hce263;have R0:=Aside0.mk i1;have K0:=Aside0.mk i0;clear i1 i0;replace p0:=eq_true p0;replace q0:=eq_true q0
         go_wp2_with (first|((with_reducible refine gate_dst (N:=8) rfl ?_);refine bxV (N:=8) (cs:=#[.int .i64 0,.int .i64 0,.int .i64 0,.slice none 0 0]) (t:=32) (h:=?_);intro g0 hg w4 hbox hb;replace O2:=Aside0.mk (Kd.N_below (Kd.N_elderB mL g0 (Nat.le_of_eq hg.symm)) hb);replace O3:=Aside0.mk (Kd.R_below mZ hb);replace O4:=Aside0.mk (Kd.N_below (Kd.N_elderB mCJ g0 (Nat.le_of_eq hg.symm)) hb);replace HL263_3:=Aside0.mk (Kd.N_below (Kd.N_elderB mDM g0 (Nat.le_of_eq hg.symm)) hb);replace R0:=Aside0.mk (Kd.C_below mBB hb);have B0:=Aside0.mk (hbox);have G0:=Aside0.mk ((mH:w.heap.size<=g0));have G1:=Aside0.mk ((mH:w.heap.size<=g0));replace HB:=Aside0.mk (below_step mA hb);clear hb hbox hg;obtain⟨z0,z1,z2,z3⟩:=bc4 B0.out;have z4:=blk_frozen B0.out)|((with_reducible refine gate_store (t:=32) (p:=8) rfl ?_);refine stV (t:=32) (p:=8) (w1:=((((w4.setCell ⟨g0,0,none⟩ (.int .i64 ((rd_T32 t1 x2).f0))).setCell ⟨g0,1,none⟩ (.int .i64 ((rd_T32 t1 x2).f1))).setCell ⟨g0,2,none⟩ (.int .i64 ((rd_T32 t1 x2).f2))).setCell ⟨g0,3,none⟩ (.slice A7 ((rd_T32 t1 x2).f3).length s3))) (h:=?_);intro w8 hw;replace O2:Aside0 (Kd.N (o32 w.heap.size) 32 w8 w.heap.size (λk_=>(P0_ k_\/w.heap.size<=k_)/\some k_≠(u6:Value).ownBlock /\some k_≠(.slice (some d0) t1.length s1:Value).ownBlock /\k_≠g0) u5 x0):=⟨mBA⟩;replace O3:Aside0 (Kd.R (Kd.int .i64) 3 w8 w.heap.size (λk_=>(w.heap.size<=k_)) u6 x1):=⟨mBE⟩;replace O4:Aside0 (Kd.N (o32 w.heap.size) 32 w8 w.heap.size (λk_=>(P0_ k_\/w.heap.size<=k_)/\some k_≠(u5:Value).ownBlock /\some k_≠(u6:Value).ownBlock /\k_≠g0) (.slice (some d0) t1.length s1) t1):=⟨mAZ⟩;replace HL263_3:Aside0 (Kd.N k56 56 w8 w.heap.size (λk_=>(P0_ k_\/w.heap.size<=k_)/\some k_≠(u5:Value).ownBlock /\some k_≠(u6:Value).ownBlock /\some k_≠(.slice (some d0) t1.length s1:Value).ownBlock /\k_≠g0) (.slice A7 ((rd_T32 t1 x2).f3).length s3) ((rd_T32 t1 x2).f3)):=⟨mAX⟩;replace B0:Aside0 (w8.heap[g0]? =some (.cells #[.int .i64 ((rd_T32 t1 x2).f0),.int .i64 ((rd_T32 t1 x2).f1),.int .i64 ((rd_T32 t1 x2).f2),.slice A7 ((rd_T32 t1 x2).f3).length s3] 32 (0,0))):=⟨mAL⟩;replace HB:Aside0 (Below w.heap.size w w8):=⟨mBF⟩;clear hw;obtain⟨z5,z6,z7,z8⟩:=bc4 B0.out;have z9:=blk_frozen B0.out)|((with_reducible refine gate_store (t:=3) (p:=22) rfl ?_);refine stV (t:=3) (p:=22) (w1:=(w8.setCell ⟨g0,2,none⟩ (.int .i64 (wrap64 (((rd_T32 t1 x2).f2)+1))))) (h:=?_);intro wa hw;replace O2:Aside0 (Kd.N (o32 w.heap.size) 32 wa w.heap.size (λk_=>(P0_ k_\/w.heap.size<=k_)/\some k_≠(u6:Value).ownBlock /\some k_≠(.slice (some d0) t1.length s1:Value).ownBlock /\k_≠g0) u5 x0):=⟨mBR⟩;replace O3:Aside0 (Kd.R (Kd.int .i64) 3 wa w.heap.size (λk_=>(w.heap.size<=k_)) u6 x1):=⟨mBY⟩;replace O4:Aside0 (Kd.N (o32 w.heap.size) 32 wa w.heap.size (λk_=>(P0_ k_\/w.heap.size<=k_)/\some k_≠(u5:Value).ownBlock /\some k_≠(u6:Value).ownBlock /\k_≠g0) (.slice (some d0) t1.length s1) t1):=⟨mBQ⟩;replace HL263_3:Aside0 (Kd.N k56 56 wa w.heap.size (λk_=>(P0_ k_\/w.heap.size<=k_)/\some k_≠(u5:Value).ownBlock /\some k_≠(u6:Value).ownBlock /\some k_≠(.slice (some d0) t1.length s1:Value).ownBlock /\k_≠g0) (.slice A7 ((rd_T32 t1 x2).f3).length s3) ((rd_T32 t1 x2).f3)):=⟨mBN⟩;replace B0:Aside0 (wa.heap[g0]? =some (.cells #[.int .i64 ((rd_T32 t1 x2).f0),.int .i64 ((rd_T32 t1 x2).f1),.int .i64 (wrap64 (((rd_T32 t1 x2).f2)+1)),.slice A7 ((rd_T32 t1 x2).f3).length s3] 32 (0,0))):=⟨mBL⟩;replace HB:Aside0 (Below w.heap.size w wa):=⟨mBF⟩;clear hw;obtain⟨za,zb,zc,zd⟩:=bc4 B0.out;have ze:=blk_frozen B0.out)|((with_reducible refine gate_builtin (b:= .append) (xs:=#[.tmp 26,.tmp 28]) rfl ?_);at_builtin;refine Kd.N_append (o32 w.heap.size) (w0:=w) w.heap.size rfl (.tmp 26) (.tmp 28) 24 32 (.agg #[(.int .i64 0),(.int .i64 0),(.int .i64 0),(.slice none 0 0)]) 48 rfl Try.underlying24 info32 rfl (Nat.succ_pos 3) mBX u5 x0 (⟨(rd_T32 t1 x2).f0,(rd_T32 t1 x2).f1,wrap64 (((rd_T32 t1 x2).f2)+1),(rd_T32 t1 x2).f3⟩:S32) [.int .i64 ((rd_T32 t1 x2).f0),.int .i64 ((rd_T32 t1 x2).f1),.int .i64 (wrap64 (((rd_T32 t1 x2).f2)+1)),.slice A7 ((rd_T32 t1 x2).f3).length s3] (λk_=>(P0_ k_\/w.heap.size<=k_)/\some k_≠(u6:Value).ownBlock /\some k_≠(.slice (some d0) t1.length s1:Value).ownBlock /\k_≠g0) (λk_=>((λk_=>(P0_ k_\/w.heap.size<=k_)/\some k_≠(u6:Value).ownBlock /\some k_≠(.slice (some d0) t1.length s1:Value).ownBlock /\k_≠g0)) k_/\some k_≠(u5:Value).ownBlock) rfl rfl ?aP (λ_ hk=>hk) ?aF ?aO ?aB ?aS ?aL ?_;(case aP=>exact(o32_mkF _ _ _ (⟨(rd_T32 t1 x2).f0,(rd_T32 t1 x2).f1,wrap64 (((rd_T32 t1 x2).f2)+1),(rd_T32 t1 x2).f3⟩:S32) (Kd.N_mono (ok':=(λk_=>((λk_=>(P0_ k_\/w.heap.size<=k_)/\some k_≠(u6:Value).ownBlock /\some k_≠(.slice (some d0) t1.length s1:Value).ownBlock /\k_≠g0)) k_/\some k_≠(u5:Value).ownBlock)) (HL263_3.out) (λk_ hk=>⟨⟨hk.1,⟨hk.2.2.1,⟨hk.2.2.2.1,hk.2.2.2.2⟩⟩⟩,hk.2.1⟩))));(case aB=>exact mB);(case aF=>exact(λk_ hk=>⟨(.inr (Nat.le_trans (below_size mB) hk)),Kd.fresh' (Kd.R_lt mZ) k_ hk,Kd.fresh' (Kd.N_lt mCJ) k_ hk,Kd.freshB (g:=g0) (o:= .cells #[.int .i64 ((rd_T32 t1 x2).f0),.int .i64 ((rd_T32 t1 x2).f1),.int .i64 (wrap64 (((rd_T32 t1 x2).f2)+1)),.slice A7 ((rd_T32 t1 x2).f3).length s3] 32 (0,0)) mC k_ hk⟩));(case aO=>exact mL);(case aS=>exact(below_size mB));(case aL=>have:=L0.out;omega);intro v266 wc ho hb hg hat;rw[<-Y1.out]at ho;replace O3:=Aside0.mk (Kd.R_over' mZ (Kd.N_typed mL) mAE hg);replace O4:=Aside0.mk (Kd.N_afterv (ok:=(λk_=>(P0_ k_\/w.heap.size<=k_)/\some k_≠(u6:Value).ownBlock /\k_≠g0)) (by(with_reducible repeat (first|apply Kd.N_alloc|apply Kd.N_drewN|apply Kd.N_drew));exact Kd.N_mono O4.out (λ_ hk=>⟨⟨hk.1,⟨hk.2.2.1,hk.2.2.2⟩⟩,hk.2.1⟩)) hg hat);replace HL263_3:=Aside0.mk (Kd.N_afterv (ok:=(λk_=>(P0_ k_\/w.heap.size<=k_)/\some k_≠(u6:Value).ownBlock /\some k_≠(.slice (some d0) t1.length s1:Value).ownBlock /\k_≠g0)) (by(with_reducible repeat (first|apply Kd.N_alloc|apply Kd.N_drewN|apply Kd.N_drew));exact Kd.N_mono HL263_3.out (λ_ hk=>⟨⟨hk.1,⟨hk.2.2.1,⟨hk.2.2.2.1,hk.2.2.2.2⟩⟩⟩,hk.2.1⟩)) hg hat);replace B0:=Aside0.mk (blk_grown (g:=g0) (o:= .cells #[.int .i64 ((rd_T32 t1 x2).f0),.int .i64 ((rd_T32 t1 x2).f1),.int .i64 (wrap64 (((rd_T32 t1 x2).f2)+1)),.slice A7 ((rd_T32 t1 x2).f3).length s3] 32 (0,0)) mC hg (Kd.N_away O2.out (λ_ hk=>hk.2.2.2)));replace HB:=Aside0.mk (hb);have O5:=Aside0.mk (ho);clear O2;clear ho hb hg hat))
         go_roundg k1
         case measure=>have:=HK1.out;omega
         case rel=>exact⟨(y5),(x1),(wrap64 (x2+1)),mJ,H',⟨by have:=HK1.out;omega⟩,⟨by(with_reducible repeat (first|apply Kd.N_alloc|apply Kd.N_drewN|apply Kd.N_drew));exact Kd.N_mono O5.out (λ_ hk=>⟨hk.1,⟨hk.2.1,hk.2.2.1⟩⟩)⟩,⟨by(with_reducible repeat (first|apply Kd.R_alloc|apply Kd.R_drewN|apply Kd.R_drew));exact O3.out⟩,⟨by(with_reducible repeat (first|apply Kd.N_alloc|apply Kd.N_drewN|apply Kd.N_drew));exact Kd.N_mono O4.out (λ_ hk=>⟨hk.1.1,⟨hk.2,hk.1.2.1⟩⟩)⟩,⟨by repeat (first|(with_reducible first|exact HB.out|apply below_alloc|apply pw_below_drewN|apply below_drew1|refine below_set ?_ G1.out)|exact HB.out)⟩⟩
        ·rw[if_neg cm]at H
         exact absurd H mAY
       ·rw[if_neg ck]at H
        have cl:=decide_eq_false ck;clear ck
        by_cases cn:x1.length<17592186044416
        ·rw[if_pos cn]at H
         have L1:=Aside0.mk cn;clear cn;obtain⟨y6,Y2⟩:∃y_:List Int,y_=(x1++[(rd_T32 t1 x2).f0]):=⟨_,rfl⟩
         replace H:(store_Older.l0 k1 x0 y6 t1 (t1.length:Int) (wrap64 (x2+1)))=some (r1,r2,r3):=by first|(rw[Y2];with_reducible exact H)|(have H2_:=(Option.bind_some _ _).symm.trans H;rw[Y2];with_reducible exact H2_)|(have H2_:=(Option.bind_some _ _).symm.trans H;with_reducible exact H2_)|with_reducible exact H|(rw[Y2];exact H)|exact H
         have Y3:=Aside0.mk Y2;clear Y2;have H':=Aside0.mk H;clear H;have p0:0<=(x2:Int):=of_decide_eq_true mF;have q0:x2<(t1.length:Int):=of_decide_eq_true mF;obtain⟨d0,A7,s3,e0,h0,h1,h2,h3,i0,i1⟩:=at_T32 (Kd.N_reads' (Kd.own_N O4.out)).2.2 x2 p0 q0;cases e0;obtain⟨ce263,hce263,hMe263,hcc263⟩:=Kd.N_get O4.out z32 x2 p0 mDO;obtain⟨ua263_3,uc263_3,rfl,ul263_3,ge263_3⟩:=o32_openF hMe263;have hv263_3:=hcc263 3 _ rfl;rw[add_field _ _ 3 mBX]at hv263_3;replace hv263_3:=Option.some.inj (hv263_3.symm.trans h3)
         injection hv263_3 with hva_ hvn_ hvc_
         rw[hva_,hvc_]at ge263_3;have HL263_3:=Aside0.mk (show Kd.N k56 56 _ w.heap.size _ _ ((rd_T32 t1 x2).f3)from ge263_3);clear hva_ hvn_ hvc_ ge263_3 ul263_3;clear hcc263 hce263;have R0:=Aside0.mk i1;have K0:=Aside0.mk i0;clear i1 i0;replace p0:=eq_true p0;replace q0:=eq_true q0
         go_wp2_with (first|((with_reducible refine gate_dst (N:=8) rfl ?_);refine bxV (N:=8) (cs:=#[.int .i64 0,.int .i64 0,.int .i64 0,.slice none 0 0]) (t:=32) (h:=?_);intro g0 hg wd hbox hb;replace O2:=Aside0.mk (Kd.N_below (Kd.N_elderB mL g0 (Nat.le_of_eq hg.symm)) hb);replace O3:=Aside0.mk (Kd.R_below mZ hb);replace O4:=Aside0.mk (Kd.N_below (Kd.N_elderB mCJ g0 (Nat.le_of_eq hg.symm)) hb);replace HL263_3:=Aside0.mk (Kd.N_below (Kd.N_elderB mDM g0 (Nat.le_of_eq hg.symm)) hb);replace R0:=Aside0.mk (Kd.C_below mBB hb);have B0:=Aside0.mk (hbox);have G0:=Aside0.mk ((mH:w.heap.size<=g0));have G1:=Aside0.mk ((mH:w.heap.size<=g0));replace HB:=Aside0.mk (below_step mA hb);clear hb hbox hg;obtain⟨zf,zg,zh,zi⟩:=bc4 B0.out;have zj:=blk_frozen B0.out)|((with_reducible refine gate_store (t:=32) (p:=8) rfl ?_);refine stV (t:=32) (p:=8) (w1:=((((wd.setCell ⟨g0,0,none⟩ (.int .i64 ((rd_T32 t1 x2).f0))).setCell ⟨g0,1,none⟩ (.int .i64 ((rd_T32 t1 x2).f1))).setCell ⟨g0,2,none⟩ (.int .i64 ((rd_T32 t1 x2).f2))).setCell ⟨g0,3,none⟩ (.slice A7 ((rd_T32 t1 x2).f3).length s3))) (h:=?_);intro wf hw;replace O2:Aside0 (Kd.N (o32 w.heap.size) 32 wf w.heap.size (λk_=>(P0_ k_\/w.heap.size<=k_)/\some k_≠(u6:Value).ownBlock /\some k_≠(.slice (some d0) t1.length s1:Value).ownBlock /\k_≠g0) u5 x0):=⟨mBA⟩;replace O3:Aside0 (Kd.R (Kd.int .i64) 3 wf w.heap.size (λk_=>(w.heap.size<=k_)) u6 x1):=⟨mBE⟩;replace O4:Aside0 (Kd.N (o32 w.heap.size) 32 wf w.heap.size (λk_=>(P0_ k_\/w.heap.size<=k_)/\some k_≠(u5:Value).ownBlock /\some k_≠(u6:Value).ownBlock /\k_≠g0) (.slice (some d0) t1.length s1) t1):=⟨mAZ⟩;replace HL263_3:Aside0 (Kd.N k56 56 wf w.heap.size (λk_=>(P0_ k_\/w.heap.size<=k_)/\some k_≠(u5:Value).ownBlock /\some k_≠(u6:Value).ownBlock /\some k_≠(.slice (some d0) t1.length s1:Value).ownBlock /\k_≠g0) (.slice A7 ((rd_T32 t1 x2).f3).length s3) ((rd_T32 t1 x2).f3)):=⟨mAX⟩;replace B0:Aside0 (wf.heap[g0]? =some (.cells #[.int .i64 ((rd_T32 t1 x2).f0),.int .i64 ((rd_T32 t1 x2).f1),.int .i64 ((rd_T32 t1 x2).f2),.slice A7 ((rd_T32 t1 x2).f3).length s3] 32 (0,0))):=⟨mAL⟩;replace HB:Aside0 (Below w.heap.size w wf):=⟨mBF⟩;clear hw;obtain⟨zk,zl,zm,zn⟩:=bc4 B0.out;have zo:=blk_frozen B0.out)|((with_reducible refine gate_store (t:=3) (p:=22) rfl ?_);refine stV (t:=3) (p:=22) (w1:=(wf.setCell ⟨g0,2,none⟩ (.int .i64 (wrap64 (((rd_T32 t1 x2).f2)+1))))) (h:=?_);intro wh hw;replace O2:Aside0 (Kd.N (o32 w.heap.size) 32 wh w.heap.size (λk_=>(P0_ k_\/w.heap.size<=k_)/\some k_≠(u6:Value).ownBlock /\some k_≠(.slice (some d0) t1.length s1:Value).ownBlock /\k_≠g0) u5 x0):=⟨mBR⟩;replace O3:Aside0 (Kd.R (Kd.int .i64) 3 wh w.heap.size (λk_=>(w.heap.size<=k_)) u6 x1):=⟨mBY⟩;replace O4:Aside0 (Kd.N (o32 w.heap.size) 32 wh w.heap.size (λk_=>(P0_ k_\/w.heap.size<=k_)/\some k_≠(u5:Value).ownBlock /\some k_≠(u6:Value).ownBlock /\k_≠g0) (.slice (some d0) t1.length s1) t1):=⟨mBQ⟩;replace HL263_3:Aside0 (Kd.N k56 56 wh w.heap.size (λk_=>(P0_ k_\/w.heap.size<=k_)/\some k_≠(u5:Value).ownBlock /\some k_≠(u6:Value).ownBlock /\some k_≠(.slice (some d0) t1.length s1:Value).ownBlock /\k_≠g0) (.slice A7 ((rd_T32 t1 x2).f3).length s3) ((rd_T32 t1 x2).f3)):=⟨mBN⟩;replace B0:Aside0 (wh.heap[g0]? =some (.cells #[.int .i64 ((rd_T32 t1 x2).f0),.int .i64 ((rd_T32 t1 x2).f1),.int .i64 (wrap64 (((rd_T32 t1 x2).f2)+1)),.slice A7 ((rd_T32 t1 x2).f3).length s3] 32 (0,0))):=⟨mBL⟩;replace HB:Aside0 (Below w.heap.size w wh):=⟨mBF⟩;clear hw;obtain⟨zp,zq,zr,zs⟩:=bc4 B0.out;have zt:=blk_frozen B0.out)|((with_reducible refine gate_builtin (b:= .append) (xs:=#[.tmp 30,.tmp 33]) rfl ?_);at_builtin;refine Kd.R_append (Kd.int .i64) (w0:=w) w.heap.size rfl (.tmp 30) (.tmp 33) 22 3 (.int .i64 0) 8 rfl Try.underlying22 info3 rfl mAE mBX u6 x1 ((rd_T32 t1 x2).f0) [.int .i64 ((rd_T32 t1 x2).f0)] (λk_=>(w.heap.size<=k_)) (λ_=>False) rfl rfl ?aP (λ_ hk=>hk.elim) ?aF ?aO ?aB ?aS ?aL ?_;(case aP=>exact rfl);(case aB=>exact mB);(case aF=>exact(λk_ hk=>(Nat.le_trans (below_size mB) hk)));(case aO=>exact mZ);(case aS=>exact(below_size mB));(case aL=>have:=L1.out;omega);intro v269 wj ho hb hg hat;rw[<-Y3.out]at ho;replace O2:=Aside0.mk (Kd.N_afterv (ok:=(λk_=>(P0_ k_\/w.heap.size<=k_)/\some k_≠(.slice (some d0) t1.length s1:Value).ownBlock /\k_≠g0)) (by(with_reducible repeat (first|apply Kd.N_alloc|apply Kd.N_drewN|apply Kd.N_drew));exact Kd.N_mono O2.out (λ_ hk=>⟨⟨hk.1,⟨hk.2.2.1,hk.2.2.2⟩⟩,hk.2.1⟩)) hg hat);replace O4:=Aside0.mk (Kd.N_afterv (ok:=(λk_=>(P0_ k_\/w.heap.size<=k_)/\some k_≠(u5:Value).ownBlock /\k_≠g0)) (by(with_reducible repeat (first|apply Kd.N_alloc|apply Kd.N_drewN|apply Kd.N_drew));exact Kd.N_mono O4.out (λ_ hk=>⟨⟨hk.1,⟨hk.2.1,hk.2.2.2⟩⟩,hk.2.2.1⟩)) hg hat);replace HL263_3:=Aside0.mk (Kd.N_afterv (ok:=(λk_=>(P0_ k_\/w.heap.size<=k_)/\some k_≠(u5:Value).ownBlock /\some k_≠(.slice (some d0) t1.length s1:Value).ownBlock /\k_≠g0)) (by(with_reducible repeat (first|apply Kd.N_alloc|apply Kd.N_drewN|apply Kd.N_drew));exact Kd.N_mono HL263_3.out (λ_ hk=>⟨⟨hk.1,⟨hk.2.1,⟨hk.2.2.2.1,hk.2.2.2.2⟩⟩⟩,hk.2.2.1⟩)) hg hat);replace B0:=Aside0.mk (blk_grown (g:=g0) (o:= .cells #[.int .i64 ((rd_T32 t1 x2).f0),.int .i64 ((rd_T32 t1 x2).f1),.int .i64 (wrap64 (((rd_T32 t1 x2).f2)+1)),.slice A7 ((rd_T32 t1 x2).f3).length s3] 32 (0,0)) mC hg (Kd.R_ne O3.out B0.out mAE));replace HB:=Aside0.mk (hb);have O6:=Aside0.mk (ho);clear O3;clear ho hb hg hat))
         go_roundg k1
         case measure=>have:=HK1.out;omega
         case rel=>exact⟨(x0),(y6),(wrap64 (x2+1)),mJ,H',⟨by have:=HK1.out;omega⟩,⟨by(with_reducible repeat (first|apply Kd.N_alloc|apply Kd.N_drewN|apply Kd.N_drew));exact Kd.N_mono O2.out (λ_ hk=>⟨hk.1.1,⟨hk.2,hk.1.2.1⟩⟩)⟩,⟨by(with_reducible repeat (first|apply Kd.R_alloc|apply Kd.R_drewN|apply Kd.R_drew));exact O6.out⟩,⟨by(with_reducible repeat (first|apply Kd.N_alloc|apply Kd.N_drewN|apply Kd.N_drew));exact Kd.N_mono O4.out (λ_ hk=>⟨hk.1.1,⟨hk.1.2.1,hk.2⟩⟩)⟩,⟨by repeat (first|(with_reducible first|exact HB.out|apply below_alloc|apply pw_below_drewN|apply below_drew1|refine below_set ?_ G1.out)|exact HB.out)⟩⟩
        ·rw[if_neg cn]at H
         exact absurd H mAY
      ·rw[if_neg ci]at H
       exact absurd H mAY
     ·rw[if_neg c9]at H
      exact absurd H mAY
    ·rw[if_neg c8]at H
     have ca:=decide_eq_false c8;clear c8;simp only[Option.some.injEq,Prod.mk.injEq]at H;obtain⟨rfl,rfl,rfl⟩:=H;go_wp2
     go_ret3
     exact⟨_,_,by first|rfl|(simp[errW_none,errW_some] <;> rfl)|(simp[*,errW_none,errW_some] <;> rfl),by(with_reducible repeat (first|apply Kd.N_alloc|apply Kd.N_drewN|apply Kd.N_drew));exact Kd.N_mono O2.out (λ_ hk=>⟨hk.1,hk.2.1⟩),by(with_reducible repeat (first|apply Kd.R_alloc|apply Kd.R_drewN|apply Kd.R_drew));exact O3.out,by repeat (first|(with_reducible first|exact HB.out|apply below_alloc|apply pw_below_drewN|apply below_drew1)|exact HB.out)⟩
 ·replace c3:=Bool.eq_false_iff.mpr c3
  subst c3;rw[if_neg (show ¬(false=true)by decide)]at H;simp only[Option.some.injEq,Prod.mk.injEq]at H;obtain⟨rfl,rfl,rfl⟩:=H
  go_enter Try.func19,Try.ntmps19
  go_wp2_with (first|((with_reducible refine gate_callee (f:=13) rfl ?_);refine cLV (some 10) Try.func13 #[.slice A0 l0.length c0] (h:=?_);(with_reducible refine(store_May.calls k _ _ l0 false _ ?side1 ?side2 A2.out).mono ?_);(case side1=>repeat (first|exact(Kd.V_reads' O0.out).2.2 |(with_reducible refine Kd.C_alloc ?_ _)|(with_reducible refine Kd.C_drewN ?_ _)|(with_reducible refine Kd.C_drew ?_)));(case side2=>exact(Kd.V_reads' O0.out).2.1);rintro e wk ⟨rfl,hb⟩;refine⟨_,rfl,?_⟩;replace O0:=Aside0.mk (Kd.V_below mAC hb);replace HB:=Aside0.mk (below_step mA hb);(try clear hb)))
  go_ret3
  exact⟨_,_,by first|rfl|(simp[errW_none,errW_some] <;> rfl)|(simp[*,errW_none,errW_some] <;> rfl),by first|exact Kd.S_nil _ _ _ _ _|exact Kd.N_nil _ _ _ _ _|exact Kd.V_nil _ _ _ _ _|exact Kd.Q_nil _ _ _ _ _|exact Kd.R_nil _ _ _ _ _,by first|exact Kd.R_nil _ _ _ _ _|exact Kd.N_nil _ _ _ _ _|exact Kd.V_nil _ _ _ _ _|exact Kd.Q_nil _ _ _ _ _|exact Kd.S_nil _ _ _ _ _,by repeat (first|(with_reducible first|exact HB.out|apply below_alloc|apply pw_below_drewN|apply below_drew1)|exact HB.out)⟩
theorem store_Older.calls (k:Nat) (P0_:Nat->Prop) (A0:Option Addr) (c0:Nat) (l0:List (S32)) (r1:List (S32)) (r2:List Int) (r3:Int) (w:World) (hs0:Kd.V k32 32 w w.heap.size (λk_=>P0_ k_) (.slice A0 l0.length c0) l0) (h:store_Older.f k l0=some (r1,r2,r3)):
  Calls Try.prog 19 #[.slice A0 l0.length c0] w λe w'=>∃v0_ v1_:Value,e= .returned (.tuple #[v0_,v1_,.int .i64 r3])/\Kd.N k32 32 w' w.heap.size (λk_=>(P0_ k_\/w.heap.size<=k_)/\some k_≠(v1_:Value).ownBlock) v0_ r1/\Kd.R (Kd.int .i64) 3 w' w.heap.size (λk_=>(w.heap.size<=k_)) v1_ r2/\Below w.heap.size w w':=
  (store_Older.callsO k P0_ A0 c0 l0 r1 r2 r3 w hs0 h).mono (λe w' ⟨v0_,v1_,he,hN,hr⟩=>⟨v0_,v1_,he,Kd.own_N hN,hr⟩)
def watchwordlaw0_SameLinks.l0:Nat->List (S56)->List (S56)->Int->Option (Bool)
 |0,_,_,_=>none
 |k+1,x0,x1,x5=>if x5<(x0.length:Int)then(if 0<=x5 then(if x5<(x1.length:Int)then(if(!(((rd_T56 x0 x5).f0)==((rd_T56 x1 x5).f0))||(!(((rd_T56 x0 x5).f1)==((rd_T56 x1 x5).f1))))=true then(some false)else(watchwordlaw0_SameLinks.l0 k x0 x1 (wrap64 (x5+1))))else(none))else(none))else(some true)
def watchwordlaw0_SameLinks.f (k:Nat) (l0:List (S56)) (l1:List (S56)):Option (Bool):=if(l0.length:Int)=(l1.length:Int)then(watchwordlaw0_SameLinks.l0 k l0 l1 0)else(some false)
theorem watchwordlaw0_SameLinks.mono_l:∀k,(∀y0 y1 y2,LeO (watchwordlaw0_SameLinks.l0 k y0 y1 y2) (watchwordlaw0_SameLinks.l0 (k+1) y0 y1 y2))
 |0=>λ_ _ _ r h=>by simp[watchwordlaw0_SameLinks.l0]at h
 |k+1=>by
  have ih0:=watchwordlaw0_SameLinks.mono_l k
  ·intro y0 y1 y2
   unfold watchwordlaw0_SameLinks.l0
   repeat' (with_reducible first|exact ih0 _ _ _|exact LeO.refl _|exact LeO.none _|refine LeO.ite ?_ ?_ |refine LeO.bind ?_ (λ_=>?_))
theorem watchwordlaw0_SameLinks.mono:∀a0 a1 k,LeO (watchwordlaw0_SameLinks.f k a0 a1) (watchwordlaw0_SameLinks.f (k+1) a0 a1):=by
 intro a0 a1 k;have ih0:=watchwordlaw0_SameLinks.mono_l k;unfold watchwordlaw0_SameLinks.f
 repeat' (with_reducible first|exact ih0 _ _ _|exact LeO.refl _|exact LeO.none _|refine LeO.ite ?_ ?_ |refine LeO.bind ?_ (λ_=>?_))
set_option maxHeartbeats 8000000 in
set_option maxRecDepth 100000 in
theorem watchwordlaw0_SameLinks.calls (k:Nat) (A0:Option Addr) (c0:Nat) (l0:List (S56)) (A1:Option Addr) (c1:Nat) (l1:List (S56)) (r:Bool) (w:World) (hr0:Kd.C k56 w A0 l0.length l0) (hc0:l0.length<=c0) (hr1:Kd.C k56 w A1 l1.length l1) (hc1:l1.length<=c1) (h:watchwordlaw0_SameLinks.f k l0 l1=some r):
  Calls Try.prog 44 #[.slice A0 l0.length c0,.slice A1 l1.length c1] w λe w'=>e= .returned (.bool r)/\Drawn0 w w':=by
 have hu56:=Try.underlying56;have R0:=Aside0.mk hr0;have K0:=Aside0.mk hc0;clear hr0 hc0;have R1:=Aside0.mk hr1;have K1:=Aside0.mk hc1;clear hr1 hc1;have H:(if(l0.length:Int)=(l1.length:Int)then(watchwordlaw0_SameLinks.l0 k l0 l1 0)else(some false))=some r:=h;clear h
 by_cases c3:(l0.length:Int)=(l1.length:Int)
 ·rw[if_pos c3]at H
  have c8:=beq_iff_eq.mpr c3;have ca:=bne_eq_false_iff_eq.mpr c3
  have cc:(l0.length==l1.length)=true:=by first|simpa using c3|(simp at c3 |-;omega)
  clear c3;have H':=Aside0.mk H;clear H
  go_enter Try.func44,Try.ntmps44
  go_wp2
  repeat (go_quiet (fail);try go_wp2)
  go_loopg [5] k (λkq v5 w'=>∃(x2:Int),v5= .int .i64 x2/\Aside0 (watchwordlaw0_SameLinks.l0 kq l0 l1 x2=some r)/\Aside0 (kq<=k)/\Drawn0 w w')
  case atStart=>exact⟨(0),mJ,H',⟨Nat.le_refl _⟩,by repeat (first|exact Drawn0.refl _|apply Drawn0.step)⟩
  case round=>
   clear H';(try clear c1);(try clear p2);(try clear c3);(try clear c8);(try clear ca);(try clear cc);obtain⟨x2,rfl,HA,HK1,⟨m1,rfl⟩⟩:=hrel;cases gk with
   |zero=>exact absurd HA.out (by simp[watchwordlaw0_SameLinks.l0])
   |succ k1=>
    have H:=HA.out;clear HA;simp only[watchwordlaw0_SameLinks.l0]at H
    by_cases c4:x2<(l0.length:Int)
    ·rw[if_pos c4]at H
     have cj:=decide_eq_true c4;clear c4
     by_cases c5:0<=x2
     ·rw[if_pos c5]at H
      have co:=decide_eq_true c5;clear c5
      by_cases c6:x2<(l1.length:Int)
      ·rw[if_pos c6]at H
       have ct:=decide_eq_true c6;clear c6
       by_cases c7:(!(((rd_T56 l0 x2).f0)==((rd_T56 l1 x2).f0))||(!(((rd_T56 l0 x2).f1)==((rd_T56 l1 x2).f1))))=true
       ·rw[if_pos c7]at H
        have cy:(!(((rd_T56 l0 x2).f0)==((rd_T56 l1 x2).f0))||(!(((rd_T56 l0 x2).f1)==((rd_T56 l1 x2).f1))))=true:=c7;clear c7;obtain rfl:=Option.some.inj H;have p0:0<=(x2:Int):=of_decide_eq_true mF;have q0:x2<(l0.length:Int):=of_decide_eq_true mF;obtain⟨d0,e0,h0,h1⟩:=at_T56 R0.out x2 p0 q0;cases e0;replace p0:=eq_true p0;replace q0:=eq_true q0;have p1:0<=(x2:Int):=of_decide_eq_true mF;have q1:x2<(l1.length:Int):=of_decide_eq_true mF;obtain⟨d1,e1,h2,h3⟩:=at_T56 R1.out x2 p1 q1;cases e1;replace p1:=eq_true p1;replace q1:=eq_true q1;go_wp2
        repeat (go_quiet (fail);try go_wp2)
        go_ret;exact⟨by first|rfl|(simp;done)|(simp[*];done),by repeat (first|exact Drawn0.refl _|apply Drawn0.step)⟩
       ·rw[if_neg c7]at H
        have cy:(!(((rd_T56 l0 x2).f0)==((rd_T56 l1 x2).f0))||(!(((rd_T56 l0 x2).f1)==((rd_T56 l1 x2).f1))))=false:=by simpa using c7
        clear c7;have H':=Aside0.mk H;clear H;have p0:0<=(x2:Int):=of_decide_eq_true mF;have q0:x2<(l0.length:Int):=of_decide_eq_true mF;obtain⟨d0,e0,h0,h1⟩:=at_T56 R0.out x2 p0 q0;cases e0;replace p0:=eq_true p0;replace q0:=eq_true q0;have p1:0<=(x2:Int):=of_decide_eq_true mF;have q1:x2<(l1.length:Int):=of_decide_eq_true mF;obtain⟨d1,e1,h2,h3⟩:=at_T56 R1.out x2 p1 q1;cases e1;replace p1:=eq_true p1;replace q1:=eq_true q1;go_wp2
        repeat (go_quiet (fail);try go_wp2)
        go_roundg k1
        case measure=>have:=HK1.out;omega
        case rel=>exact⟨(wrap64 (x2+1)),mJ,H',⟨by have:=HK1.out;omega⟩,by repeat (first|exact Drawn0.refl _|apply Drawn0.step)⟩
      ·rw[if_neg c6]at H
       exact absurd H mAY
     ·rw[if_neg c5]at H
      exact absurd H mAY
    ·rw[if_neg c4]at H
     have cj:=decide_eq_false c4;clear c4;obtain rfl:=Option.some.inj H;go_wp2
     repeat (go_quiet (fail);try go_wp2)
     go_ret;exact⟨by first|rfl|(simp;done)|(simp[*];done),by repeat (first|exact Drawn0.refl _|apply Drawn0.step)⟩
 ·rw[if_neg c3]at H
  have c8:=beq_eq_false_iff_ne.mpr c3;have ca:=bne_iff_ne.mpr c3
  have cc:(l0.length==l1.length)=false:=by first|simpa using c3|(simp at c3 |-;omega)
  obtain rfl:=Option.some.inj H
  go_enter Try.func44,Try.ntmps44
  go_wp2
  repeat (go_quiet (fail);try go_wp2)
  go_ret;exact⟨by first|rfl|(simp;done)|(simp[*];done),by repeat (first|exact Drawn0.refl _|apply Drawn0.step)⟩
def watchwordlaw0_SameLsa.f (k:Nat) (a0_0:Int) (a0_1:Int) (a0_2:Int) (l0_3:List (S56)) (a1_0:Int) (a1_1:Int) (a1_2:Int) (l1_3:List (S56)):Option (Bool):=if a0_0=a1_0 then(if a0_1=a1_1 then(if a0_2=a1_2 then((watchwordlaw0_SameLinks.f k l0_3 l1_3).bind λt275=>(some t275))else(some false))else(some false))else(some false)
theorem watchwordlaw0_SameLsa.mono:∀a0 a1 a2 a3 a4 a5 a6 a7 k,LeO (watchwordlaw0_SameLsa.f k a0 a1 a2 a3 a4 a5 a6 a7) (watchwordlaw0_SameLsa.f (k+1) a0 a1 a2 a3 a4 a5 a6 a7):=by
 intro a0 a1 a2 a3 a4 a5 a6 a7 k;unfold watchwordlaw0_SameLsa.f
 repeat' (with_reducible first|exact watchwordlaw0_SameLinks.mono _ _ _|exact LeO.refl _|exact LeO.none _|refine LeO.ite ?_ ?_ |refine LeO.bind ?_ (λ_=>?_))
set_option maxHeartbeats 8000000 in
set_option maxRecDepth 100000 in
theorem watchwordlaw0_SameLsa.calls (k:Nat) (a0_0:Int) (a0_1:Int) (a0_2:Int) (A0_3:Option Addr) (c0_3:Nat) (l0_3:List (S56)) (a1_0:Int) (a1_1:Int) (a1_2:Int) (A1_3:Option Addr) (c1_3:Nat) (l1_3:List (S56)) (r:Bool) (w:World) (hr0_3:Kd.C k56 w A0_3 l0_3.length l0_3) (hc0_3:l0_3.length<=c0_3) (hr1_3:Kd.C k56 w A1_3 l1_3.length l1_3) (hc1_3:l1_3.length<=c1_3) (h:watchwordlaw0_SameLsa.f k a0_0 a0_1 a0_2 l0_3 a1_0 a1_1 a1_2 l1_3=some r):
  Calls Try.prog 22 #[.agg #[.int .i64 a0_0,.int .i64 a0_1,.int .i64 a0_2,.slice A0_3 l0_3.length c0_3],.agg #[.int .i64 a1_0,.int .i64 a1_1,.int .i64 a1_2,.slice A1_3 l1_3.length c1_3]] w λe w'=>e= .returned (.bool r)/\Below w.heap.size w w':=by
 have hu32:=Try.underlying32;have R0:=Aside0.mk hr0_3;have K0:=Aside0.mk hc0_3;clear hr0_3 hc0_3;have R1:=Aside0.mk hr1_3;have K1:=Aside0.mk hc1_3;clear hr1_3 hc1_3;have HB:=Aside0.mk (Below.refl w.heap.size w);have H:(if a0_0=a1_0 then(if a0_1=a1_1 then(if a0_2=a1_2 then((watchwordlaw0_SameLinks.f k l0_3 l1_3).bind λt0=>(some t0))else(some false))else(some false))else(some false))=some r:=h;clear h
 by_cases c3:a0_0=a1_0
 ·rw[if_pos c3]at H
  have c2:=beq_iff_eq.mpr c3;have c6:=bne_eq_false_iff_eq.mpr c3;clear c3
  by_cases c4:a0_1=a1_1
  ·rw[if_pos c4]at H
   have cb:=beq_iff_eq.mpr c4;have cd:=bne_eq_false_iff_eq.mpr c4;clear c4
   by_cases c5:a0_2=a1_2
   ·rw[if_pos c5]at H
    have ci:=beq_iff_eq.mpr c5;have ck:=bne_eq_false_iff_eq.mpr c5;clear c5;obtain⟨t0,A0,H⟩:=bsE H;(try dsimp only at H);have A6:=Aside0.mk A0;clear A0;obtain rfl:=Option.some.inj H
    go_enter Try.func22,Try.ntmps22
    go_wp2_with (first|((with_reducible refine gate_dst (N:=2) rfl ?_);refine bxV (N:=2) (cs:=#[.int .i64 a0_0,.int .i64 a0_1,.int .i64 a0_2,.slice A0_3 l0_3.length c0_3]) (t:=32) (h:=?_);intro g0 hg w7 hbox hb;have B0:=Aside0.mk (hbox);have G0:=Aside0.mk ((mH:w.heap.size<=g0));have G1:=Aside0.mk ((mH:w.heap.size<=g0));replace HB:=Aside0.mk (below_step mA hb);clear hb hbox hg)|((with_reducible refine gate_dst (N:=3) rfl ?_);refine bxV (N:=3) (cs:=#[.int .i64 a1_0,.int .i64 a1_1,.int .i64 a1_2,.slice A1_3 l1_3.length c1_3]) (t:=32) (h:=?_);intro g1 hg w8 hbox hb;have B1:=Aside0.mk (hbox);have G2:=Aside0.mk ((mW:w.heap.size<=g1));have G3:=Aside0.mk ((mW:w.heap.size<=g1));replace HB:=Aside0.mk (below_step mB hb);have N0:=Aside0.mk ((mX:g0≠g1));have N1:=Aside0.mk ((mY:g1≠g0));replace B0:=Aside0.mk (blk_below mC hb);clear hb hbox hg;have n0:=N0.out;have n1:=N1.out;obtain⟨z0,z1,z2,z3⟩:=bc4 B0.out;have z4:=blk_frozen B0.out;obtain⟨z5,z6,z7,z8⟩:=bc4 B1.out;have z9:=blk_frozen B1.out)|(go_at_call 44;(with_reducible refine(watchwordlaw0_SameLinks.calls k _ _ l0_3 _ _ l1_3 t0 _ ?side1 ?side2 ?side3 ?side4 A6.out).mono ?_);(case side1=>repeat (first|exact(Kd.C_below R0.out HB.out)|(with_reducible refine Kd.C_alloc ?_ _)|(with_reducible refine Kd.C_drewN ?_ _)|(with_reducible refine Kd.C_drew ?_)));(case side2=>exact K0.out);(case side3=>repeat (first|exact(Kd.C_below R1.out HB.out)|(with_reducible refine Kd.C_alloc ?_ _)|(with_reducible refine Kd.C_drewN ?_ _)|(with_reducible refine Kd.C_drew ?_)));(case side4=>exact K1.out);rintro e w' ⟨rfl,⟨nd,rfl⟩⟩))
    go_ret;exact⟨by first|rfl|(simp[errW_none,errW_some] <;> rfl)|(simp[*,errW_none,errW_some] <;> rfl),by repeat (first|(with_reducible first|exact HB.out|apply below_alloc|apply pw_below_drewN|apply below_drew1|refine below_set ?_ G1.out|refine below_set ?_ G3.out)|exact HB.out)⟩
   ·rw[if_neg c5]at H
    have ci:=beq_eq_false_iff_ne.mpr c5;have ck:=bne_iff_ne.mpr c5;obtain rfl:=Option.some.inj H
    go_enter Try.func22,Try.ntmps22
    go_wp2_with (first|((with_reducible refine gate_dst (N:=2) rfl ?_);refine bxV (N:=2) (cs:=#[.int .i64 a0_0,.int .i64 a0_1,.int .i64 a0_2,.slice A0_3 l0_3.length c0_3]) (t:=32) (h:=?_);intro g0 hg w2 hbox hb;have B0:=Aside0.mk (hbox);have G0:=Aside0.mk ((mH:w.heap.size<=g0));have G1:=Aside0.mk ((mH:w.heap.size<=g0));replace HB:=Aside0.mk (below_step mA hb);clear hb hbox hg)|((with_reducible refine gate_dst (N:=3) rfl ?_);refine bxV (N:=3) (cs:=#[.int .i64 a1_0,.int .i64 a1_1,.int .i64 a1_2,.slice A1_3 l1_3.length c1_3]) (t:=32) (h:=?_);intro g1 hg w3 hbox hb;have B1:=Aside0.mk (hbox);have G2:=Aside0.mk ((mW:w.heap.size<=g1));have G3:=Aside0.mk ((mW:w.heap.size<=g1));replace HB:=Aside0.mk (below_step mB hb);have N0:=Aside0.mk ((mX:g0≠g1));have N1:=Aside0.mk ((mY:g1≠g0));replace B0:=Aside0.mk (blk_below mC hb);clear hb hbox hg;have n2:=N0.out;have n3:=N1.out;obtain⟨za,zb,zc,zd⟩:=bc4 B0.out;have ze:=blk_frozen B0.out;obtain⟨zf,zg,zh,zi⟩:=bc4 B1.out;have zj:=blk_frozen B1.out))
    go_ret;exact⟨by first|rfl|(simp[errW_none,errW_some] <;> rfl)|(simp[*,errW_none,errW_some] <;> rfl),by repeat (first|(with_reducible first|exact HB.out|apply below_alloc|apply pw_below_drewN|apply below_drew1|refine below_set ?_ G1.out|refine below_set ?_ G3.out)|exact HB.out)⟩
  ·rw[if_neg c4]at H
   have cb:=beq_eq_false_iff_ne.mpr c4;have cd:=bne_iff_ne.mpr c4;obtain rfl:=Option.some.inj H
   go_enter Try.func22,Try.ntmps22
   go_wp2_with (first|((with_reducible refine gate_dst (N:=2) rfl ?_);refine bxV (N:=2) (cs:=#[.int .i64 a0_0,.int .i64 a0_1,.int .i64 a0_2,.slice A0_3 l0_3.length c0_3]) (t:=32) (h:=?_);intro g0 hg w4 hbox hb;have B0:=Aside0.mk (hbox);have G0:=Aside0.mk ((mH:w.heap.size<=g0));have G1:=Aside0.mk ((mH:w.heap.size<=g0));replace HB:=Aside0.mk (below_step mA hb);clear hb hbox hg)|((with_reducible refine gate_dst (N:=3) rfl ?_);refine bxV (N:=3) (cs:=#[.int .i64 a1_0,.int .i64 a1_1,.int .i64 a1_2,.slice A1_3 l1_3.length c1_3]) (t:=32) (h:=?_);intro g1 hg w5 hbox hb;have B1:=Aside0.mk (hbox);have G2:=Aside0.mk ((mW:w.heap.size<=g1));have G3:=Aside0.mk ((mW:w.heap.size<=g1));replace HB:=Aside0.mk (below_step mB hb);have N0:=Aside0.mk ((mX:g0≠g1));have N1:=Aside0.mk ((mY:g1≠g0));replace B0:=Aside0.mk (blk_below mC hb);clear hb hbox hg;have n4:=N0.out;have n5:=N1.out;obtain⟨zk,zl,zm,zn⟩:=bc4 B0.out;have zo:=blk_frozen B0.out;obtain⟨zp,zq,zr,zs⟩:=bc4 B1.out;have zt:=blk_frozen B1.out))
   go_ret;exact⟨by first|rfl|(simp[errW_none,errW_some] <;> rfl)|(simp[*,errW_none,errW_some] <;> rfl),by repeat (first|(with_reducible first|exact HB.out|apply below_alloc|apply pw_below_drewN|apply below_drew1|refine below_set ?_ G1.out|refine below_set ?_ G3.out)|exact HB.out)⟩
 ·rw[if_neg c3]at H
  have c2:=beq_eq_false_iff_ne.mpr c3;have c6:=bne_iff_ne.mpr c3;obtain rfl:=Option.some.inj H
  go_enter Try.func22,Try.ntmps22
  go_wp2_with (first|((with_reducible refine gate_dst (N:=2) rfl ?_);refine bxV (N:=2) (cs:=#[.int .i64 a0_0,.int .i64 a0_1,.int .i64 a0_2,.slice A0_3 l0_3.length c0_3]) (t:=32) (h:=?_);intro g0 hg w6 hbox hb;have B0:=Aside0.mk (hbox);have G0:=Aside0.mk ((mH:w.heap.size<=g0));have G1:=Aside0.mk ((mH:w.heap.size<=g0));replace HB:=Aside0.mk (below_step mA hb);clear hb hbox hg)|((with_reducible refine gate_dst (N:=3) rfl ?_);refine bxV (N:=3) (cs:=#[.int .i64 a1_0,.int .i64 a1_1,.int .i64 a1_2,.slice A1_3 l1_3.length c1_3]) (t:=32) (h:=?_);intro g1 hg w9 hbox hb;have B1:=Aside0.mk (hbox);have G2:=Aside0.mk ((mW:w.heap.size<=g1));have G3:=Aside0.mk ((mW:w.heap.size<=g1));replace HB:=Aside0.mk (below_step mB hb);have N0:=Aside0.mk ((mX:g0≠g1));have N1:=Aside0.mk ((mY:g1≠g0));replace B0:=Aside0.mk (blk_below mC hb);clear hb hbox hg;have n6:=N0.out;have n7:=N1.out;obtain⟨zu,zv,zw,zx⟩:=bc4 B0.out;have zy:=blk_frozen B0.out;obtain⟨zz,z00,z01,z02⟩:=bc4 B1.out;have z03:=blk_frozen B1.out))
  go_ret;exact⟨by first|rfl|(simp[errW_none,errW_some] <;> rfl)|(simp[*,errW_none,errW_some] <;> rfl),by repeat (first|(with_reducible first|exact HB.out|apply below_alloc|apply pw_below_drewN|apply below_drew1|refine below_set ?_ G1.out|refine below_set ?_ G3.out)|exact HB.out)⟩
end Go.Proofs.Ytbpoflicphgokaa.Q18
namespace Go.Proofs.Ytbpoflicphgokaa.Q18
open Go.RowKit Go.Proofs.Ytbpoflicphgokaa.Stp Go.Proofs.YtbpoflicphgokaaW.PrintWords Go.Proofs.YtbpoflicphgokaaW.PrintLast Go.Proofs.YtbpoflicphgokaaW.PrintMore
attribute [local go_sem] max2_int min2_int max_two min_two max_three min_three max_four min_four
set_option linter.unusedVariables false
set_option linter.unusedSimpArgs false
def watchwordlaw0_SameLsas.l0:Nat->List (S32)->List (S32)->Int->Option (Bool)
 |0,_,_,_=>none
 |k+1,x0,x1,x5=>if x5<(x0.length:Int)then(if 0<=x5 then(if x5<(x1.length:Int)then((watchwordlaw0_SameLsa.f k ((rd_T32 x0 x5).f0) ((rd_T32 x0 x5).f1) ((rd_T32 x0 x5).f2) ((rd_T32 x0 x5).f3) ((rd_T32 x1 x5).f0) ((rd_T32 x1 x5).f1) ((rd_T32 x1 x5).f2) ((rd_T32 x1 x5).f3)).bind λt278=>(if t278=true then(watchwordlaw0_SameLsas.l0 k x0 x1 (wrap64 (x5+1)))else(some false)))else(none))else(none))else(some true)
def watchwordlaw0_SameLsas.f (k:Nat) (l0:List (S32)) (l1:List (S32)):Option (Bool):=if(l0.length:Int)=(l1.length:Int)then(watchwordlaw0_SameLsas.l0 k l0 l1 0)else(some false)
theorem watchwordlaw0_SameLsas.mono_l:∀k,(∀y0 y1 y2,LeO (watchwordlaw0_SameLsas.l0 k y0 y1 y2) (watchwordlaw0_SameLsas.l0 (k+1) y0 y1 y2))
 |0=>λ_ _ _ r h=>by simp[watchwordlaw0_SameLsas.l0]at h
 |k+1=>by
  have ih0:=watchwordlaw0_SameLsas.mono_l k
  ·intro y0 y1 y2
   unfold watchwordlaw0_SameLsas.l0
   repeat' (with_reducible first|exact ih0 _ _ _|exact watchwordlaw0_SameLsa.mono _ _ _ _ _ _ _ _ _|exact LeO.refl _|exact LeO.none _|refine LeO.ite ?_ ?_ |refine LeO.bind ?_ (λ_=>?_))
theorem watchwordlaw0_SameLsas.mono:∀a0 a1 k,LeO (watchwordlaw0_SameLsas.f k a0 a1) (watchwordlaw0_SameLsas.f (k+1) a0 a1):=by
 intro a0 a1 k;have ih0:=watchwordlaw0_SameLsas.mono_l k;unfold watchwordlaw0_SameLsas.f
 repeat' (with_reducible first|exact ih0 _ _ _|exact watchwordlaw0_SameLsa.mono _ _ _ _ _ _ _ _ _|exact LeO.refl _|exact LeO.none _|refine LeO.ite ?_ ?_ |refine LeO.bind ?_ (λ_=>?_))
def watchwordlaw0_SameLsas.T6:Bool × List (List Nat × List Nat):=(true,[([],[]),([],[]),([0,1],[0,1]),([2],[2]),([],[]),([],[]),([4,5],[4,5]),([6],[6]),([3,7],[3,7]),([8],[8])])
def watchwordlaw0_SameLsas.B6:List Nat:=[0,0,3,7,0,0,48,112,255,511]
theorem watchwordlaw0_SameLsas.tab6:rtab .any (opsOf Try.f21 6)=watchwordlaw0_SameLsas.T6:=by kernel_rfl
theorem watchwordlaw0_SameLsas.bits6:waitsOk watchwordlaw0_SameLsas.T6.2 watchwordlaw0_SameLsas.B6=true:=by kernel_rfl
set_option maxHeartbeats 8000000 in
set_option maxRecDepth 100000 in
theorem watchwordlaw0_SameLsas.calls (k:Nat) (A0:Option Addr) (c0:Nat) (l0:List (S32)) (A1:Option Addr) (c1:Nat) (l1:List (S32)) (r:Bool) (w:World) (hr0:Kd.C k32 w A0 l0.length l0) (hc0:l0.length<=c0) (hr1:Kd.C k32 w A1 l1.length l1) (hc1:l1.length<=c1) (h:watchwordlaw0_SameLsas.f k l0 l1=some r):
  Calls Try.prog 21 #[.slice A0 l0.length c0,.slice A1 l1.length c1] w λe w'=>e= .returned (.bool r)/\Below w.heap.size w w':=by
 have hu32:=Try.underlying32;have R0:=Aside0.mk hr0;have K0:=Aside0.mk hc0;clear hr0 hc0;have R1:=Aside0.mk hr1;have K1:=Aside0.mk hc1;clear hr1 hc1;have HB:=Aside0.mk (Below.refl w.heap.size w);have H:(if(l0.length:Int)=(l1.length:Int)then(watchwordlaw0_SameLsas.l0 k l0 l1 0)else(some false))=some r:=h;clear h
 by_cases c3:(l0.length:Int)=(l1.length:Int)
 ·rw[if_pos c3]at H
  have c9:=beq_iff_eq.mpr c3;have cb:=bne_eq_false_iff_eq.mpr c3
  have cd:(l0.length==l1.length)=true:=by first|simpa using c3|(simp at c3 |-;omega)
  clear c3;have H':=Aside0.mk H;clear H
  go_enter Try.func21,Try.ntmps21
  go_wp2
  go_loopg [5] k (λkq v5 w'=>∃(x2:Int),v5= .int .i64 x2/\Aside0 (watchwordlaw0_SameLsas.l0 kq l0 l1 x2=some r)/\Aside0 (kq<=k)/\Aside0 (Below w.heap.size w w'))
  case atStart=>exact⟨(0),mJ,H',⟨Nat.le_refl _⟩,⟨by repeat (first|(with_reducible first|exact HB.out|apply below_alloc|apply pw_below_drewN|apply below_drew1)|exact HB.out)⟩⟩
  case round=>
   clear H';(try clear c1);(try clear c2);(try clear p2);(try clear c3);(try clear c9);(try clear cb);(try clear cd);obtain⟨x2,rfl,HA,HK1,HB⟩:=hrel;cases gk with
   |zero=>exact absurd HA.out (by simp[watchwordlaw0_SameLsas.l0])
   |succ k1=>
    have H:=HA.out;clear HA;simp only[watchwordlaw0_SameLsas.l0]at H
    by_cases c4:x2<(l0.length:Int)
    ·rw[if_pos c4]at H
     have ck:=decide_eq_true c4;clear c4
     by_cases c5:0<=x2
     ·rw[if_pos c5]at H
      have cp:=decide_eq_true c5;clear c5
      by_cases c6:x2<(l1.length:Int)
      ·rw[if_pos c6]at H
       have cu:=decide_eq_true c6;clear c6;obtain⟨t0,A2,H⟩:=bsE H;(try dsimp only at H);have A7:=Aside0.mk A2;clear A2
       by_cases c8:t0=true
       ·subst c8
        rw[if_pos rfl]at H;have H':=Aside0.mk H;clear H;(try go_wp2);replace HB:=Aside0.mk (below_drew1 HB.out);have p0:0<=(x2:Int):=of_decide_eq_true mF;have q0:x2<(l0.length:Int):=of_decide_eq_true mF;obtain⟨d0,A4,s8,e0,h0,h1,h2,h3,i0,i1⟩:=at_T32 R0.out x2 p0 q0;have hw276_3:=h3;have hw276_2:=h2;have hw276_1:=h1;have hw276_0:=h0;cases e0;replace h0:=hB HB h0;replace h1:=hB HB h1;replace h2:=hB HB h2;replace h3:=hB HB h3;have R2:=Aside0.mk i1;have K2:=Aside0.mk i0;clear i1 i0;replace p0:=eq_true p0;replace q0:=eq_true q0;have p1:0<=(x2:Int):=of_decide_eq_true mF;have q1:x2<(l1.length:Int):=of_decide_eq_true mF;obtain⟨d1,A5,s9,e1,h4,h5,h6,h7,i2,i3⟩:=at_T32 R1.out x2 p1 q1;have hw277_3:=h7;have hw277_2:=h6;have hw277_1:=h5;have hw277_0:=h4;cases e1;replace h4:=hB HB h4;replace h5:=hB HB h5;replace h6:=hB HB h6;replace h7:=hB HB h7;have R3:=Aside0.mk i3;have K3:=Aside0.mk i2;clear i3 i2;replace p1:=eq_true p1;replace q1:=eq_true q1;refine start_ (n:=10) (S:=λw'=>w'.cell? (d0.add ((x2).toNat *4))=some (.int .i64 ((rd_T32 l0 x2).f0))/\w'.cell? ⟨(d0.add ((x2).toNat *4)).block,(d0.add ((x2).toNat *4)).off +1,none⟩=some (.int .i64 ((rd_T32 l0 x2).f1))/\w'.cell? ⟨(d0.add ((x2).toNat *4)).block,(d0.add ((x2).toNat *4)).off +2,none⟩=some (.int .i64 ((rd_T32 l0 x2).f2))/\w'.cell? ⟨(d0.add ((x2).toNat *4)).block,(d0.add ((x2).toNat *4)).off +3,none⟩=some (.slice A4 ((rd_T32 l0 x2).f3).length s8)/\w'.cell? (d1.add ((x2).toNat *4))=some (.int .i64 ((rd_T32 l1 x2).f0))/\w'.cell? ⟨(d1.add ((x2).toNat *4)).block,(d1.add ((x2).toNat *4)).off +1,none⟩=some (.int .i64 ((rd_T32 l1 x2).f1))/\w'.cell? ⟨(d1.add ((x2).toNat *4)).block,(d1.add ((x2).toNat *4)).off +2,none⟩=some (.int .i64 ((rd_T32 l1 x2).f2))/\w'.cell? ⟨(d1.add ((x2).toNat *4)).block,(d1.add ((x2).toNat *4)).off +3,none⟩=some (.slice A5 ((rd_T32 l1 x2).f3).length s9)) (ds:=[]) mk_10_0 mAI rfl rfl ⟨((HB.out.cell (World.block_lt_of_cell? w _ hw276_0)).trans hw276_0),((HB.out.cell (World.block_lt_of_cell? w _ hw276_1)).trans hw276_1),((HB.out.cell (World.block_lt_of_cell? w _ hw276_2)).trans hw276_2),((HB.out.cell (World.block_lt_of_cell? w _ hw276_3)).trans hw276_3),((HB.out.cell (World.block_lt_of_cell? w _ hw277_0)).trans hw277_0),((HB.out.cell (World.block_lt_of_cell? w _ hw277_1)).trans hw277_1),((HB.out.cell (World.block_lt_of_cell? w _ hw277_2)).trans hw277_2),((HB.out.cell (World.block_lt_of_cell? w _ hw277_3)).trans hw277_3)⟩ (λhHeld=>?_);refine with_tabW watchwordlaw0_SameLsas.tab6 watchwordlaw0_SameLsas.bits6 (λHT_ HW_=>?_);generalize wr.drew=w9 at HB R2 R3 h0 h1 h2 h3 h4 h5 h6 h7 hHeld |-;refine pV 0 17 mk_10_1 ?_;refine pV 1 18 mk_10_2 ?_;refine pV 2 19 mk_10_3 ?_;refine pV 4 21 #[true,true,true,false,true,false,false,false,false,false] ?_;refine pV 5 22 #[true,true,true,false,true,true,false,false,false,false] ?_;refine pV 6 23 #[true,true,true,false,true,true,true,false,false,false] ?_;refine tV 3 (some 20) mk_10_7 (hy:=Or.inl ⟨by rfl,by rintro w' ⟨s0,s1,s2,s3,s4,s5,s6,s7⟩;go_simp;with_reducible rfl⟩) (h:=?_);refine tV 7 (some 24) mk_10_8 (hy:=Or.inl ⟨by rfl,by rintro w' ⟨s0,s1,s2,s3,s4,s5,s6,s7⟩;go_simp;with_reducible rfl⟩) (h:=?_);refine oV 8 (some 25) mk_10_9 (h:=λK hK=>?_);refine gV Try.func22 #[.agg #[.int .i64 ((rd_T32 l0 x2).f0),.int .i64 ((rd_T32 l0 x2).f1),.int .i64 ((rd_T32 l0 x2).f2),.slice A4 ((rd_T32 l0 x2).f3).length s8],.agg #[.int .i64 ((rd_T32 l1 x2).f0),.int .i64 ((rd_T32 l1 x2).f1),.int .i64 ((rd_T32 l1 x2).f2),.slice A5 ((rd_T32 l1 x2).f3).length s9]] (h:=?_)
        with_reducible refine(watchwordlaw0_SameLsa.calls k1 ((rd_T32 l0 x2).f0) ((rd_T32 l0 x2).f1) ((rd_T32 l0 x2).f2) _ _ ((rd_T32 l0 x2).f3) ((rd_T32 l1 x2).f0) ((rd_T32 l1 x2).f1) ((rd_T32 l1 x2).f2) _ _ ((rd_T32 l1 x2).f3) true _ ?side1 ?side2 ?side3 ?side4 A7.out).mono ?_
        (case side1=>repeat (first|exact(Kd.C_below R2.out HB.out)|(with_reducible refine Kd.C_alloc ?_ _)|(with_reducible refine Kd.C_drewN ?_ _)|(with_reducible refine Kd.C_drew ?_)))
        (case side2=>exact K2.out)
        (case side3=>repeat (first|exact(Kd.C_below R3.out HB.out)|(with_reducible refine Kd.C_alloc ?_ _)|(with_reducible refine Kd.C_drewN ?_ _)|(with_reducible refine Kd.C_drew ?_)))
        (case side4=>exact K3.out)
        rintro e w1 ⟨rfl,hb⟩;refine⟨_,rfl,?_⟩;replace HB:=Aside0.mk (below_step mA hb);(try clear hb);(try clear hb2);(try clear hk);(try clear hi);refine hK.out _ _ ⟨((HB.out.cell (World.block_lt_of_cell? w _ hw276_0)).trans hw276_0),((HB.out.cell (World.block_lt_of_cell? w _ hw276_1)).trans hw276_1),((HB.out.cell (World.block_lt_of_cell? w _ hw276_2)).trans hw276_2),((HB.out.cell (World.block_lt_of_cell? w _ hw276_3)).trans hw276_3),((HB.out.cell (World.block_lt_of_cell? w _ hw277_0)).trans hw277_0),((HB.out.cell (World.block_lt_of_cell? w _ hw277_1)).trans hw277_1),((HB.out.cell (World.block_lt_of_cell? w _ hw277_2)).trans hw277_2),((HB.out.cell (World.block_lt_of_cell? w _ hw277_3)).trans hw277_3)⟩ (λhHeld=>?_);clear hK K;refine nV 25 (h:=?_);refine pV 9 26 mk_10_10 ?_;refine done_ (done_of HT_.out mAI) ?_;(try go_wp2)
        go_roundg k1
        case measure=>have:=HK1.out;omega
        case rel=>exact⟨(wrap64 (x2+1)),mJ,H',⟨by have:=HK1.out;omega⟩,⟨by repeat (first|(with_reducible first|exact HB.out|apply below_alloc|apply pw_below_drewN|apply below_drew1)|exact HB.out)⟩⟩
       ·replace c8:=Bool.eq_false_iff.mpr c8
        subst c8;rw[if_neg (show ¬(false=true)by decide)]at H;obtain rfl:=Option.some.inj H;(try go_wp2);replace HB:=Aside0.mk (below_drew1 HB.out);have p0:0<=(x2:Int):=of_decide_eq_true mF;have q0:x2<(l0.length:Int):=of_decide_eq_true mF;obtain⟨d0,A4,s8,e0,h0,h1,h2,h3,i0,i1⟩:=at_T32 R0.out x2 p0 q0;have hw276_3:=h3;have hw276_2:=h2;have hw276_1:=h1;have hw276_0:=h0;cases e0;replace h0:=hB HB h0;replace h1:=hB HB h1;replace h2:=hB HB h2;replace h3:=hB HB h3;have R2:=Aside0.mk i1;have K2:=Aside0.mk i0;clear i1 i0;replace p0:=eq_true p0;replace q0:=eq_true q0;have p1:0<=(x2:Int):=of_decide_eq_true mF;have q1:x2<(l1.length:Int):=of_decide_eq_true mF;obtain⟨d1,A5,s9,e1,h4,h5,h6,h7,i2,i3⟩:=at_T32 R1.out x2 p1 q1;have hw277_3:=h7;have hw277_2:=h6;have hw277_1:=h5;have hw277_0:=h4;cases e1;replace h4:=hB HB h4;replace h5:=hB HB h5;replace h6:=hB HB h6;replace h7:=hB HB h7;have R3:=Aside0.mk i3;have K3:=Aside0.mk i2;clear i3 i2;replace p1:=eq_true p1;replace q1:=eq_true q1;refine start_ (n:=10) (S:=λw'=>w'.cell? (d0.add ((x2).toNat *4))=some (.int .i64 ((rd_T32 l0 x2).f0))/\w'.cell? ⟨(d0.add ((x2).toNat *4)).block,(d0.add ((x2).toNat *4)).off +1,none⟩=some (.int .i64 ((rd_T32 l0 x2).f1))/\w'.cell? ⟨(d0.add ((x2).toNat *4)).block,(d0.add ((x2).toNat *4)).off +2,none⟩=some (.int .i64 ((rd_T32 l0 x2).f2))/\w'.cell? ⟨(d0.add ((x2).toNat *4)).block,(d0.add ((x2).toNat *4)).off +3,none⟩=some (.slice A4 ((rd_T32 l0 x2).f3).length s8)/\w'.cell? (d1.add ((x2).toNat *4))=some (.int .i64 ((rd_T32 l1 x2).f0))/\w'.cell? ⟨(d1.add ((x2).toNat *4)).block,(d1.add ((x2).toNat *4)).off +1,none⟩=some (.int .i64 ((rd_T32 l1 x2).f1))/\w'.cell? ⟨(d1.add ((x2).toNat *4)).block,(d1.add ((x2).toNat *4)).off +2,none⟩=some (.int .i64 ((rd_T32 l1 x2).f2))/\w'.cell? ⟨(d1.add ((x2).toNat *4)).block,(d1.add ((x2).toNat *4)).off +3,none⟩=some (.slice A5 ((rd_T32 l1 x2).f3).length s9)) (ds:=[]) mk_10_0 mAI rfl rfl ⟨((HB.out.cell (World.block_lt_of_cell? w _ hw276_0)).trans hw276_0),((HB.out.cell (World.block_lt_of_cell? w _ hw276_1)).trans hw276_1),((HB.out.cell (World.block_lt_of_cell? w _ hw276_2)).trans hw276_2),((HB.out.cell (World.block_lt_of_cell? w _ hw276_3)).trans hw276_3),((HB.out.cell (World.block_lt_of_cell? w _ hw277_0)).trans hw277_0),((HB.out.cell (World.block_lt_of_cell? w _ hw277_1)).trans hw277_1),((HB.out.cell (World.block_lt_of_cell? w _ hw277_2)).trans hw277_2),((HB.out.cell (World.block_lt_of_cell? w _ hw277_3)).trans hw277_3)⟩ (λhHeld=>?_);refine with_tabW watchwordlaw0_SameLsas.tab6 watchwordlaw0_SameLsas.bits6 (λHT_ HW_=>?_);generalize wr.drew=w2 at HB R2 R3 h0 h1 h2 h3 h4 h5 h6 h7 hHeld |-;refine pV 0 17 mk_10_1 ?_;refine pV 1 18 mk_10_2 ?_;refine pV 2 19 mk_10_3 ?_;refine pV 4 21 #[true,true,true,false,true,false,false,false,false,false] ?_;refine pV 5 22 #[true,true,true,false,true,true,false,false,false,false] ?_;refine pV 6 23 #[true,true,true,false,true,true,true,false,false,false] ?_;refine tV 3 (some 20) mk_10_7 (hy:=Or.inl ⟨by rfl,by rintro w' ⟨s0,s1,s2,s3,s4,s5,s6,s7⟩;go_simp;with_reducible rfl⟩) (h:=?_);refine tV 7 (some 24) mk_10_8 (hy:=Or.inl ⟨by rfl,by rintro w' ⟨s0,s1,s2,s3,s4,s5,s6,s7⟩;go_simp;with_reducible rfl⟩) (h:=?_);refine oV 8 (some 25) mk_10_9 (h:=λK hK=>?_);refine gV Try.func22 #[.agg #[.int .i64 ((rd_T32 l0 x2).f0),.int .i64 ((rd_T32 l0 x2).f1),.int .i64 ((rd_T32 l0 x2).f2),.slice A4 ((rd_T32 l0 x2).f3).length s8],.agg #[.int .i64 ((rd_T32 l1 x2).f0),.int .i64 ((rd_T32 l1 x2).f1),.int .i64 ((rd_T32 l1 x2).f2),.slice A5 ((rd_T32 l1 x2).f3).length s9]] (h:=?_)
        with_reducible refine(watchwordlaw0_SameLsa.calls k1 ((rd_T32 l0 x2).f0) ((rd_T32 l0 x2).f1) ((rd_T32 l0 x2).f2) _ _ ((rd_T32 l0 x2).f3) ((rd_T32 l1 x2).f0) ((rd_T32 l1 x2).f1) ((rd_T32 l1 x2).f2) _ _ ((rd_T32 l1 x2).f3) false _ ?side1 ?side2 ?side3 ?side4 A7.out).mono ?_
        (case side1=>repeat (first|exact(Kd.C_below R2.out HB.out)|(with_reducible refine Kd.C_alloc ?_ _)|(with_reducible refine Kd.C_drewN ?_ _)|(with_reducible refine Kd.C_drew ?_)))
        (case side2=>exact K2.out)
        (case side3=>repeat (first|exact(Kd.C_below R3.out HB.out)|(with_reducible refine Kd.C_alloc ?_ _)|(with_reducible refine Kd.C_drewN ?_ _)|(with_reducible refine Kd.C_drew ?_)))
        (case side4=>exact K3.out)
        rintro e w3 ⟨rfl,hb⟩;refine⟨_,rfl,?_⟩;replace HB:=Aside0.mk (below_step mA hb);(try clear hb);(try clear hb2);(try clear hk);(try clear hi);refine hK.out _ _ ⟨((HB.out.cell (World.block_lt_of_cell? w _ hw276_0)).trans hw276_0),((HB.out.cell (World.block_lt_of_cell? w _ hw276_1)).trans hw276_1),((HB.out.cell (World.block_lt_of_cell? w _ hw276_2)).trans hw276_2),((HB.out.cell (World.block_lt_of_cell? w _ hw276_3)).trans hw276_3),((HB.out.cell (World.block_lt_of_cell? w _ hw277_0)).trans hw277_0),((HB.out.cell (World.block_lt_of_cell? w _ hw277_1)).trans hw277_1),((HB.out.cell (World.block_lt_of_cell? w _ hw277_2)).trans hw277_2),((HB.out.cell (World.block_lt_of_cell? w _ hw277_3)).trans hw277_3)⟩ (λhHeld=>?_);clear hK K;refine nV 25 (h:=?_);refine pV 9 26 mk_10_10 ?_;refine done_ (done_of HT_.out mAI) ?_;(try go_wp2);go_ret;exact⟨by first|rfl|(simp[errW_none,errW_some] <;> rfl)|(simp[*,errW_none,errW_some] <;> rfl),by repeat (first|(with_reducible first|exact HB.out|apply below_alloc|apply pw_below_drewN|apply below_drew1)|exact HB.out)⟩
      ·rw[if_neg c6]at H
       exact absurd H mAY
     ·rw[if_neg c5]at H
      exact absurd H mAY
    ·rw[if_neg c4]at H
     have ck:=decide_eq_false c4;clear c4;obtain rfl:=Option.some.inj H;go_wp2;go_ret;exact⟨by first|rfl|(simp[errW_none,errW_some] <;> rfl)|(simp[*,errW_none,errW_some] <;> rfl),by repeat (first|(with_reducible first|exact HB.out|apply below_alloc|apply pw_below_drewN|apply below_drew1)|exact HB.out)⟩
 ·rw[if_neg c3]at H
  have c9:=beq_eq_false_iff_ne.mpr c3;have cb:=bne_iff_ne.mpr c3
  have cd:(l0.length==l1.length)=false:=by first|simpa using c3|(simp at c3 |-;omega)
  obtain rfl:=Option.some.inj H
  go_enter Try.func21,Try.ntmps21
  go_wp2;go_ret;exact⟨by first|rfl|(simp[errW_none,errW_some] <;> rfl)|(simp[*,errW_none,errW_some] <;> rfl),by repeat (first|(with_reducible first|exact HB.out|apply below_alloc|apply pw_below_drewN|apply below_drew1)|exact HB.out)⟩
def watchwordlaw0_SameInts.l0:Nat->List Int->List Int->Int->Option (Bool)
 |0,_,_,_=>none
 |k+1,x0,x1,x5=>if x5<(x0.length:Int)then(if 0<=x5 then(if x5<(x1.length:Int)then(if(rd x0 x5)=(rd x1 x5)then(watchwordlaw0_SameInts.l0 k x0 x1 (wrap64 (x5+1)))else(some false))else(none))else(none))else(some true)
def watchwordlaw0_SameInts.f (k:Nat) (l0:List Int) (l1:List Int):Option (Bool):=if(l0.length:Int)=(l1.length:Int)then(watchwordlaw0_SameInts.l0 k l0 l1 0)else(some false)
theorem watchwordlaw0_SameInts.mono_l:∀k,(∀y0 y1 y2,LeO (watchwordlaw0_SameInts.l0 k y0 y1 y2) (watchwordlaw0_SameInts.l0 (k+1) y0 y1 y2))
 |0=>λ_ _ _ r h=>by simp[watchwordlaw0_SameInts.l0]at h
 |k+1=>by
  have ih0:=watchwordlaw0_SameInts.mono_l k
  ·intro y0 y1 y2
   unfold watchwordlaw0_SameInts.l0
   repeat' (with_reducible first|exact ih0 _ _ _|exact LeO.refl _|exact LeO.none _|refine LeO.ite ?_ ?_ |refine LeO.bind ?_ (λ_=>?_))
theorem watchwordlaw0_SameInts.mono:∀a0 a1 k,LeO (watchwordlaw0_SameInts.f k a0 a1) (watchwordlaw0_SameInts.f (k+1) a0 a1):=by
 intro a0 a1 k;have ih0:=watchwordlaw0_SameInts.mono_l k;unfold watchwordlaw0_SameInts.f
 repeat' (with_reducible first|exact ih0 _ _ _|exact LeO.refl _|exact LeO.none _|refine LeO.ite ?_ ?_ |refine LeO.bind ?_ (λ_=>?_))
set_option maxHeartbeats 8000000 in
set_option maxRecDepth 100000 in
theorem watchwordlaw0_SameInts.calls (k:Nat) (A0:Option Addr) (c0:Nat) (l0:List Int) (A1:Option Addr) (c1:Nat) (l1:List Int) (r:Bool) (w:World) (hr0:Kd.C (Kd.int .i64) w A0 l0.length l0) (hc0:l0.length<=c0) (hr1:Kd.C (Kd.int .i64) w A1 l1.length l1) (hc1:l1.length<=c1) (h:watchwordlaw0_SameInts.f k l0 l1=some r):
  Calls Try.prog 23 #[.slice A0 l0.length c0,.slice A1 l1.length c1] w λe w'=>e= .returned (.bool r)/\Drawn0 w w':=by
 have R0:=Aside0.mk hr0;have K0:=Aside0.mk hc0;clear hr0 hc0;have R1:=Aside0.mk hr1;have K1:=Aside0.mk hc1;clear hr1 hc1;have H:(if(l0.length:Int)=(l1.length:Int)then(watchwordlaw0_SameInts.l0 k l0 l1 0)else(some false))=some r:=h;clear h
 by_cases c3:(l0.length:Int)=(l1.length:Int)
 ·rw[if_pos c3]at H
  have c9:=beq_iff_eq.mpr c3;have cb:=bne_eq_false_iff_eq.mpr c3
  have cd:(l0.length==l1.length)=true:=by first|simpa using c3|(simp at c3 |-;omega)
  clear c3;have H':=Aside0.mk H;clear H
  go_enter Try.func23,Try.ntmps23
  go_wp2
  repeat (go_quiet (fail);try go_wp2)
  go_loopg [5] k (λkq v5 w'=>∃(x2:Int),v5= .int .i64 x2/\Aside0 (watchwordlaw0_SameInts.l0 kq l0 l1 x2=some r)/\Aside0 (kq<=k)/\Drawn0 w w')
  case atStart=>exact⟨(0),mJ,H',⟨Nat.le_refl _⟩,by repeat (first|exact Drawn0.refl _|apply Drawn0.step)⟩
  case round=>
   clear H';(try clear c1);(try clear c2);(try clear p2);(try clear c3);(try clear c9);(try clear cb);(try clear cd);obtain⟨x2,rfl,HA,HK1,⟨m1,rfl⟩⟩:=hrel;cases gk with
   |zero=>exact absurd HA.out (by simp[watchwordlaw0_SameInts.l0])
   |succ k1=>
    have H:=HA.out;clear HA;simp only[watchwordlaw0_SameInts.l0]at H
    by_cases c4:x2<(l0.length:Int)
    ·rw[if_pos c4]at H
     have ck:=decide_eq_true c4;clear c4
     by_cases c5:0<=x2
     ·rw[if_pos c5]at H
      have cp:=decide_eq_true c5;clear c5
      by_cases c6:x2<(l1.length:Int)
      ·rw[if_pos c6]at H
       have cu:=decide_eq_true c6;clear c6
       by_cases c7:(rd l0 x2)=(rd l1 x2)
       ·rw[if_pos c7]at H
        have cz:=beq_iff_eq.mpr c7;have c01:=bne_eq_false_iff_eq.mpr c7;clear c7;have H':=Aside0.mk H;clear H;have p0:0<=(x2:Int):=of_decide_eq_true mF;have q0:x2<(l0.length:Int):=of_decide_eq_true mF;obtain⟨d0,e0,h0⟩:=Kd.at_int R0.out x2 p0 q0;cases e0;replace p0:=eq_true p0;replace q0:=eq_true q0;have p1:0<=(x2:Int):=of_decide_eq_true mF;have q1:x2<(l1.length:Int):=of_decide_eq_true mF;obtain⟨d1,e1,h1⟩:=Kd.at_int R1.out x2 p1 q1;cases e1;replace p1:=eq_true p1;replace q1:=eq_true q1;go_wp2
        repeat (go_quiet (fail);try go_wp2)
        go_roundg k1
        case measure=>have:=HK1.out;omega
        case rel=>exact⟨(wrap64 (x2+1)),mJ,H',⟨by have:=HK1.out;omega⟩,by repeat (first|exact Drawn0.refl _|apply Drawn0.step)⟩
       ·rw[if_neg c7]at H
        have cz:=beq_eq_false_iff_ne.mpr c7;have c01:=bne_iff_ne.mpr c7;obtain rfl:=Option.some.inj H;have p0:0<=(x2:Int):=of_decide_eq_true mF;have q0:x2<(l0.length:Int):=of_decide_eq_true mF;obtain⟨d0,e0,h0⟩:=Kd.at_int R0.out x2 p0 q0;cases e0;replace p0:=eq_true p0;replace q0:=eq_true q0;have p1:0<=(x2:Int):=of_decide_eq_true mF;have q1:x2<(l1.length:Int):=of_decide_eq_true mF;obtain⟨d1,e1,h1⟩:=Kd.at_int R1.out x2 p1 q1;cases e1;replace p1:=eq_true p1;replace q1:=eq_true q1;go_wp2
        repeat (go_quiet (fail);try go_wp2)
        go_ret;exact⟨by first|rfl|(simp;done)|(simp[*];done),by repeat (first|exact Drawn0.refl _|apply Drawn0.step)⟩
      ·rw[if_neg c6]at H
       exact absurd H mAY
     ·rw[if_neg c5]at H
      exact absurd H mAY
    ·rw[if_neg c4]at H
     have ck:=decide_eq_false c4;clear c4;obtain rfl:=Option.some.inj H;go_wp2
     repeat (go_quiet (fail);try go_wp2)
     go_ret;exact⟨by first|rfl|(simp;done)|(simp[*];done),by repeat (first|exact Drawn0.refl _|apply Drawn0.step)⟩
 ·rw[if_neg c3]at H
  have c9:=beq_eq_false_iff_ne.mpr c3;have cb:=bne_iff_ne.mpr c3
  have cd:(l0.length==l1.length)=false:=by first|simpa using c3|(simp at c3 |-;omega)
  obtain rfl:=Option.some.inj H
  go_enter Try.func23,Try.ntmps23
  go_wp2
  repeat (go_quiet (fail);try go_wp2)
  go_ret;exact⟨by first|rfl|(simp;done)|(simp[*];done),by repeat (first|exact Drawn0.refl _|apply Drawn0.step)⟩
end Go.Proofs.Ytbpoflicphgokaa.Q18
