/- Written by a program of this session (out of what the print wrote for this seat): the functions' walks, packed. -/
import Derived.Test.YtbajimbccbckkaaZ12kx1
namespace Go.Proofs.Ytbajimbccbckkaa.Q12k
open Go.RowKit Go.Proofs.Ytbajimbccbckkaa.Stp Go.Proofs.YtbajimbccbckkaaW.PrintWords Go.Proofs.YtbajimbccbckkaaW.PrintLast Go.Proofs.YtbajimbccbckkaaW.PrintMore
attribute [local go_sem] max2_int min2_int max_two min_two max_three min_three max_four min_four
set_option linter.unusedVariables false
set_option linter.unusedSimpArgs false
def watchwordref1_Num.l0:Nat->Int->List Int->Int->Option (ByteArray)
 |0,_,_,_=>none
 |k+1,x0,x5,x6=>if x6>=0 then(if 0<=(wrap64 (8*x6))then(if x5.length<140737488355328 then(watchwordref1_Num.l0 k x0 (x5++[(shr .i64 x0 (wrap64 (8*x6))) % 256]) (wrap64 (x6-1)))else(none))else(none))else(some (strOfNums x5))
def watchwordref1_Num.f (k:Nat) (a0:Int) (a1:Int):Option (ByteArray):=watchwordref1_Num.l0 k a0 ([]:List Int) (wrap64 (a1-1))
theorem watchwordref1_Num.mono_l:∀k,(∀y0 y1 y2,LeO (watchwordref1_Num.l0 k y0 y1 y2) (watchwordref1_Num.l0 (k+1) y0 y1 y2))
 |0=>λ_ _ _ r h=>by simp[watchwordref1_Num.l0]at h
 |k+1=>by
  have ih0:=watchwordref1_Num.mono_l k
  ·intro y0 y1 y2
   unfold watchwordref1_Num.l0
   repeat' (with_reducible first|exact ih0 _ _ _|exact LeO.refl _|exact LeO.none _|refine LeO.ite ?_ ?_ |refine LeO.bind ?_ (λ_=>?_))
theorem watchwordref1_Num.mono:∀a0 a1 k,LeO (watchwordref1_Num.f k a0 a1) (watchwordref1_Num.f (k+1) a0 a1):=by
 intro a0 a1 k;have ih0:=watchwordref1_Num.mono_l k;unfold watchwordref1_Num.f
 repeat' (with_reducible first|exact ih0 _ _ _|exact LeO.refl _|exact LeO.none _|refine LeO.ite ?_ ?_ |refine LeO.bind ?_ (λ_=>?_))
set_option maxHeartbeats 8000000 in
set_option maxRecDepth 100000 in
theorem watchwordref1_Num.calls (k:Nat) (a0:Int) (a1:Int) (r:ByteArray) (w:World) (h:watchwordref1_Num.f k a0 a1=some r):
  Calls Try.prog 53 #[.int .i64 a0,.int .i64 a1] w λe w'=>e= .returned (.string r)/\Below w.heap.size w w':=by
 have HB:=Aside0.mk (Below.refl w.heap.size w);have H:(watchwordref1_Num.l0 k a0 ([]:List Int) (wrap64 (a1-1)))=some r:=h;clear h;have H':=Aside0.mk H;clear H
 go_enter Try.func53,Try.ntmps53
 go_wp2
 go_loopg [5,6] k (λkq v5 v6 w'=>∃(x1:List Int) (x2:Int),v6= .int .i64 x2/\Aside0 (watchwordref1_Num.l0 kq a0 x1 x2=some r)/\Aside0 (kq<=k)/\Aside0 (Kd.R (Kd.int .u8) 5 w' w.heap.size (λ_=>True) v5 x1)/\Aside0 (Below w.heap.size w w'))
 case atStart=>exact⟨(([]:List Int)),(wrap64 (a1-1)),mK,H',⟨Nat.le_refl _⟩,⟨by first|exact Kd.R_nil _ _ _ _ _|exact Kd.N_nil _ _ _ _ _|exact Kd.V_nil _ _ _ _ _|exact Kd.Q_nil _ _ _ _ _|exact Kd.S_nil _ _ _ _ _⟩,⟨by repeat (first|(with_reducible first|exact HB.out|apply below_alloc|apply pw_below_drewN|apply below_drew1)|exact HB.out)⟩⟩
 case round=>
  clear H';(try clear p2);obtain⟨x1,x2,rfl,HA,HK1,O0,HB⟩:=hrel;cases gk with
  |zero=>exact absurd HA.out (by simp[watchwordref1_Num.l0])
  |succ k1=>
   have H:=HA.out;clear HA;simp only[watchwordref1_Num.l0]at H
   by_cases c3:x2>=0
   ·rw[if_pos c3]at H
    have c2:decide (0<=x2)=true:=decide_eq_true c3;clear c3;obtain⟨j0,j1⟩:∃j_:Int,(wrap64 (8*x2))=j_:=⟨_,rfl⟩
    replace H:(if 0<=(j0)then(if x1.length<140737488355328 then(watchwordref1_Num.l0 k1 a0 (x1++[(shr .i64 a0 (j0)) % 256]) (wrap64 (x2-1)))else(none))else(none))=some r:=by first|(rw[j1]at H;exact H)|(simp only[j1]at H |-;exact H)
    have j2:(IntKind.i64.wrap (8*x2))=j0:=(i64_w _).trans j1
    by_cases c5:0<=(j0)
    ·rw[if_pos c5]at H
     have c8:=eq_true c5;have ca:=decide_eq_true c5;clear c5;obtain⟨j3,j4⟩:∃j_:Int,(shr .i64 a0 (j0))=j_:=⟨_,rfl⟩
     replace H:(if x1.length<140737488355328 then(watchwordref1_Num.l0 k1 a0 (x1++[(j3) % 256]) (wrap64 (x2-1)))else(none))=some r:=by first|(rw[j4]at H;exact H)|(simp only[j4]at H |-;exact H)
     have hji6_:(a0/2^min (j0).toNat 64)=j3:=j4;have hji6z:(j0)<=64->(a0/2^(j0).toNat)=j3:=shr_small j4
     by_cases c7:x1.length<140737488355328
     ·rw[if_pos c7]at H
      have L0:=Aside0.mk c7;clear c7;obtain⟨y3,Y0⟩:∃y_:List Int,y_=(x1++[(j3) % 256]):=⟨_,rfl⟩
      replace H:(watchwordref1_Num.l0 k1 a0 y3 (wrap64 (x2-1)))=some r:=by first|(rw[Y0];with_reducible exact H)|(have H2_:=(Option.bind_some _ _).symm.trans H;rw[Y0];with_reducible exact H2_)|(have H2_:=(Option.bind_some _ _).symm.trans H;with_reducible exact H2_)|with_reducible exact H|(rw[Y0];exact H)|exact H
      have Y1:=Aside0.mk Y0;clear Y0;have H':=Aside0.mk H;clear H
      go_wp2_with (first|((with_reducible refine gate_builtin (b:= .append) (xs:=#[.tmp 13,.tmp 19]) rfl ?_);at_builtin;refine Kd.R_append (Kd.int .u8) (w0:=w) w.heap.size rfl (.tmp 13) (.tmp 19) 93 5 (.int .u8 0) 1 rfl Try.underlying93 info5 rfl mAQ mBQ u5 x1 ((j3) % 256) [.int .u8 ((j3) % 256)] (λ_=>True) (λ_=>False) rfl rfl ?aP (λ_ hk=>hk.elim) ?aF ?aO ?aB ?aS ?aL ?_;(case aP=>exact rfl);(case aB=>exact mA);(case aF=>exact(λ_ _=>trivial));(case aO=>exact mN);(case aS=>exact(below_size mA));(case aL=>have:=L0.out;omega);intro v264 w8 ho hb hg hat;rw[<-Y1.out]at ho;replace HB:=Aside0.mk (hb);have O1:=Aside0.mk (ho);clear O0;clear ho hb hg hat))
      go_roundg k1
      case measure=>have:=HK1.out;omega
      case rel=>exact⟨(y3),(wrap64 (x2-1)),mK,H',⟨by have:=HK1.out;omega⟩,⟨by(with_reducible repeat (first|apply Kd.R_alloc|apply Kd.R_drewN|apply Kd.R_drew));exact O1.out⟩,⟨by repeat (first|(with_reducible first|exact HB.out|apply below_alloc|apply pw_below_drewN|apply below_drew1)|exact HB.out)⟩⟩
     ·rw[if_neg c7]at H
      exact absurd H mAM
    ·rw[if_neg c5]at H
     exact absurd H mAM
   ·rw[if_neg c3]at H
    have c2:decide (0<=x2)=false:=decide_eq_false c3;clear c3;obtain rfl:=Option.some.inj H;have hcv9:=own_string (P:=Try.prog) Try.underlying93 Try.underlying5 Try.underlying9 (Kd.own_of_R O0.out);go_wp2;go_ret;exact⟨by first|rfl|(simp[errW_none,errW_some] <;> rfl)|(simp[*,errW_none,errW_some] <;> rfl),by repeat (first|(with_reducible first|exact HB.out|apply below_alloc|apply pw_below_drewN|apply below_drew1)|exact HB.out)⟩
def watchwordref1_bytes.l0:Nat->ByteArray->Int->Int->Int->Int->List (S109)->Option (ByteArray)
 |0,_,_,_,_,_,_=>none
 |k+1,x3,x4,x267000,x267001,x267002,x267003=>if x4<(x267003.length:Int)then(if 0<=x4 then((watchwordref1_Num.f k ((rd_T109 x267003 x4).f0) 1).bind λt271=>(if x3.size+t271.size<=9223372036854775807 then((watchwordref1_Num.f k ((rd_T109 x267003 x4).f1) 2).bind λt273=>(if(x3++t271).size +t273.size<=9223372036854775807 then(watchwordref1_bytes.l0 k ((x3++t271)++t273) (wrap64 (x4+1)) x267000 x267001 x267002 x267003)else(none)))else(none)))else(none))else(some x3)
def watchwordref1_bytes.f (k:Nat) (a0_0:Int) (a0_1:Int) (a0_2:Int) (l0_3:List (S109)):Option (ByteArray):=(watchwordref1_Num.f k a0_0 1).bind λt267=>((watchwordref1_Num.f k a0_1 4).bind λt268=>(if t267.size+t268.size<=9223372036854775807 then((watchwordref1_Num.f k (l0_3.length:Int) 1).bind λt269=>(if(t267++t268).size +t269.size<=9223372036854775807 then(watchwordref1_bytes.l0 k ((t267++t268)++t269) 0 a0_0 a0_1 a0_2 l0_3)else(none)))else(none)))
theorem watchwordref1_bytes.mono_l:∀k,(∀y0 y1 y2 y3 y4 y5,LeO (watchwordref1_bytes.l0 k y0 y1 y2 y3 y4 y5) (watchwordref1_bytes.l0 (k+1) y0 y1 y2 y3 y4 y5))
 |0=>λ_ _ _ _ _ _ r h=>by simp[watchwordref1_bytes.l0]at h
 |k+1=>by
  have ih0:=watchwordref1_bytes.mono_l k
  ·intro y0 y1 y2 y3 y4 y5
   unfold watchwordref1_bytes.l0
   repeat' (with_reducible first|exact ih0 _ _ _ _ _ _|exact watchwordref1_Num.mono _ _ _|exact LeO.refl _|exact LeO.none _|refine LeO.ite ?_ ?_ |refine LeO.bind ?_ (λ_=>?_))
theorem watchwordref1_bytes.mono:∀a0 a1 a2 a3 k,LeO (watchwordref1_bytes.f k a0 a1 a2 a3) (watchwordref1_bytes.f (k+1) a0 a1 a2 a3):=by
 intro a0 a1 a2 a3 k;have ih0:=watchwordref1_bytes.mono_l k;unfold watchwordref1_bytes.f
 repeat' (with_reducible first|exact ih0 _ _ _ _ _ _|exact watchwordref1_Num.mono _ _ _|exact LeO.refl _|exact LeO.none _|refine LeO.ite ?_ ?_ |refine LeO.bind ?_ (λ_=>?_))
def watchwordref1_bytes.T1:Bool × List (List Nat × List Nat):=(true,[([],[]),([0],[0]),([1],[1]),([],[]),([3],[3]),([4,2],[4]),([2,5],[2,5]),([],[]),([7],[7]),([8],[8]),([9,5],[9]),([6,10],[6,10]),([11,10,0,1,2,3,4,5,6,7,8,9,10,11],[11])])
def watchwordref1_bytes.B1:List Nat:=[0,1,3,0,8,31,63,0,128,384,959,2047,4095]
theorem watchwordref1_bytes.tab1:rtab .any (opsOf Try.f71 1)=watchwordref1_bytes.T1:=by kernel_rfl
theorem watchwordref1_bytes.bits1:waitsOk watchwordref1_bytes.T1.2 watchwordref1_bytes.B1=true:=by kernel_rfl
def watchwordref1_bytes.T5:Bool × List (List Nat × List Nat):=(true,[([],[]),([],[]),([1],[1]),([],[]),([2,3],[2,3]),([4],[4]),([5],[5]),([6],[6]),([0,7],[0,7]),([],[]),([9],[9]),([],[]),([10,11],[10,11]),([12],[12]),([13],[13]),([14,7],[14]),([8,15],[8,15]),([16,15,0,1,2,3,4,5,6,7,8,9,10,11,12,13,14,15,16],[0,16])])
def watchwordref1_bytes.B5:List Nat:=[0,0,2,0,14,30,62,126,255,0,512,0,3584,7680,15872,32510,65535,131071]
theorem watchwordref1_bytes.tab5:rtab .any (opsOf Try.f71 5)=watchwordref1_bytes.T5:=by kernel_rfl
theorem watchwordref1_bytes.bits5:waitsOk watchwordref1_bytes.T5.2 watchwordref1_bytes.B5=true:=by kernel_rfl
set_option maxHeartbeats 8000000 in
set_option maxRecDepth 100000 in
theorem watchwordref1_bytes.calls (k:Nat) (a0_0:Int) (a0_1:Int) (a0_2:Int) (A0_3:Option Addr) (c0_3:Nat) (l0_3:List (S109)) (r:ByteArray) (w:World) (hr0_3:Kd.C k109 w A0_3 l0_3.length l0_3) (hc0_3:l0_3.length<=c0_3) (h:watchwordref1_bytes.f k a0_0 a0_1 a0_2 l0_3=some r):
  Calls Try.prog 71 #[.agg #[.int .i64 a0_0,.int .i64 a0_1,.int .i64 a0_2,.slice A0_3 l0_3.length c0_3]] w λe w'=>e= .returned (.string r)/\Below w.heap.size w w':=by
 have hu45:=Try.underlying45;have R0:=Aside0.mk hr0_3;have K0:=Aside0.mk hc0_3;clear hr0_3 hc0_3;have HB:=Aside0.mk (Below.refl w.heap.size w);have H:((watchwordref1_Num.f k a0_0 1).bind λt0=>((watchwordref1_Num.f k a0_1 4).bind λt1=>(if t0.size+t1.size<=9223372036854775807 then((watchwordref1_Num.f k (l0_3.length:Int) 1).bind λt2=>(if(t0++t1).size +t2.size<=9223372036854775807 then(watchwordref1_bytes.l0 k ((t0++t1)++t2) 0 a0_0 a0_1 a0_2 l0_3)else(none)))else(none))))=some r:=h;clear h;obtain⟨t0,A0,H⟩:=bsE H;(try dsimp only at H);have A2:=Aside0.mk A0;clear A0;obtain⟨t1,A4,H⟩:=bsE H;(try dsimp only at H);have A3:=Aside0.mk A4;clear A4
 by_cases c4:t0.size+t1.size<=9223372036854775807
 ·rw[if_pos c4]at H
  have c2:=eq_true c4;have c8:=decide_eq_true c4;(try have ca:(9223372036854775807<t0.size+t1.size)=False:=eq_false (Nat.not_lt.2 c4));obtain⟨t2,A7,H⟩:=bsE H;(try dsimp only at H);have A5:=Aside0.mk A7;clear A7
  by_cases c6:(t0++t1).size +t2.size<=9223372036854775807
  ·rw[if_pos c6]at H
   have ce:=eq_true c6;have cg:=decide_eq_true c6;(try have ci:(9223372036854775807<(t0++t1).size +t2.size)=False:=eq_false (Nat.not_lt.2 c6));(try have ck:(9223372036854775807<t0.size+t1.size+t2.size)=False:=eq_false mDA);have H':=Aside0.mk H;clear H
   go_enter Try.func71,Try.ntmps71
   try go_wp2_with (first|((with_reducible refine gate_dst (N:=1) rfl ?_);refine bxV (N:=1) (cs:=#[.int .i64 a0_0,.int .i64 a0_1,.int .i64 a0_2,.slice A0_3 l0_3.length c0_3]) (t:=45) (h:=?_);intro g0 hg w7 hbox hb;have B0:=Aside0.mk (hbox);have G0:=Aside0.mk ((mJ:w.heap.size<=g0));have G1:=Aside0.mk ((mJ:w.heap.size<=g0));replace HB:=Aside0.mk (below_step mA hb);clear hb hbox hg))
   replace B0:=Aside0.mk (blk_drew B0.out);replace HB:=Aside0.mk (below_drew1 HB.out);refine start_ (n:=13) (S:=λw'=>w'.cell? ⟨g0,0,none⟩=some (.int .i64 a0_0)/\w'.cell? ⟨g0,1,none⟩=some (.int .i64 a0_1)/\w'.cell? ⟨g0,2,none⟩=some (.int .i64 a0_2)/\w'.cell? ⟨g0,3,none⟩=some (.slice A0_3 l0_3.length c0_3)) (ds:=[]) mk_13_0 mAD rfl rfl ⟨(blk_cell B0.out 0).trans rfl,(blk_cell B0.out 1).trans rfl,(blk_cell B0.out 2).trans rfl,(blk_cell B0.out 3).trans rfl⟩ (λhHeld=>?_);refine with_tabW watchwordref1_bytes.tab1 watchwordref1_bytes.bits1 (λHT_ HW_=>?_);generalize w7.drew=w8 at B0 HB hHeld |-;refine pV 0 5 mk_13_1 ?_;refine pV 3 8 #[true,false,false,true,false,false,false,false,false,false,false,false,false] ?_;refine pV 7 12 #[true,false,false,true,false,false,false,true,false,false,false,false,false] ?_;refine tV 1 (some 6) #[true,true,false,true,false,false,false,true,false,false,false,false,false] (hy:=Or.inl ⟨by rfl,by rintro w' ⟨s0,s1,s2,s3⟩;go_simp;with_reducible rfl⟩) (h:=?_);refine tV 4 (some 9) #[true,true,false,true,true,false,false,true,false,false,false,false,false] (hy:=Or.inl ⟨by rfl,by rintro w' ⟨s0,s1,s2,s3⟩;go_simp;with_reducible rfl⟩) (h:=?_);refine tV 8 (some 13) #[true,true,false,true,true,false,false,true,true,false,false,false,false] (hy:=Or.inl ⟨by rfl,by rintro w' ⟨s0,s1,s2,s3⟩;go_simp;with_reducible rfl⟩) (h:=?_);refine pV 9 14 #[true,true,false,true,true,false,false,true,true,true,false,false,false] ?_;refine oV 2 (some 7) #[true,true,true,true,true,false,false,true,true,true,false,false,false] (h:=λK hK=>?_);refine gV Try.func53 #[.int .i64 a0_0,.int .i64 1] (h:=?_)
   with_reducible refine(watchwordref1_Num.calls k a0_0 1 t0 _ A2.out).mono ?_
   rintro e w9 ⟨rfl,hb⟩;refine⟨_,rfl,?_⟩;replace B0:=Aside0.mk (blk_below mB hb);replace HB:=Aside0.mk (below_step mC hb);(try clear hb);(try clear hb2);(try clear hk);(try clear hi);refine hK.out _ _ ⟨(blk_cell B0.out 0).trans rfl,(blk_cell B0.out 1).trans rfl,(blk_cell B0.out 2).trans rfl,(blk_cell B0.out 3).trans rfl⟩ (λhHeld=>?_);clear hK K;refine nV 7 (h:=?_);refine oV 5 (some 10) #[true,true,true,true,true,true,false,true,true,true,false,false,false] (h:=λK hK=>?_);refine gV Try.func53 #[.int .i64 a0_1,.int .i64 4] (h:=?_)
   with_reducible refine(watchwordref1_Num.calls k a0_1 4 t1 _ A3.out).mono ?_
   rintro e w4 ⟨rfl,hb⟩;refine⟨_,rfl,?_⟩;replace B0:=Aside0.mk (blk_below mB hb);replace HB:=Aside0.mk (below_step mC hb);(try clear hb);(try clear hb2);(try clear hk);(try clear hi);refine hK.out _ _ ⟨(blk_cell B0.out 0).trans rfl,(blk_cell B0.out 1).trans rfl,(blk_cell B0.out 2).trans rfl,(blk_cell B0.out 3).trans rfl⟩ (λhHeld=>?_);clear hK K;refine nV 10 (h:=?_);refine pV 6 11 mk_13_10 ?_;refine oV 10 (some 15) mk_13_11 (h:=λK hK=>?_);refine gV Try.func53 #[.int .i64 (l0_3.length:Int),.int .i64 1] (h:=?_)
   with_reducible refine(watchwordref1_Num.calls k (l0_3.length:Int) 1 t2 _ A5.out).mono ?_
   rintro e w5 ⟨rfl,hb⟩;refine⟨_,rfl,?_⟩;replace B0:=Aside0.mk (blk_below mB hb);replace HB:=Aside0.mk (below_step mC hb);(try clear hb);(try clear hb2);(try clear hk);(try clear hi);refine hK.out _ _ ⟨(blk_cell B0.out 0).trans rfl,(blk_cell B0.out 1).trans rfl,(blk_cell B0.out 2).trans rfl,(blk_cell B0.out 3).trans rfl⟩ (λhHeld=>?_);clear hK K;refine nV 15 (h:=?_);refine pV 11 16 mk_13_12 ?_;refine pV 12 3 mk_13_13 ?_;refine done_ (done_of HT_.out mAD) ?_;(try go_wp2)
   go_loopg [3,4] k (λkq v3 v4 w'=>∃(x0:ByteArray) (x1:Int),v3= .string x0/\v4= .int .i64 x1/\Aside0 (watchwordref1_bytes.l0 kq x0 x1 a0_0 a0_1 a0_2 l0_3=some r)/\Aside0 (kq<=k)/\Aside0 (w'.heap[g0]? =some (.cells #[.int .i64 a0_0,.int .i64 a0_1,.int .i64 a0_2,(.slice A0_3 l0_3.length c0_3)] 45 (0,0)))/\Aside0 (Below w.heap.size w w'))
   case atStart=>exact⟨((t0++t1)++t2),(0),mK,mK,H',⟨Nat.le_refl _⟩,⟨by(with_reducible repeat (first|refine blk_drewN ?_ _|refine blk_drew ?_ |refine blk_alloc ?_ _));exact B0.out⟩,⟨by repeat (first|(with_reducible first|exact HB.out|apply below_alloc|apply pw_below_drewN|apply below_drew1|refine below_set ?_ G1.out)|exact HB.out)⟩⟩
   case round=>
    clear H';(try clear p2);(try clear c4);(try clear c2);(try clear c8);(try clear ca);(try clear c5);(try clear c6);(try clear ce);(try clear cg);(try clear ci);(try clear c7);obtain⟨x0,x1,rfl,rfl,HA,HK1,B0,HB⟩:=hrel;cases gk with
    |zero=>exact absurd HA.out (by simp[watchwordref1_bytes.l0])
    |succ k1=>
     have H:=HA.out;clear HA;simp only[watchwordref1_bytes.l0]at H
     by_cases co:x1<(l0_3.length:Int)
     ·rw[if_pos co]at H
      have cp:=decide_eq_true co;clear co
      by_cases cq:0<=x1
      ·rw[if_pos cq]at H
       have cr:=decide_eq_true cq;clear cq;obtain⟨t3,Ac,H⟩:=bsE H;(try dsimp only at H);have Ad:=Aside0.mk Ac;clear Ac
       by_cases ct:x0.size+t3.size<=9223372036854775807
       ·rw[if_pos ct]at H
        have cu:=eq_true ct;have cv:=decide_eq_true ct;(try have cw:(9223372036854775807<x0.size+t3.size)=False:=eq_false (Nat.not_lt.2 ct));obtain⟨t4,Ae,H⟩:=bsE H;(try dsimp only at H);have Af:=Aside0.mk Ae;clear Ae
        by_cases cx:(x0++t3).size +t4.size<=9223372036854775807
        ·rw[if_pos cx]at H
         have cy:=eq_true cx;have cz:=decide_eq_true cx;(try have c00:(9223372036854775807<(x0++t3).size +t4.size)=False:=eq_false (Nat.not_lt.2 cx));(try have c01:(9223372036854775807<x0.size+t3.size+t4.size)=False:=eq_false mCQ);have H':=Aside0.mk H;clear H;obtain⟨z0,z1,z2,z3⟩:=bc4 B0.out;have z4:=blk_frozen B0.out;(try go_wp2);replace B0:=Aside0.mk (blk_drew B0.out);replace HB:=Aside0.mk (below_drew1 HB.out);have p0:0<=(x1:Int):=of_decide_eq_true mE;have q0:x1<(l0_3.length:Int):=of_decide_eq_true mE;obtain⟨d0,e0,h0,h1⟩:=at_T109 R0.out x1 p0 q0;have hw270_1:=h1;have hw270_0:=h0;cases e0;replace h0:=hB HB h0;replace h1:=hB HB h1;replace p0:=eq_true p0;replace q0:=eq_true q0;have p1:0<=(x1:Int):=of_decide_eq_true mE;have q1:x1<(l0_3.length:Int):=of_decide_eq_true mE;obtain⟨d1,e1,h2,h3⟩:=at_T109 R0.out x1 p1 q1;have hw272_1:=h3;have hw272_0:=h2;obtain rfl:d0=d1:=mBR;replace h2:=hB HB h2;replace h3:=hB HB h3;replace p1:=eq_true p1;replace q1:=eq_true q1;refine start_ (n:=18) (S:=λw'=>w'.cell? ⟨g0,0,none⟩=some (.int .i64 a0_0)/\w'.cell? ⟨g0,1,none⟩=some (.int .i64 a0_1)/\w'.cell? ⟨g0,2,none⟩=some (.int .i64 a0_2)/\w'.cell? ⟨g0,3,none⟩=some (.slice (some d0) l0_3.length c0_3)/\w'.cell? (d0.add ((x1).toNat *2))=some (.int .i64 ((rd_T109 l0_3 x1).f0))/\w'.cell? ⟨(d0.add ((x1).toNat *2)).block,(d0.add ((x1).toNat *2)).off +1,none⟩=some (.int .i64 ((rd_T109 l0_3 x1).f1))/\w'.cell? (d0.add ((x1).toNat *2))=some (.int .i64 ((rd_T109 l0_3 x1).f0))/\w'.cell? ⟨(d0.add ((x1).toNat *2)).block,(d0.add ((x1).toNat *2)).off +1,none⟩=some (.int .i64 ((rd_T109 l0_3 x1).f1))) (ds:=[]) mk_18_0 mAD rfl rfl ⟨(blk_cell B0.out 0).trans rfl,(blk_cell B0.out 1).trans rfl,(blk_cell B0.out 2).trans rfl,(blk_cell B0.out 3).trans rfl,((HB.out.cell (World.block_lt_of_cell? w _ hw270_0)).trans hw270_0),((HB.out.cell (World.block_lt_of_cell? w _ hw270_1)).trans hw270_1),((HB.out.cell (World.block_lt_of_cell? w _ hw272_0)).trans hw272_0),((HB.out.cell (World.block_lt_of_cell? w _ hw272_1)).trans hw272_1)⟩ (λhHeld=>?_);refine with_tabW watchwordref1_bytes.tab5 watchwordref1_bytes.bits5 (λHT_ HW_=>?_);generalize wr.drew=w6 at B0 HB h0 h1 h2 h3 hHeld |-;refine pV 0 24 mk_18_1 ?_;refine pV 1 25 mk_18_2 ?_;refine pV 3 27 #[true,true,false,true,false,false,false,false,false,false,false,false,false,false,false,false,false,false] ?_;refine pV 9 33 #[true,true,false,true,false,false,false,false,false,true,false,false,false,false,false,false,false,false] ?_;refine pV 11 35 #[true,true,false,true,false,false,false,false,false,true,false,true,false,false,false,false,false,false] ?_;refine tV 2 (some 26) #[true,true,true,true,false,false,false,false,false,true,false,true,false,false,false,false,false,false] (hy:=Or.inl ⟨by rfl,by rintro w' ⟨s0,s1,s2,s3,s4,s5,s6,s7⟩;go_simp;with_reducible rfl⟩) (h:=?_);refine pV 4 28 #[true,true,true,true,true,false,false,false,false,true,false,true,false,false,false,false,false,false] ?_;refine pV 5 29 #[true,true,true,true,true,true,false,false,false,true,false,true,false,false,false,false,false,false] ?_;refine tV 6 (some 30) #[true,true,true,true,true,true,true,false,false,true,false,true,false,false,false,false,false,false] (hy:=Or.inl ⟨by rfl,by rintro w' ⟨s0,s1,s2,s3,s4,s5,s6,s7⟩;go_simp;with_reducible rfl⟩) (h:=?_);refine tV 10 (some 34) #[true,true,true,true,true,true,true,false,false,true,true,true,false,false,false,false,false,false] (hy:=Or.inl ⟨by rfl,by rintro w' ⟨s0,s1,s2,s3,s4,s5,s6,s7⟩;go_simp;with_reducible rfl⟩) (h:=?_);refine pV 12 36 #[true,true,true,true,true,true,true,false,false,true,true,true,true,false,false,false,false,false] ?_;refine pV 13 37 #[true,true,true,true,true,true,true,false,false,true,true,true,true,true,false,false,false,false] ?_;refine tV 14 (some 38) #[true,true,true,true,true,true,true,false,false,true,true,true,true,true,true,false,false,false] (hy:=Or.inl ⟨by rfl,by rintro w' ⟨s0,s1,s2,s3,s4,s5,s6,s7⟩;go_simp;with_reducible rfl⟩) (h:=?_)
         refine oV 7 (some 31) #[true,true,true,true,true,true,true,true,false,true,true,true,true,true,true,false,false,false] (h:=λK hK=>?_);refine gV Try.func53 #[.int .i64 ((rd_T109 l0_3 x1).f0),.int .i64 1] (h:=?_)
         with_reducible refine(watchwordref1_Num.calls k1 ((rd_T109 l0_3 x1).f0) 1 t3 _ Ad.out).mono ?_
         rintro e wa ⟨rfl,hb⟩;refine⟨_,rfl,?_⟩;replace B0:=Aside0.mk (blk_below mB hb);replace HB:=Aside0.mk (below_step mC hb);(try clear hb);(try clear hb2);(try clear hk);(try clear hi);refine hK.out _ _ ⟨(blk_cell B0.out 0).trans rfl,(blk_cell B0.out 1).trans rfl,(blk_cell B0.out 2).trans rfl,(blk_cell B0.out 3).trans rfl,((HB.out.cell (World.block_lt_of_cell? w _ hw270_0)).trans hw270_0),((HB.out.cell (World.block_lt_of_cell? w _ hw270_1)).trans hw270_1),((HB.out.cell (World.block_lt_of_cell? w _ hw272_0)).trans hw272_0),((HB.out.cell (World.block_lt_of_cell? w _ hw272_1)).trans hw272_1)⟩ (λhHeld=>?_);clear hK K;refine nV 31 (h:=?_);refine pV 8 32 mk_18_15 ?_;refine oV 15 (some 39) mk_18_16 (h:=λK hK=>?_);refine gV Try.func53 #[.int .i64 ((rd_T109 l0_3 x1).f1),.int .i64 2] (h:=?_)
         with_reducible refine(watchwordref1_Num.calls k1 ((rd_T109 l0_3 x1).f1) 2 t4 _ Af.out).mono ?_
         rintro e wb ⟨rfl,hb⟩;refine⟨_,rfl,?_⟩;replace B0:=Aside0.mk (blk_below mB hb);replace HB:=Aside0.mk (below_step mC hb);(try clear hb);(try clear hb2);(try clear hk);(try clear hi);refine hK.out _ _ ⟨(blk_cell B0.out 0).trans rfl,(blk_cell B0.out 1).trans rfl,(blk_cell B0.out 2).trans rfl,(blk_cell B0.out 3).trans rfl,((HB.out.cell (World.block_lt_of_cell? w _ hw270_0)).trans hw270_0),((HB.out.cell (World.block_lt_of_cell? w _ hw270_1)).trans hw270_1),((HB.out.cell (World.block_lt_of_cell? w _ hw272_0)).trans hw272_0),((HB.out.cell (World.block_lt_of_cell? w _ hw272_1)).trans hw272_1)⟩ (λhHeld=>?_);clear hK K;refine nV 39 (h:=?_);refine pV 16 40 mk_18_17 ?_;refine pV 17 3 mk_18_18 ?_;refine done_ (done_of HT_.out mAD) ?_;(try go_wp2)
         go_roundg k1
         case measure=>have:=HK1.out;omega
         case rel=>exact⟨((x0++t3)++t4),(wrap64 (x1+1)),mK,mK,H',⟨by have:=HK1.out;omega⟩,⟨by(with_reducible repeat (first|refine blk_drewN ?_ _|refine blk_drew ?_ |refine blk_alloc ?_ _));exact B0.out⟩,⟨by repeat (first|(with_reducible first|exact HB.out|apply below_alloc|apply pw_below_drewN|apply below_drew1|refine below_set ?_ G1.out)|exact HB.out)⟩⟩
        ·rw[if_neg cx]at H
         exact absurd H mAM
       ·rw[if_neg ct]at H
        exact absurd H mAM
      ·rw[if_neg cq]at H
       exact absurd H mAM
     ·rw[if_neg co]at H
      have cp:=decide_eq_false co;clear co;obtain rfl:=Option.some.inj H;obtain⟨z5,z6,z7,z8⟩:=bc4 B0.out;have z9:=blk_frozen B0.out;go_wp2;go_ret;exact⟨by first|rfl|(simp[errW_none,errW_some] <;> rfl)|(simp[*,errW_none,errW_some] <;> rfl),by repeat (first|(with_reducible first|exact HB.out|apply below_alloc|apply pw_below_drewN|apply below_drew1|refine below_set ?_ G1.out)|exact HB.out)⟩
  ·rw[if_neg c6]at H
   exact absurd H mAM
 ·rw[if_neg c4]at H
  exact absurd H mAM
def watchwordref1_Fletch.l0:Nat->ByteArray->Int->Int->Int->Option (Int)
 |0,_,_,_,_=>none
 |k+1,x0,x3,x4,x5=>if x5<(x0.size:Int)then(if 0<=x5 then(watchwordref1_Fletch.l0 k x0 (Int.tmod (wrap64 (x3+(wrap64 (bt x0 x5)))) 255) (Int.tmod (wrap64 (x4+(Int.tmod (wrap64 (x3+(wrap64 (bt x0 x5)))) 255))) 255) (wrap64 (x5+1)))else(none))else(some (wrap64 ((wrap64 (256*x4))+x3)))
def watchwordref1_Fletch.f (k:Nat) (a0:ByteArray):Option (Int):=watchwordref1_Fletch.l0 k a0 0 0 0
theorem watchwordref1_Fletch.mono_l:∀k,(∀y0 y1 y2 y3,LeO (watchwordref1_Fletch.l0 k y0 y1 y2 y3) (watchwordref1_Fletch.l0 (k+1) y0 y1 y2 y3))
 |0=>λ_ _ _ _ r h=>by simp[watchwordref1_Fletch.l0]at h
 |k+1=>by
  have ih0:=watchwordref1_Fletch.mono_l k
  ·intro y0 y1 y2 y3
   unfold watchwordref1_Fletch.l0
   repeat' (with_reducible first|exact ih0 _ _ _ _|exact LeO.refl _|exact LeO.none _|refine LeO.ite ?_ ?_ |refine LeO.bind ?_ (λ_=>?_))
theorem watchwordref1_Fletch.mono:∀a0 k,LeO (watchwordref1_Fletch.f k a0) (watchwordref1_Fletch.f (k+1) a0):=by
 intro a0 k;have ih0:=watchwordref1_Fletch.mono_l k;unfold watchwordref1_Fletch.f
 repeat' (with_reducible first|exact ih0 _ _ _ _|exact LeO.refl _|exact LeO.none _|refine LeO.ite ?_ ?_ |refine LeO.bind ?_ (λ_=>?_))
set_option maxHeartbeats 8000000 in
set_option maxRecDepth 100000 in
theorem watchwordref1_Fletch.calls (k:Nat) (a0:ByteArray) (r:Int) (w:World) (h:watchwordref1_Fletch.f k a0=some r):
  Calls Try.prog 72 #[.string a0] w λe w'=>e= .returned (.int .i64 r)/\Drawn0 w w':=by
 have H:(watchwordref1_Fletch.l0 k a0 0 0 0)=some r:=h;clear h;have H':=Aside0.mk H;clear H
 go_enter Try.func72,Try.ntmps72
 go_wp2
 go_loopg [3,4,5] k (λkq v3 v4 v5 w'=>∃(x1:Int) (x2:Int) (x6:Int),v3= .int .i64 x1/\v4= .int .i64 x2/\v5= .int .i64 x6/\Aside0 (watchwordref1_Fletch.l0 kq a0 x1 x2 x6=some r)/\Aside0 (kq<=k)/\Drawn0 w w')
 case atStart=>exact⟨(0),(0),(0),mK,mK,mK,H',⟨Nat.le_refl _⟩,by repeat (first|exact Drawn0.refl _|apply Drawn0.step)⟩
 case round=>
  clear H';obtain⟨x1,x2,x6,rfl,rfl,rfl,HA,HK1,⟨m1,rfl⟩⟩:=hrel;cases gk with
  |zero=>exact absurd HA.out (by simp[watchwordref1_Fletch.l0])
  |succ k1=>
   have H:=HA.out;clear HA;simp only[watchwordref1_Fletch.l0]at H
   by_cases c2:x6<(a0.size:Int)
   ·rw[if_pos c2]at H
    have c4:=decide_eq_true c2;clear c2
    by_cases c3:0<=x6
    ·rw[if_pos c3]at H
     have c9:=decide_eq_true c3;clear c3;have H':=Aside0.mk H;clear H;have p4:0<=(x6:Int):=of_decide_eq_true mE;have q4:x6<(a0.size:Int):=of_decide_eq_true mE;have hx4:=bt_at a0 x6;replace p4:=eq_true p4;replace q4:=eq_true q4;go_wp2
     go_roundg k1
     case measure=>have:=HK1.out;omega
     case rel=>exact⟨(Int.tmod (wrap64 (x1+(wrap64 (bt a0 x6)))) 255),(Int.tmod (wrap64 (x2+(Int.tmod (wrap64 (x1+(wrap64 (bt a0 x6)))) 255))) 255),(wrap64 (x6+1)),mK,mK,mK,H',⟨by have:=HK1.out;omega⟩,by repeat (first|exact Drawn0.refl _|apply Drawn0.step)⟩
    ·rw[if_neg c3]at H
     exact absurd H mAM
   ·rw[if_neg c2]at H
    have c4:=decide_eq_false c2;clear c2;obtain rfl:=Option.some.inj H;go_wp2;go_ret;exact⟨by first|rfl|(simp;done)|(simp[*];done),by repeat (first|exact Drawn0.refl _|apply Drawn0.step)⟩
def watchwordref1_PutLsa.f (k:Nat) (a0_0:Int) (a0_1:Int) (a0_2:Int) (l0_3:List (S109)):Option (ByteArray × Int):=(watchwordref1_LsaMay.f k a0_0 a0_1 a0_2 l0_3).bind λt275=>(if t275=true then((watchwordref1_bytes.f k a0_0 a0_1 a0_2 l0_3).bind λt276=>((watchwordref1_Num.f k a0_2 1).bind λt277=>(if t277.size+t276.size<=9223372036854775807 then((watchwordref1_Fletch.f k t276).bind λt278=>((watchwordref1_Num.f k t278 2).bind λt279=>(if(t277++t276).size +t279.size<=9223372036854775807 then(some ((t277++t276)++t279,0))else(none))))else(none))))else(some ((⟨#[]⟩:ByteArray),700)))
theorem watchwordref1_PutLsa.mono:∀a0 a1 a2 a3 k,LeO (watchwordref1_PutLsa.f k a0 a1 a2 a3) (watchwordref1_PutLsa.f (k+1) a0 a1 a2 a3):=by
 intro a0 a1 a2 a3 k;unfold watchwordref1_PutLsa.f
 repeat' (with_reducible first|exact watchwordref1_Fletch.mono _ _|exact watchwordref1_LsaMay.mono _ _ _ _ _|exact watchwordref1_Num.mono _ _ _|exact watchwordref1_bytes.mono _ _ _ _ _|exact LeO.refl _|exact LeO.none _|refine LeO.ite ?_ ?_ |refine LeO.bind ?_ (λ_=>?_))
set_option maxHeartbeats 8000000 in
set_option maxRecDepth 100000 in
theorem watchwordref1_PutLsa.calls (k:Nat) (a0_0:Int) (a0_1:Int) (a0_2:Int) (A0_3:Option Addr) (c0_3:Nat) (l0_3:List (S109)) (r1:ByteArray) (r2:Int) (w:World) (hr0_3:Kd.C k109 w A0_3 l0_3.length l0_3) (hc0_3:l0_3.length<=c0_3) (h:watchwordref1_PutLsa.f k a0_0 a0_1 a0_2 l0_3=some (r1,r2)):
  Calls Try.prog 54 #[.agg #[.int .i64 a0_0,.int .i64 a0_1,.int .i64 a0_2,.slice A0_3 l0_3.length c0_3]] w λe w'=>e= .returned (.tuple #[.string r1,.int .i64 r2])/\Below w.heap.size w w':=by
 have hu45:=Try.underlying45;have R0:=Aside0.mk hr0_3;have K0:=Aside0.mk hc0_3;clear hr0_3 hc0_3;have HB:=Aside0.mk (Below.refl w.heap.size w);have H:((watchwordref1_LsaMay.f k a0_0 a0_1 a0_2 l0_3).bind λt0=>(if t0=true then((watchwordref1_bytes.f k a0_0 a0_1 a0_2 l0_3).bind λt1=>((watchwordref1_Num.f k a0_2 1).bind λt2=>(if t2.size+t1.size<=9223372036854775807 then((watchwordref1_Fletch.f k t1).bind λt3=>((watchwordref1_Num.f k t3 2).bind λt4=>(if(t2++t1).size +t4.size<=9223372036854775807 then(some ((t2++t1)++t4,0))else(none))))else(none))))else(some ((⟨#[]⟩:ByteArray),700))))=some (r1,r2):=h;clear h;obtain⟨t0,A0,H⟩:=bsE H;(try dsimp only at H);have A2:=Aside0.mk A0;clear A0
 by_cases c3:t0=true
 ·subst c3
  rw[if_pos rfl]at H;obtain⟨t1,A3,H⟩:=bsE H;(try dsimp only at H);have A4:=Aside0.mk A3;clear A3;obtain⟨t2,A6,H⟩:=bsE H;(try dsimp only at H);have A5:=Aside0.mk A6;clear A6
  by_cases c6:t2.size+t1.size<=9223372036854775807
  ·rw[if_pos c6]at H
   have c5:=eq_true c6;have c7:=decide_eq_true c6;(try have ca:(9223372036854775807<t2.size+t1.size)=False:=eq_false (Nat.not_lt.2 c6));obtain⟨t3,Aa,H⟩:=bsE H;(try dsimp only at H);have A7:=Aside0.mk Aa;clear Aa;obtain⟨t4,Ac,H⟩:=bsE H;(try dsimp only at H);have A8:=Aside0.mk Ac;clear Ac
   by_cases c9:(t2++t1).size +t4.size<=9223372036854775807
   ·rw[if_pos c9]at H
    have ce:=eq_true c9;have cg:=decide_eq_true c9;(try have ci:(9223372036854775807<(t2++t1).size +t4.size)=False:=eq_false (Nat.not_lt.2 c9));(try have ck:(9223372036854775807<t2.size+t1.size+t4.size)=False:=eq_false mCZ);simp only[Option.some.injEq,Prod.mk.injEq]at H;obtain⟨rfl,rfl⟩:=H
    go_enter Try.func54,Try.ntmps54
    go_wp2_with (first|((with_reducible refine gate_dst (N:=1) rfl ?_);refine bxV (N:=1) (cs:=#[.int .i64 a0_0,.int .i64 a0_1,.int .i64 a0_2,.slice A0_3 l0_3.length c0_3]) (t:=45) (h:=?_);intro g0 hg w0 hbox hb;have B0:=Aside0.mk (hbox);have G0:=Aside0.mk ((mJ:w.heap.size<=g0));have G1:=Aside0.mk ((mJ:w.heap.size<=g0));replace HB:=Aside0.mk (below_step mA hb);clear hb hbox hg;obtain⟨z0,z1,z2,z3⟩:=bc4 B0.out;have z4:=blk_frozen B0.out)|((with_reducible refine gate_callee (f:=64) rfl ?_);refine cLV (some 6) Try.func64 #[.agg #[.int .i64 a0_0,.int .i64 a0_1,.int .i64 a0_2,.slice A0_3 l0_3.length c0_3]] (h:=?_);(with_reducible refine(watchwordref1_LsaMay.calls k a0_0 a0_1 a0_2 _ _ l0_3 true _ ?side1 ?side2 A2.out).mono ?_);(case side1=>repeat (first|exact(Kd.C_below R0.out HB.out)|(with_reducible refine Kd.C_alloc ?_ _)|(with_reducible refine Kd.C_drewN ?_ _)|(with_reducible refine Kd.C_drew ?_)));(case side2=>exact K0.out);rintro e w1 ⟨rfl,hb⟩;refine⟨_,rfl,?_⟩;replace B0:=Aside0.mk (blk_below mB hb);replace HB:=Aside0.mk (below_step mC hb);(try clear hb);obtain⟨z5,z6,z7,z8⟩:=bc4 B0.out;have z9:=blk_frozen B0.out)|((with_reducible refine gate_callee (f:=71) rfl ?_);refine cLV (some 9) Try.func71 #[.agg #[.int .i64 a0_0,.int .i64 a0_1,.int .i64 a0_2,.slice A0_3 l0_3.length c0_3]] (h:=?_);(with_reducible refine(watchwordref1_bytes.calls k a0_0 a0_1 a0_2 _ _ l0_3 t1 _ ?side1 ?side2 A4.out).mono ?_);(case side1=>repeat (first|exact(Kd.C_below R0.out HB.out)|(with_reducible refine Kd.C_alloc ?_ _)|(with_reducible refine Kd.C_drewN ?_ _)|(with_reducible refine Kd.C_drew ?_)));(case side2=>exact K0.out);rintro e w2 ⟨rfl,hb⟩;refine⟨_,rfl,?_⟩;replace B0:=Aside0.mk (blk_below mB hb);replace HB:=Aside0.mk (below_step mC hb);(try clear hb);obtain⟨za,zb,zc,zd⟩:=bc4 B0.out;have ze:=blk_frozen B0.out)|((with_reducible refine gate_callee (f:=53) rfl ?_);refine cLV (some 12) Try.func53 #[.int .i64 a0_2,.int .i64 1] (h:=?_);(with_reducible refine(watchwordref1_Num.calls k a0_2 1 t2 _ A5.out).mono ?_);rintro e w3 ⟨rfl,hb⟩;refine⟨_,rfl,?_⟩;replace B0:=Aside0.mk (blk_below mB hb);replace HB:=Aside0.mk (below_step mC hb);(try clear hb))|((with_reducible refine gate_callee (f:=72) rfl ?_);refine cLV (some 16) Try.func72 #[.string t1] (h:=?_);(with_reducible refine(watchwordref1_Fletch.calls k t1 t3 _ A7.out).mono ?_);rintro e w' ⟨rfl,⟨nd,rfl⟩⟩;refine⟨_,rfl,?_⟩)|((with_reducible refine gate_callee (f:=53) rfl ?_);refine cLV (some 17) Try.func53 #[.int .i64 t3,.int .i64 2] (h:=?_);(with_reducible refine(watchwordref1_Num.calls k t3 2 t4 _ A8.out).mono ?_);rintro e w4 ⟨rfl,hb⟩;refine⟨_,rfl,?_⟩;replace B0:=Aside0.mk (blk_below mB hb);replace HB:=Aside0.mk (below_step mC hb);(try clear hb)))
    go_ret2
    exact⟨by first|rfl|(simp[errW_none,errW_some] <;> rfl)|(simp[*,errW_none,errW_some] <;> rfl),by repeat (first|(with_reducible first|exact HB.out|apply below_alloc|apply pw_below_drewN|apply below_drew1|refine below_set ?_ G1.out)|exact HB.out)⟩
   ·rw[if_neg c9]at H
    exact absurd H mAM
  ·rw[if_neg c6]at H
   exact absurd H mAM
 ·replace c3:=Bool.eq_false_iff.mpr c3
  subst c3;rw[if_neg (show ¬(false=true)by decide)]at H;simp only[Option.some.injEq,Prod.mk.injEq]at H;obtain⟨rfl,rfl⟩:=H
  go_enter Try.func54,Try.ntmps54
  go_wp2_with (first|((with_reducible refine gate_dst (N:=1) rfl ?_);refine bxV (N:=1) (cs:=#[.int .i64 a0_0,.int .i64 a0_1,.int .i64 a0_2,.slice A0_3 l0_3.length c0_3]) (t:=45) (h:=?_);intro g0 hg w5 hbox hb;have B0:=Aside0.mk (hbox);have G0:=Aside0.mk ((mJ:w.heap.size<=g0));have G1:=Aside0.mk ((mJ:w.heap.size<=g0));replace HB:=Aside0.mk (below_step mA hb);clear hb hbox hg;obtain⟨zf,zg,zh,zi⟩:=bc4 B0.out;have zj:=blk_frozen B0.out)|((with_reducible refine gate_callee (f:=64) rfl ?_);refine cLV (some 6) Try.func64 #[.agg #[.int .i64 a0_0,.int .i64 a0_1,.int .i64 a0_2,.slice A0_3 l0_3.length c0_3]] (h:=?_);(with_reducible refine(watchwordref1_LsaMay.calls k a0_0 a0_1 a0_2 _ _ l0_3 false _ ?side1 ?side2 A2.out).mono ?_);(case side1=>repeat (first|exact(Kd.C_below R0.out HB.out)|(with_reducible refine Kd.C_alloc ?_ _)|(with_reducible refine Kd.C_drewN ?_ _)|(with_reducible refine Kd.C_drew ?_)));(case side2=>exact K0.out);rintro e w6 ⟨rfl,hb⟩;refine⟨_,rfl,?_⟩;replace B0:=Aside0.mk (blk_below mB hb);replace HB:=Aside0.mk (below_step mC hb);(try clear hb)))
  go_ret2
  exact⟨by first|rfl|(simp[errW_none,errW_some] <;> rfl)|(simp[*,errW_none,errW_some] <;> rfl),by repeat (first|(with_reducible first|exact HB.out|apply below_alloc|apply pw_below_drewN|apply below_drew1|refine below_set ?_ G1.out)|exact HB.out)⟩
def watchwordref9_PutUpdate.l0:Nat->List (S45)->ByteArray->Int->Option (ByteArray × Int)
 |0,_,_,_=>none
 |k+1,x0,x4,x5=>if x5<(x0.length:Int)then(if 0<=x5 then((watchwordref1_PutLsa.f k ((rd_T45 x0 x5).f0) ((rd_T45 x0 x5).f1) ((rd_T45 x0 x5).f2) ((rd_T45 x0 x5).f3)).bind λbt283=>(if x4.size+bt283.1.size<=9223372036854775807 then(watchwordref9_PutUpdate.l0 k x0 (x4++bt283.1) (wrap64 (x5+1)))else(none)))else(none))else(some (x4,0))
def watchwordref9_PutUpdate.f (k:Nat) (l0:List (S45)):Option (ByteArray × Int):=(watchwordref9_UpdateMay.f k l0).bind λt280=>(if t280=true then((watchwordref1_Num.f k (l0.length:Int) 1).bind λt281=>(watchwordref9_PutUpdate.l0 k l0 t281 0))else(some ((⟨#[]⟩:ByteArray),1000)))
theorem watchwordref9_PutUpdate.mono_l:∀k,(∀y0 y1 y2,LeO (watchwordref9_PutUpdate.l0 k y0 y1 y2) (watchwordref9_PutUpdate.l0 (k+1) y0 y1 y2))
 |0=>λ_ _ _ r h=>by simp[watchwordref9_PutUpdate.l0]at h
 |k+1=>by
  have ih0:=watchwordref9_PutUpdate.mono_l k
  ·intro y0 y1 y2
   unfold watchwordref9_PutUpdate.l0
   repeat' (with_reducible first|exact ih0 _ _ _|exact watchwordref1_Num.mono _ _ _|exact watchwordref1_PutLsa.mono _ _ _ _ _|exact watchwordref9_UpdateMay.mono _ _|exact LeO.refl _|exact LeO.none _|refine LeO.ite ?_ ?_ |refine LeO.bind ?_ (λ_=>?_))
theorem watchwordref9_PutUpdate.mono:∀a0 k,LeO (watchwordref9_PutUpdate.f k a0) (watchwordref9_PutUpdate.f (k+1) a0):=by
 intro a0 k;have ih0:=watchwordref9_PutUpdate.mono_l k;unfold watchwordref9_PutUpdate.f
 repeat' (with_reducible first|exact ih0 _ _ _|exact watchwordref1_Num.mono _ _ _|exact watchwordref1_PutLsa.mono _ _ _ _ _|exact watchwordref9_UpdateMay.mono _ _|exact LeO.refl _|exact LeO.none _|refine LeO.ite ?_ ?_ |refine LeO.bind ?_ (λ_=>?_))
set_option maxHeartbeats 8000000 in
set_option maxRecDepth 100000 in
theorem watchwordref9_PutUpdate.calls (k:Nat) (A0:Option Addr) (c0:Nat) (l0:List (S45)) (r1:ByteArray) (r2:Int) (w:World) (hr0:Kd.C k45 w A0 l0.length l0) (hc0:l0.length<=c0) (h:watchwordref9_PutUpdate.f k l0=some (r1,r2)):
  Calls Try.prog 23 #[.slice A0 l0.length c0] w λe w'=>e= .returned (.tuple #[.string r1,.int .i64 r2])/\Below w.heap.size w w':=by
 have hu45:=Try.underlying45;have R0:=Aside0.mk hr0;have K0:=Aside0.mk hc0;clear hr0 hc0;have HB:=Aside0.mk (Below.refl w.heap.size w);have H:((watchwordref9_UpdateMay.f k l0).bind λt0=>(if t0=true then((watchwordref1_Num.f k (l0.length:Int) 1).bind λt1=>(watchwordref9_PutUpdate.l0 k l0 t1 0))else(some ((⟨#[]⟩:ByteArray),1000))))=some (r1,r2):=h;clear h;obtain⟨t0,A1,H⟩:=bsE H;(try dsimp only at H);have A2:=Aside0.mk A1;clear A1
 by_cases c3:t0=true
 ·subst c3
  rw[if_pos rfl]at H;obtain⟨t1,A3,H⟩:=bsE H;(try dsimp only at H);have A4:=Aside0.mk A3;clear A3;have H':=Aside0.mk H;clear H
  go_enter Try.func23,Try.ntmps23
  go_wp2_with (first|((with_reducible refine gate_callee (f:=40) rfl ?_);refine cLV (some 9) Try.func40 #[.slice A0 l0.length c0] (h:=?_);(with_reducible refine(watchwordref9_UpdateMay.calls k _ _ l0 true _ ?side1 ?side2 A2.out).mono ?_);(case side1=>repeat (first|exact R0.out|(with_reducible refine Kd.C_alloc ?_ _)|(with_reducible refine Kd.C_drewN ?_ _)|(with_reducible refine Kd.C_drew ?_)));(case side2=>exact K0.out);rintro e w5 ⟨rfl,hb⟩;refine⟨_,rfl,?_⟩;replace HB:=Aside0.mk (below_step mA hb);(try clear hb))|((with_reducible refine gate_callee (f:=53) rfl ?_);refine cLV (some 13) Try.func53 #[.int .i64 (l0.length:Int),.int .i64 1] (h:=?_);(with_reducible refine(watchwordref1_Num.calls k (l0.length:Int) 1 t1 _ A4.out).mono ?_);rintro e w6 ⟨rfl,hb⟩;refine⟨_,rfl,?_⟩;replace HB:=Aside0.mk (below_step mA hb);(try clear hb)))
  go_loopg [4,5] k (λkq v4 v5 w'=>∃(x1:ByteArray) (x2:Int),v4= .string x1/\v5= .int .i64 x2/\Aside0 (watchwordref9_PutUpdate.l0 kq l0 x1 x2=some (r1,r2))/\Aside0 (kq<=k)/\Aside0 (Below w.heap.size w w'))
  case atStart=>exact⟨(t1),(0),mK,mK,H',⟨Nat.le_refl _⟩,⟨by repeat (first|(with_reducible first|exact HB.out|apply below_alloc|apply pw_below_drewN|apply below_drew1)|exact HB.out)⟩⟩
  case round=>
   clear H';(try clear c2);(try clear p2);(try clear c3);(try clear c4);(try clear c5);obtain⟨x1,x2,rfl,rfl,HA,HK1,HB⟩:=hrel;cases gk with
   |zero=>exact absurd HA.out (by simp[watchwordref9_PutUpdate.l0])
   |succ k1=>
    have H:=HA.out;clear HA;simp only[watchwordref9_PutUpdate.l0]at H
    by_cases c7:x2<(l0.length:Int)
    ·rw[if_pos c7]at H
     have ca:=decide_eq_true c7;clear c7
     by_cases c8:0<=x2
     ·rw[if_pos c8]at H
      have cf:=decide_eq_true c8;clear c8;obtain⟨⟨t2,t3⟩,A7,H⟩:=bsE H;(try dsimp only at H);have A9:=Aside0.mk A7;clear A7
      by_cases ci:x1.size+t2.size<=9223372036854775807
      ·rw[if_pos ci]at H
       have cj:=eq_true ci;have ck:=decide_eq_true ci;(try have cl:(9223372036854775807<x1.size+t2.size)=False:=eq_false (Nat.not_lt.2 ci));have H':=Aside0.mk H;clear H;have p0:0<=(x2:Int):=of_decide_eq_true mE;have q0:x2<(l0.length:Int):=of_decide_eq_true mE;obtain⟨d0,Aa,s0,e0,h0,h1,h2,h3,i0,i1⟩:=at_T45 R0.out x2 p0 q0;cases e0;replace h0:=hB HB h0;replace h1:=hB HB h1;replace h2:=hB HB h2;replace h3:=hB HB h3;have R1:=Aside0.mk i1;have K1:=Aside0.mk i0;clear i1 i0;replace p0:=eq_true p0;replace q0:=eq_true q0
       go_wp2_with (first|((with_reducible refine gate_callee (f:=54) rfl ?_);refine cLV (some 25) Try.func54 #[.agg #[.int .i64 ((rd_T45 l0 x2).f0),.int .i64 ((rd_T45 l0 x2).f1),.int .i64 ((rd_T45 l0 x2).f2),.slice Aa ((rd_T45 l0 x2).f3).length s0]] (h:=?_);(with_reducible refine(watchwordref1_PutLsa.calls k1 ((rd_T45 l0 x2).f0) ((rd_T45 l0 x2).f1) ((rd_T45 l0 x2).f2) _ _ ((rd_T45 l0 x2).f3) t2 t3 _ ?side1 ?side2 A9.out).mono ?_);(case side1=>repeat (first|exact(Kd.C_below R1.out HB.out)|(with_reducible refine Kd.C_alloc ?_ _)|(with_reducible refine Kd.C_drewN ?_ _)|(with_reducible refine Kd.C_drew ?_)));(case side2=>exact K1.out);rintro e w2 ⟨rfl,hb⟩;refine⟨_,rfl,?_⟩;replace HB:=Aside0.mk (below_step mA hb);(try clear hb)))
       go_roundg k1
       case measure=>have:=HK1.out;omega
       case rel=>exact⟨(x1++t2),(wrap64 (x2+1)),mK,mK,H',⟨by have:=HK1.out;omega⟩,⟨by repeat (first|(with_reducible first|exact HB.out|apply below_alloc|apply pw_below_drewN|apply below_drew1)|exact HB.out)⟩⟩
      ·rw[if_neg ci]at H
       exact absurd H mAM
     ·rw[if_neg c8]at H
      exact absurd H mAM
    ·rw[if_neg c7]at H
     have ca:=decide_eq_false c7;clear c7;simp only[Option.some.injEq,Prod.mk.injEq]at H;obtain⟨rfl,rfl⟩:=H;go_wp2
     go_ret2
     exact⟨by first|rfl|(simp[errW_none,errW_some] <;> rfl)|(simp[*,errW_none,errW_some] <;> rfl),by repeat (first|(with_reducible first|exact HB.out|apply below_alloc|apply pw_below_drewN|apply below_drew1)|exact HB.out)⟩
 ·replace c3:=Bool.eq_false_iff.mpr c3
  subst c3;rw[if_neg (show ¬(false=true)by decide)]at H;simp only[Option.some.injEq,Prod.mk.injEq]at H;obtain⟨rfl,rfl⟩:=H
  go_enter Try.func23,Try.ntmps23
  go_wp2_with (first|((with_reducible refine gate_callee (f:=40) rfl ?_);refine cLV (some 9) Try.func40 #[.slice A0 l0.length c0] (h:=?_);(with_reducible refine(watchwordref9_UpdateMay.calls k _ _ l0 false _ ?side1 ?side2 A2.out).mono ?_);(case side1=>repeat (first|exact R0.out|(with_reducible refine Kd.C_alloc ?_ _)|(with_reducible refine Kd.C_drewN ?_ _)|(with_reducible refine Kd.C_drew ?_)));(case side2=>exact K0.out);rintro e w3 ⟨rfl,hb⟩;refine⟨_,rfl,?_⟩;replace HB:=Aside0.mk (below_step mA hb);(try clear hb)))
  go_ret2
  exact⟨by first|rfl|(simp[errW_none,errW_some] <;> rfl)|(simp[*,errW_none,errW_some] <;> rfl),by repeat (first|(with_reducible first|exact HB.out|apply below_alloc|apply pw_below_drewN|apply below_drew1)|exact HB.out)⟩
def watchwordref9_PutAck.l0:Nat->List (S47)->ByteArray->Int->Option (ByteArray × Int)
 |0,_,_,_=>none
 |k+1,x0,x4,x5=>if x5<(x0.length:Int)then(if 0<=x5 then((watchwordref1_Num.f k ((rd_T47 x0 x5).f0) 1).bind λt289=>(if x4.size+t289.size<=9223372036854775807 then((watchwordref1_Num.f k ((rd_T47 x0 x5).f2) 1).bind λt290=>(if(x4++t289).size +t290.size<=9223372036854775807 then((watchwordref1_Num.f k ((rd_T47 x0 x5).f1) 4).bind λt291=>(if((x4++t289)++t290).size +t291.size<=9223372036854775807 then((watchwordref1_Num.f k ((rd_T47 x0 x5).f3) 2).bind λt292=>(if(((x4++t289)++t290)++t291).size +t292.size<=9223372036854775807 then(watchwordref9_PutAck.l0 k x0 ((((x4++t289)++t290)++t291)++t292) (wrap64 (x5+1)))else(none)))else(none)))else(none)))else(none)))else(none))else(some (x4,0))
def watchwordref9_PutAck.f (k:Nat) (l0:List (S47)):Option (ByteArray × Int):=(watchwordref9_AckMay.f k l0).bind λt285=>(if t285=true then((watchwordref1_Num.f k (l0.length:Int) 1).bind λt286=>(watchwordref9_PutAck.l0 k l0 t286 0))else(some ((⟨#[]⟩:ByteArray),1100)))
theorem watchwordref9_PutAck.mono_l:∀k,(∀y0 y1 y2,LeO (watchwordref9_PutAck.l0 k y0 y1 y2) (watchwordref9_PutAck.l0 (k+1) y0 y1 y2))
 |0=>λ_ _ _ r h=>by simp[watchwordref9_PutAck.l0]at h
 |k+1=>by
  have ih0:=watchwordref9_PutAck.mono_l k
  ·intro y0 y1 y2
   unfold watchwordref9_PutAck.l0
   repeat' (with_reducible first|exact ih0 _ _ _|exact watchwordref1_Num.mono _ _ _|exact watchwordref9_AckMay.mono _ _|exact LeO.refl _|exact LeO.none _|refine LeO.ite ?_ ?_ |refine LeO.bind ?_ (λ_=>?_))
theorem watchwordref9_PutAck.mono:∀a0 k,LeO (watchwordref9_PutAck.f k a0) (watchwordref9_PutAck.f (k+1) a0):=by
 intro a0 k;have ih0:=watchwordref9_PutAck.mono_l k;unfold watchwordref9_PutAck.f
 repeat' (with_reducible first|exact ih0 _ _ _|exact watchwordref1_Num.mono _ _ _|exact watchwordref9_AckMay.mono _ _|exact LeO.refl _|exact LeO.none _|refine LeO.ite ?_ ?_ |refine LeO.bind ?_ (λ_=>?_))
def watchwordref9_PutAck.T8:Bool × List (List Nat × List Nat):=(true,[([],[]),([],[]),([1],[1]),([2],[2]),([0,3],[0,3]),([],[]),([5],[5]),([6,3],[6]),([4,7],[4,7]),([],[]),([9],[9]),([10,7],[10]),([8,11],[8,11]),([],[]),([13],[13]),([14,11],[14]),([12,15],[12,15]),([16,15,0,1,2,3,4,5,6,7,8,9,10,11,12,13,14,15,16],[0,16])])
def watchwordref9_PutAck.B8:List Nat:=[0,0,2,6,15,0,32,110,255,0,512,1774,4095,0,8192,28398,65535,131071]
theorem watchwordref9_PutAck.tab8:rtab .any (opsOf Try.f24 8)=watchwordref9_PutAck.T8:=by kernel_rfl
theorem watchwordref9_PutAck.bits8:waitsOk watchwordref9_PutAck.T8.2 watchwordref9_PutAck.B8=true:=by kernel_rfl
set_option maxHeartbeats 8000000 in
set_option maxRecDepth 100000 in
theorem watchwordref9_PutAck.calls (k:Nat) (A0:Option Addr) (c0:Nat) (l0:List (S47)) (r1:ByteArray) (r2:Int) (w:World) (hr0:Kd.C k47 w A0 l0.length l0) (hc0:l0.length<=c0) (h:watchwordref9_PutAck.f k l0=some (r1,r2)):
  Calls Try.prog 24 #[.slice A0 l0.length c0] w λe w'=>e= .returned (.tuple #[.string r1,.int .i64 r2])/\Below w.heap.size w w':=by
 have hu47:=Try.underlying47;have R0:=Aside0.mk hr0;have K0:=Aside0.mk hc0;clear hr0 hc0;have HB:=Aside0.mk (Below.refl w.heap.size w);have H:((watchwordref9_AckMay.f k l0).bind λt0=>(if t0=true then((watchwordref1_Num.f k (l0.length:Int) 1).bind λt1=>(watchwordref9_PutAck.l0 k l0 t1 0))else(some ((⟨#[]⟩:ByteArray),1100))))=some (r1,r2):=h;clear h;obtain⟨t0,A1,H⟩:=bsE H;(try dsimp only at H);have A2:=Aside0.mk A1;clear A1
 by_cases c3:t0=true
 ·subst c3
  rw[if_pos rfl]at H;obtain⟨t1,A3,H⟩:=bsE H;(try dsimp only at H);have A4:=Aside0.mk A3;clear A3;have H':=Aside0.mk H;clear H
  go_enter Try.func24,Try.ntmps24
  go_wp2_with (first|((with_reducible refine gate_callee (f:=41) rfl ?_);refine cLV (some 8) Try.func41 #[.slice A0 l0.length c0] (h:=?_);(with_reducible refine(watchwordref9_AckMay.calls k _ _ l0 true _ ?side1 ?side2 A2.out).mono ?_);(case side1=>repeat (first|exact R0.out|(with_reducible refine Kd.C_alloc ?_ _)|(with_reducible refine Kd.C_drewN ?_ _)|(with_reducible refine Kd.C_drew ?_)));(case side2=>exact K0.out);rintro e w5 ⟨rfl,hb⟩;refine⟨_,rfl,?_⟩;replace HB:=Aside0.mk (below_step mA hb);(try clear hb))|((with_reducible refine gate_callee (f:=53) rfl ?_);refine cLV (some 12) Try.func53 #[.int .i64 (l0.length:Int),.int .i64 1] (h:=?_);(with_reducible refine(watchwordref1_Num.calls k (l0.length:Int) 1 t1 _ A4.out).mono ?_);rintro e w6 ⟨rfl,hb⟩;refine⟨_,rfl,?_⟩;replace HB:=Aside0.mk (below_step mA hb);(try clear hb)))
  go_loopg [4,5] k (λkq v4 v5 w'=>∃(x1:ByteArray) (x2:Int),v4= .string x1/\v5= .int .i64 x2/\Aside0 (watchwordref9_PutAck.l0 kq l0 x1 x2=some (r1,r2))/\Aside0 (kq<=k)/\Aside0 (Below w.heap.size w w'))
  case atStart=>exact⟨(t1),(0),mK,mK,H',⟨Nat.le_refl _⟩,⟨by repeat (first|(with_reducible first|exact HB.out|apply below_alloc|apply pw_below_drewN|apply below_drew1)|exact HB.out)⟩⟩
  case round=>
   clear H';(try clear c2);(try clear p2);(try clear c3);(try clear c4);(try clear c5);obtain⟨x1,x2,rfl,rfl,HA,HK1,HB⟩:=hrel;cases gk with
   |zero=>exact absurd HA.out (by simp[watchwordref9_PutAck.l0])
   |succ k1=>
    have H:=HA.out;clear HA;simp only[watchwordref9_PutAck.l0]at H
    by_cases c7:x2<(l0.length:Int)
    ·rw[if_pos c7]at H
     have ca:=decide_eq_true c7;clear c7
     by_cases c8:0<=x2
     ·rw[if_pos c8]at H
      have cf:=decide_eq_true c8;clear c8;obtain⟨t2,A7,H⟩:=bsE H;(try dsimp only at H);have A9:=Aside0.mk A7;clear A7
      by_cases ci:x1.size+t2.size<=9223372036854775807
      ·rw[if_pos ci]at H
       have cj:=eq_true ci;have ck:=decide_eq_true ci;(try have cl:(9223372036854775807<x1.size+t2.size)=False:=eq_false (Nat.not_lt.2 ci));obtain⟨t3,Aa,H⟩:=bsE H;(try dsimp only at H);have Ab:=Aside0.mk Aa;clear Aa
       by_cases cm:(x1++t2).size +t3.size<=9223372036854775807
       ·rw[if_pos cm]at H
        have cn:=eq_true cm;have co:=decide_eq_true cm;(try have cp:(9223372036854775807<(x1++t2).size +t3.size)=False:=eq_false (Nat.not_lt.2 cm));(try have cq:(9223372036854775807<x1.size+t2.size+t3.size)=False:=eq_false (by have h_:=cm;simp only[ByteArray.size_append]at h_;omega));obtain⟨t4,Ac,H⟩:=bsE H;(try dsimp only at H);have Ad:=Aside0.mk Ac;clear Ac
        by_cases cr:((x1++t2)++t3).size +t4.size<=9223372036854775807
        ·rw[if_pos cr]at H
         have ct:=eq_true cr;have cu:=decide_eq_true cr;(try have cv:(9223372036854775807<((x1++t2)++t3).size +t4.size)=False:=eq_false (Nat.not_lt.2 cr));(try have cw:(9223372036854775807<x1.size+t2.size+t3.size+t4.size)=False:=eq_false mCY);obtain⟨t5,Ae,H⟩:=bsE H;(try dsimp only at H);have Af:=Aside0.mk Ae;clear Ae
         by_cases cx:(((x1++t2)++t3)++t4).size +t5.size<=9223372036854775807
         ·rw[if_pos cx]at H
          have cy:=eq_true cx;have cz:=decide_eq_true cx;(try have c00:(9223372036854775807<(((x1++t2)++t3)++t4).size +t5.size)=False:=eq_false (Nat.not_lt.2 cx));(try have c01:(9223372036854775807<x1.size+t2.size+t3.size+t4.size+t5.size)=False:=eq_false mCQ);have H':=Aside0.mk H;clear H;have p0:0<=(x2:Int):=of_decide_eq_true mE;have q0:x2<(l0.length:Int):=of_decide_eq_true mE;obtain⟨d0,e0,h0,h1,h2,h3⟩:=at_T47 R0.out x2 p0 q0;cases e0;replace h0:=hB HB h0;replace h1:=hB HB h1;replace h2:=hB HB h2;replace h3:=hB HB h3;replace p0:=eq_true p0;replace q0:=eq_true q0;(try go_wp2_with (first|((with_reducible refine gate_dst (N:=6) rfl ?_);refine bxV (N:=6) (cs:=#[.int .i64 0,.int .i64 0,.int .i64 0,.int .i64 0]) (t:=47) (h:=?_);intro g0 hg w3 hbox hb;have B0:=Aside0.mk (hbox);have G0:=Aside0.mk ((mJ:w.heap.size<=g0));have G1:=Aside0.mk ((mJ:w.heap.size<=g0));replace HB:=Aside0.mk (below_step mA hb);clear hb hbox hg;obtain⟨z0,z1,z2,z3⟩:=bc4 B0.out;have z4:=blk_frozen B0.out)|((with_reducible refine gate_store (t:=47) (p:=6) rfl ?_);refine stV (t:=47) (p:=6) (w1:=((((w3.setCell ⟨g0,0,none⟩ (.int .i64 ((rd_T47 l0 x2).f0))).setCell ⟨g0,1,none⟩ (.int .i64 ((rd_T47 l0 x2).f1))).setCell ⟨g0,2,none⟩ (.int .i64 ((rd_T47 l0 x2).f2))).setCell ⟨g0,3,none⟩ (.int .i64 ((rd_T47 l0 x2).f3)))) (h:=?_);intro w7 hw;replace B0:Aside0 (w7.heap[g0]? =some (.cells #[.int .i64 ((rd_T47 l0 x2).f0),.int .i64 ((rd_T47 l0 x2).f1),.int .i64 ((rd_T47 l0 x2).f2),.int .i64 ((rd_T47 l0 x2).f3)] 47 (0,0))):=⟨(by rw[hw];exact(by(with_reducible repeat (first|refine blk_drewN ?_ _|refine blk_drew ?_ |refine blk_alloc ?_ _));refine blk_put (cs:=#[.int .i64 ((rd_T47 l0 x2).f0),.int .i64 ((rd_T47 l0 x2).f1),.int .i64 ((rd_T47 l0 x2).f2),.int .i64 0]) ?_ 3 _ rfl;(with_reducible repeat (first|refine blk_drewN ?_ _|refine blk_drew ?_ |refine blk_alloc ?_ _));refine blk_put (cs:=#[.int .i64 ((rd_T47 l0 x2).f0),.int .i64 ((rd_T47 l0 x2).f1),.int .i64 0,.int .i64 0]) ?_ 2 _ rfl;(with_reducible repeat (first|refine blk_drewN ?_ _|refine blk_drew ?_ |refine blk_alloc ?_ _));refine blk_put (cs:=#[.int .i64 ((rd_T47 l0 x2).f0),.int .i64 0,.int .i64 0,.int .i64 0]) ?_ 1 _ rfl;(with_reducible repeat (first|refine blk_drewN ?_ _|refine blk_drew ?_ |refine blk_alloc ?_ _));refine blk_put (cs:=#[.int .i64 0,.int .i64 0,.int .i64 0,.int .i64 0]) ?_ 0 _ rfl;(with_reducible repeat (first|refine blk_drewN ?_ _|refine blk_drew ?_ |refine blk_alloc ?_ _));exact B0.out))⟩;replace HB:Aside0 (Below w.heap.size w w7):=⟨mBI⟩;clear hw)));replace B0:=Aside0.mk (blk_drew B0.out);replace HB:=Aside0.mk (below_drew1 HB.out);refine start_ (n:=18) (S:=λw'=>w'.cell? ⟨g0,0,none⟩=some (.int .i64 ((rd_T47 l0 x2).f0))/\w'.cell? ⟨g0,1,none⟩=some (.int .i64 ((rd_T47 l0 x2).f1))/\w'.cell? ⟨g0,2,none⟩=some (.int .i64 ((rd_T47 l0 x2).f2))/\w'.cell? ⟨g0,3,none⟩=some (.int .i64 ((rd_T47 l0 x2).f3))) (ds:=[]) mk_18_0 mAD rfl rfl ⟨(blk_cell B0.out 0).trans rfl,(blk_cell B0.out 1).trans rfl,(blk_cell B0.out 2).trans rfl,(blk_cell B0.out 3).trans rfl⟩ (λhHeld=>?_);refine with_tabW watchwordref9_PutAck.tab8 watchwordref9_PutAck.bits8 (λHT_ HW_=>?_);generalize w7.drew=w8 at B0 HB hHeld |-;refine pV 0 23 mk_18_1 ?_;refine pV 1 24 mk_18_2 ?_;refine pV 5 28 #[true,true,false,false,false,true,false,false,false,false,false,false,false,false,false,false,false,false] ?_;refine pV 9 32 #[true,true,false,false,false,true,false,false,false,true,false,false,false,false,false,false,false,false] ?_;refine pV 13 36 #[true,true,false,false,false,true,false,false,false,true,false,false,false,true,false,false,false,false] ?_;refine tV 2 (some 25) #[true,true,true,false,false,true,false,false,false,true,false,false,false,true,false,false,false,false] (hy:=Or.inl ⟨by rfl,by rintro w' ⟨s0,s1,s2,s3⟩;go_simp;with_reducible rfl⟩) (h:=?_);refine tV 6 (some 29) #[true,true,true,false,false,true,true,false,false,true,false,false,false,true,false,false,false,false] (hy:=Or.inl ⟨by rfl,by rintro w' ⟨s0,s1,s2,s3⟩;go_simp;with_reducible rfl⟩) (h:=?_);refine tV 10 (some 33) #[true,true,true,false,false,true,true,false,false,true,true,false,false,true,false,false,false,false] (hy:=Or.inl ⟨by rfl,by rintro w' ⟨s0,s1,s2,s3⟩;go_simp;with_reducible rfl⟩) (h:=?_);refine tV 14 (some 37) #[true,true,true,false,false,true,true,false,false,true,true,false,false,true,true,false,false,false] (hy:=Or.inl ⟨by rfl,by rintro w' ⟨s0,s1,s2,s3⟩;go_simp;with_reducible rfl⟩) (h:=?_)
          refine oV 3 (some 26) #[true,true,true,true,false,true,true,false,false,true,true,false,false,true,true,false,false,false] (h:=λK hK=>?_);refine gV Try.func53 #[.int .i64 ((rd_T47 l0 x2).f0),.int .i64 1] (h:=?_)
          with_reducible refine(watchwordref1_Num.calls k1 ((rd_T47 l0 x2).f0) 1 t2 _ A9.out).mono ?_
          rintro e w9 ⟨rfl,hb⟩;refine⟨_,rfl,?_⟩;replace B0:=Aside0.mk (blk_below mB hb);replace HB:=Aside0.mk (below_step mC hb);(try clear hb);(try clear hb2);(try clear hk);(try clear hi);refine hK.out _ _ ⟨(blk_cell B0.out 0).trans rfl,(blk_cell B0.out 1).trans rfl,(blk_cell B0.out 2).trans rfl,(blk_cell B0.out 3).trans rfl⟩ (λhHeld=>?_);clear hK K;refine nV 26 (h:=?_);refine pV 4 27 #[true,true,true,true,true,true,true,false,false,true,true,false,false,true,true,false,false,false] ?_;refine oV 7 (some 30) #[true,true,true,true,true,true,true,true,false,true,true,false,false,true,true,false,false,false] (h:=λK hK=>?_);refine gV Try.func53 #[.int .i64 ((rd_T47 l0 x2).f2),.int .i64 1] (h:=?_)
          with_reducible refine(watchwordref1_Num.calls k1 ((rd_T47 l0 x2).f2) 1 t3 _ Ab.out).mono ?_
          rintro e wa ⟨rfl,hb⟩;refine⟨_,rfl,?_⟩;replace B0:=Aside0.mk (blk_below mB hb);replace HB:=Aside0.mk (below_step mC hb);(try clear hb);(try clear hb2);(try clear hk);(try clear hi);refine hK.out _ _ ⟨(blk_cell B0.out 0).trans rfl,(blk_cell B0.out 1).trans rfl,(blk_cell B0.out 2).trans rfl,(blk_cell B0.out 3).trans rfl⟩ (λhHeld=>?_);clear hK K;refine nV 30 (h:=?_);refine pV 8 31 #[true,true,true,true,true,true,true,true,true,true,true,false,false,true,true,false,false,false] ?_;refine oV 11 (some 34) #[true,true,true,true,true,true,true,true,true,true,true,true,false,true,true,false,false,false] (h:=λK hK=>?_);refine gV Try.func53 #[.int .i64 ((rd_T47 l0 x2).f1),.int .i64 4] (h:=?_)
          with_reducible refine(watchwordref1_Num.calls k1 ((rd_T47 l0 x2).f1) 4 t4 _ Ad.out).mono ?_
          rintro e wb ⟨rfl,hb⟩;refine⟨_,rfl,?_⟩;replace B0:=Aside0.mk (blk_below mB hb);replace HB:=Aside0.mk (below_step mC hb);(try clear hb);(try clear hb2);(try clear hk);(try clear hi);refine hK.out _ _ ⟨(blk_cell B0.out 0).trans rfl,(blk_cell B0.out 1).trans rfl,(blk_cell B0.out 2).trans rfl,(blk_cell B0.out 3).trans rfl⟩ (λhHeld=>?_);clear hK K;refine nV 34 (h:=?_);refine pV 12 35 mk_18_15 ?_;refine oV 15 (some 38) mk_18_16 (h:=λK hK=>?_);refine gV Try.func53 #[.int .i64 ((rd_T47 l0 x2).f3),.int .i64 2] (h:=?_)
          with_reducible refine(watchwordref1_Num.calls k1 ((rd_T47 l0 x2).f3) 2 t5 _ Af.out).mono ?_
          rintro e wc ⟨rfl,hb⟩;refine⟨_,rfl,?_⟩;replace B0:=Aside0.mk (blk_below mB hb);replace HB:=Aside0.mk (below_step mC hb);(try clear hb);(try clear hb2);(try clear hk);(try clear hi);refine hK.out _ _ ⟨(blk_cell B0.out 0).trans rfl,(blk_cell B0.out 1).trans rfl,(blk_cell B0.out 2).trans rfl,(blk_cell B0.out 3).trans rfl⟩ (λhHeld=>?_);clear hK K;refine nV 38 (h:=?_);refine pV 16 39 mk_18_17 ?_;refine pV 17 4 mk_18_18 ?_;refine done_ (done_of HT_.out mAD) ?_;(try go_wp2)
          go_roundg k1
          case measure=>have:=HK1.out;omega
          case rel=>exact⟨((((x1++t2)++t3)++t4)++t5),(wrap64 (x2+1)),mK,mK,H',⟨by have:=HK1.out;omega⟩,⟨by repeat (first|(with_reducible first|exact HB.out|apply below_alloc|apply pw_below_drewN|apply below_drew1|refine below_set ?_ G1.out)|exact HB.out)⟩⟩
         ·rw[if_neg cx]at H
          exact absurd H mAM
        ·rw[if_neg cr]at H
         exact absurd H mAM
       ·rw[if_neg cm]at H
        exact absurd H mAM
      ·rw[if_neg ci]at H
       exact absurd H mAM
     ·rw[if_neg c8]at H
      exact absurd H mAM
    ·rw[if_neg c7]at H
     have ca:=decide_eq_false c7;clear c7;simp only[Option.some.injEq,Prod.mk.injEq]at H;obtain⟨rfl,rfl⟩:=H;go_wp2
     go_ret2
     exact⟨by first|rfl|(simp[errW_none,errW_some] <;> rfl)|(simp[*,errW_none,errW_some] <;> rfl),by repeat (first|(with_reducible first|exact HB.out|apply below_alloc|apply pw_below_drewN|apply below_drew1)|exact HB.out)⟩
 ·replace c3:=Bool.eq_false_iff.mpr c3
  subst c3;rw[if_neg (show ¬(false=true)by decide)]at H;simp only[Option.some.injEq,Prod.mk.injEq]at H;obtain⟨rfl,rfl⟩:=H
  go_enter Try.func24,Try.ntmps24
  go_wp2_with (first|((with_reducible refine gate_callee (f:=41) rfl ?_);refine cLV (some 8) Try.func41 #[.slice A0 l0.length c0] (h:=?_);(with_reducible refine(watchwordref9_AckMay.calls k _ _ l0 false _ ?side1 ?side2 A2.out).mono ?_);(case side1=>repeat (first|exact R0.out|(with_reducible refine Kd.C_alloc ?_ _)|(with_reducible refine Kd.C_drewN ?_ _)|(with_reducible refine Kd.C_drew ?_)));(case side2=>exact K0.out);rintro e wd ⟨rfl,hb⟩;refine⟨_,rfl,?_⟩;replace HB:=Aside0.mk (below_step mA hb);(try clear hb)))
  go_ret2
  exact⟨by first|rfl|(simp[errW_none,errW_some] <;> rfl)|(simp[*,errW_none,errW_some] <;> rfl),by repeat (first|(with_reducible first|exact HB.out|apply below_alloc|apply pw_below_drewN|apply below_drew1)|exact HB.out)⟩
def watchwordref1_TypeMay.f (a0:Int):Option (Bool):=if a0=1 then(some true)else(if a0=4 then(some true)else(some (a0==5)))
set_option maxHeartbeats 8000000 in
set_option maxRecDepth 100000 in
theorem watchwordref1_TypeMay.calls (a0:Int) (r:Bool) (w:World) (h:watchwordref1_TypeMay.f a0=some r):
  Calls Try.prog 55 #[.int .i64 a0] w λe w'=>e= .returned (.bool r)/\Drawn0 w w':=by
 have H:(if a0=1 then(some true)else(if a0=4 then(some true)else(some (a0==5))))=some r:=h;clear h
 by_cases c2:a0=1
 ·rw[if_pos c2]at H
  have c4:=beq_iff_eq.mpr c2;have c6:=bne_eq_false_iff_eq.mpr c2;clear c2;obtain rfl:=Option.some.inj H
  go_enter Try.func55,Try.ntmps55
  go_wp2;go_ret;exact⟨by first|rfl|(simp;done)|(simp[*];done),by repeat (first|exact Drawn0.refl _|apply Drawn0.step)⟩
 ·rw[if_neg c2]at H
  have c4:=beq_eq_false_iff_ne.mpr c2;have c6:=bne_iff_ne.mpr c2
  by_cases c3:a0=4
  ·rw[if_pos c3]at H
   have ce:=beq_iff_eq.mpr c3;have cg:=bne_eq_false_iff_eq.mpr c3;clear c3;obtain rfl:=Option.some.inj H
   go_enter Try.func55,Try.ntmps55
   go_wp2;go_ret;exact⟨by first|rfl|(simp;done)|(simp[*];done),by repeat (first|exact Drawn0.refl _|apply Drawn0.step)⟩
  ·rw[if_neg c3]at H
   have ce:=beq_eq_false_iff_ne.mpr c3;have cg:=bne_iff_ne.mpr c3;obtain rfl:=Option.some.inj H
   go_enter Try.func55,Try.ntmps55
   go_wp2;go_ret;exact⟨by first|rfl|(simp;done)|(simp[*];done),by repeat (first|exact Drawn0.refl _|apply Drawn0.step)⟩
def watchwordref1_PutHead.j0:Nat->Int->Int->Int->Bool->Option (ByteArray × Int)
 |0,_,_,_,_=>none
 |k+1,x0,x1,x2,x20=>if x20=true then(some ((⟨#[]⟩:ByteArray),800))else((watchwordref1_Num.f k x0 1).bind λt296=>(if 1+t296.size<=9223372036854775807 then((watchwordref1_Num.f k x2 2).bind λt297=>(if((⟨#[2]⟩:ByteArray)++t296).size +t297.size<=9223372036854775807 then((watchwordref1_Num.f k x1 4).bind λt298=>(if(((⟨#[2]⟩:ByteArray)++t296)++t297).size +t298.size<=9223372036854775807 then((watchwordref1_Num.f k 0 4).bind λt299=>(if((((⟨#[2]⟩:ByteArray)++t296)++t297)++t298).size +t299.size<=9223372036854775807 then(some (((((⟨#[2]⟩:ByteArray)++t296)++t297)++t298)++t299,0))else(none)))else(none)))else(none)))else(none)))
def watchwordref1_PutHead.f (k:Nat) (a0:Int) (a1:Int) (a2:Int):Option (ByteArray × Int):=(watchwordref1_TypeMay.f a0).bind λt293=>(if t293=true then((watchwordref1_routerMay.f a1).bind λt294=>(if t294=true then((watchwordref1_upTo.f a2 12 512).bind λt295=>(watchwordref1_PutHead.j0 k a0 a1 a2 (!t295)))else(watchwordref1_PutHead.j0 k a0 a1 a2 true)))else(watchwordref1_PutHead.j0 k a0 a1 a2 true))
theorem watchwordref1_PutHead.mono_l:∀k,(∀y0 y1 y2 y3,LeO (watchwordref1_PutHead.j0 k y0 y1 y2 y3) (watchwordref1_PutHead.j0 (k+1) y0 y1 y2 y3))
 |0=>λ_ _ _ _ r h=>by simp[watchwordref1_PutHead.j0]at h
 |k+1=>by
  have ih0:=watchwordref1_PutHead.mono_l k
  ·intro y0 y1 y2 y3
   unfold watchwordref1_PutHead.j0
   repeat' (with_reducible first|exact ih0 _ _ _ _|exact watchwordref1_Num.mono _ _ _|exact LeO.refl _|exact LeO.none _|refine LeO.ite ?_ ?_ |refine LeO.bind ?_ (λ_=>?_))
theorem watchwordref1_PutHead.mono:∀a0 a1 a2 k,LeO (watchwordref1_PutHead.f k a0 a1 a2) (watchwordref1_PutHead.f (k+1) a0 a1 a2):=by
 intro a0 a1 a2 k;have ih0:=watchwordref1_PutHead.mono_l k;unfold watchwordref1_PutHead.f
 repeat' (with_reducible first|exact ih0 _ _ _ _|exact watchwordref1_Num.mono _ _ _|exact LeO.refl _|exact LeO.none _|refine LeO.ite ?_ ?_ |refine LeO.bind ?_ (λ_=>?_))
set_option maxHeartbeats 8000000 in
set_option maxRecDepth 100000 in
theorem watchwordref1_PutHead.calls (k:Nat) (a0:Int) (a1:Int) (a2:Int) (r1:ByteArray) (r2:Int) (w:World) (h:watchwordref1_PutHead.f k a0 a1 a2=some (r1,r2)):
  Calls Try.prog 25 #[.int .i64 a0,.int .i64 a1,.int .i64 a2] w λe w'=>e= .returned (.tuple #[.string r1,.int .i64 r2])/\Below w.heap.size w w':=by
 have HB:=Aside0.mk (Below.refl w.heap.size w);have H:((watchwordref1_TypeMay.f a0).bind λt0=>(if t0=true then((watchwordref1_routerMay.f a1).bind λt1=>(if t1=true then((watchwordref1_upTo.f a2 12 512).bind λt2=>(watchwordref1_PutHead.j0 k a0 a1 a2 (!t2)))else(watchwordref1_PutHead.j0 k a0 a1 a2 true)))else(watchwordref1_PutHead.j0 k a0 a1 a2 true)))=some (r1,r2):=h;clear h;have K0:=Aside0.mk H;clear H
 go_enter Try.func25,Try.ntmps25
 go_upto_region 1 with(fail)
 go_cut [20] (λv20 wc=>∃(kq:Nat) (x3:Bool),v20= .bool x3/\Aside0 (watchwordref1_PutHead.j0 kq a0 a1 a2 x3=some (r1,r2))/\Aside0 (kq<=k)/\Aside0 (Below w.heap.size w wc))
 case first=>
  have H:=K0.out;clear K0;obtain⟨t0,A0,H⟩:=bsE H;(try dsimp only at H);have A5:=Aside0.mk A0;clear A0
  by_cases c6:t0=true
  ·subst c6
   rw[if_pos rfl]at H;obtain⟨t1,A2,H⟩:=bsE H;(try dsimp only at H);have A7:=Aside0.mk A2;clear A2
   by_cases c8:t1=true
   ·subst c8
    rw[if_pos rfl]at H;obtain⟨t2,A4,H⟩:=bsE H;(try dsimp only at H);have A9:=Aside0.mk A4;clear A4;have H':=Aside0.mk H;clear H
    go_wp2_with (first|((with_reducible refine gate_callee (f:=55) rfl ?_);refine cLV (some 9) Try.func55 #[.int .i64 a0] (h:=?_);(with_reducible refine(watchwordref1_TypeMay.calls a0 true _ A5.out).mono ?_);rintro e w' ⟨rfl,⟨nd,rfl⟩⟩;refine⟨_,rfl,?_⟩)|(go_at_call 56;(with_reducible refine(watchwordref1_routerMay.calls a1 true _ A7.out).mono ?_);rintro e w' ⟨rfl,⟨nd,rfl⟩⟩)|(go_at_call 57;(with_reducible refine(watchwordref1_upTo.calls a2 12 512 t2 _ A9.out).mono ?_);rintro e w' ⟨rfl,⟨nd,rfl⟩⟩))
    go_meet
    case rel=>exact⟨_,(!t2),mK,H',⟨by first|omega|exact Nat.le_refl _⟩,⟨by repeat (first|(with_reducible first|exact HB.out|apply below_alloc|apply pw_below_drewN|apply below_drew1)|exact HB.out)⟩⟩
   ·replace c8:=Bool.eq_false_iff.mpr c8
    subst c8;rw[if_neg (show ¬(false=true)by decide)]at H;have H':=Aside0.mk H;clear H
    go_wp2_with (first|((with_reducible refine gate_callee (f:=55) rfl ?_);refine cLV (some 9) Try.func55 #[.int .i64 a0] (h:=?_);(with_reducible refine(watchwordref1_TypeMay.calls a0 true _ A5.out).mono ?_);rintro e w' ⟨rfl,⟨nd,rfl⟩⟩;refine⟨_,rfl,?_⟩)|(go_at_call 56;(with_reducible refine(watchwordref1_routerMay.calls a1 false _ A7.out).mono ?_);rintro e w' ⟨rfl,⟨nd,rfl⟩⟩))
    go_meet
    case rel=>exact⟨_,(true),mK,H',⟨by first|omega|exact Nat.le_refl _⟩,⟨by repeat (first|(with_reducible first|exact HB.out|apply below_alloc|apply pw_below_drewN|apply below_drew1)|exact HB.out)⟩⟩
  ·replace c6:=Bool.eq_false_iff.mpr c6
   subst c6;rw[if_neg (show ¬(false=true)by decide)]at H;have H':=Aside0.mk H;clear H
   go_wp2_with (first|((with_reducible refine gate_callee (f:=55) rfl ?_);refine cLV (some 9) Try.func55 #[.int .i64 a0] (h:=?_);(with_reducible refine(watchwordref1_TypeMay.calls a0 false _ A5.out).mono ?_);rintro e w' ⟨rfl,⟨nd,rfl⟩⟩;refine⟨_,rfl,?_⟩))
   go_meet
   case rel=>exact⟨_,(true),mK,H',⟨by first|omega|exact Nat.le_refl _⟩,⟨by repeat (first|(with_reducible first|exact HB.out|apply below_alloc|apply pw_below_drewN|apply below_drew1)|exact HB.out)⟩⟩
 case rest=>
  clear K0;(try clear c2);(try clear p2);(try clear c5);(try clear c6);(try clear c8);obtain⟨kq,x3,rfl,HA,HJ3,HB⟩:=hcut;cases kq with
  |zero=>exact absurd HA.out (by simp[watchwordref1_PutHead.j0])
  |succ j1=>
   have H:=HA.out;clear HA;simp only[watchwordref1_PutHead.j0]at H
   by_cases cf:x3=true
   ·subst cf
    rw[if_pos rfl]at H;simp only[Option.some.injEq,Prod.mk.injEq]at H;obtain⟨rfl,rfl⟩:=H;go_wp2
    go_ret2
    exact⟨by first|rfl|(simp[errW_none,errW_some] <;> rfl)|(simp[*,errW_none,errW_some] <;> rfl),by repeat (first|(with_reducible first|exact HB.out|apply below_alloc|apply pw_below_drewN|apply below_drew1)|exact HB.out)⟩
   ·replace cf:=Bool.eq_false_iff.mpr cf
    subst cf;rw[if_neg (show ¬(false=true)by decide)]at H;obtain⟨t3,Af,H⟩:=bsE H;(try dsimp only at H);have Ag:=Aside0.mk Af;clear Af
    by_cases cg:1+t3.size<=9223372036854775807
    ·rw[if_pos cg]at H
     have ch:=eq_true cg;have ci:=decide_eq_true cg;(try have cj:(9223372036854775807<1+t3.size)=False:=eq_false (Nat.not_lt.2 cg));obtain⟨t4,Ah,H⟩:=bsE H;(try dsimp only at H);have Ai:=Aside0.mk Ah;clear Ah
     by_cases ck:((⟨#[2]⟩:ByteArray)++t3).size +t4.size<=9223372036854775807
     ·rw[if_pos ck]at H
      have cl:=eq_true ck;have cm:=decide_eq_true ck;(try have cn:(9223372036854775807<((⟨#[2]⟩:ByteArray)++t3).size +t4.size)=False:=eq_false (Nat.not_lt.2 ck));(try have co:(9223372036854775807<1+t3.size+t4.size)=False:=eq_false mCT);(try have cp:(9223372036854775807<(⟨#[2]⟩:ByteArray).size +t3.size+t4.size)=False:=eq_false mCT);obtain⟨t5,Aj,H⟩:=bsE H;(try dsimp only at H);have Ak:=Aside0.mk Aj;clear Aj
      by_cases cq:(((⟨#[2]⟩:ByteArray)++t3)++t4).size +t5.size<=9223372036854775807
      ·rw[if_pos cq]at H
       have cr:=eq_true cq;have cs:=decide_eq_true cq;(try have ct:(9223372036854775807<(((⟨#[2]⟩:ByteArray)++t3)++t4).size +t5.size)=False:=eq_false (Nat.not_lt.2 cq));(try have cu:(9223372036854775807<1+t3.size+t4.size+t5.size)=False:=eq_false mCS);(try have cv:(9223372036854775807<(⟨#[2]⟩:ByteArray).size +t3.size+t4.size+t5.size)=False:=eq_false mCS);obtain⟨t6,Al,H⟩:=bsE H;(try dsimp only at H);have Am:=Aside0.mk Al;clear Al
       by_cases cw:((((⟨#[2]⟩:ByteArray)++t3)++t4)++t5).size +t6.size<=9223372036854775807
       ·rw[if_pos cw]at H
        have cx:=eq_true cw;have cy:=decide_eq_true cw;(try have cz:(9223372036854775807<((((⟨#[2]⟩:ByteArray)++t3)++t4)++t5).size +t6.size)=False:=eq_false (Nat.not_lt.2 cw));(try have c00:(9223372036854775807<1+t3.size+t4.size+t5.size+t6.size)=False:=eq_false mCR);(try have c01:(9223372036854775807<(⟨#[2]⟩:ByteArray).size +t3.size+t4.size+t5.size+t6.size)=False:=eq_false mCR);simp only[Option.some.injEq,Prod.mk.injEq]at H;obtain⟨rfl,rfl⟩:=H
        go_wp2_with (first|((with_reducible refine gate_callee (f:=53) rfl ?_);refine cLV (some 22) Try.func53 #[.int .i64 a0,.int .i64 1] (h:=?_);(with_reducible refine(watchwordref1_Num.calls j1 a0 1 t3 _ Ag.out).mono ?_);rintro e w0 ⟨rfl,hb⟩;refine⟨_,rfl,?_⟩;replace HB:=Aside0.mk (below_step mA hb);(try clear hb))|((with_reducible refine gate_callee (f:=53) rfl ?_);refine cLV (some 25) Try.func53 #[.int .i64 a2,.int .i64 2] (h:=?_);(with_reducible refine(watchwordref1_Num.calls j1 a2 2 t4 _ Ai.out).mono ?_);rintro e w1 ⟨rfl,hb⟩;refine⟨_,rfl,?_⟩;replace HB:=Aside0.mk (below_step mA hb);(try clear hb))|((with_reducible refine gate_callee (f:=53) rfl ?_);refine cLV (some 28) Try.func53 #[.int .i64 a1,.int .i64 4] (h:=?_);(with_reducible refine(watchwordref1_Num.calls j1 a1 4 t5 _ Ak.out).mono ?_);rintro e w2 ⟨rfl,hb⟩;refine⟨_,rfl,?_⟩;replace HB:=Aside0.mk (below_step mA hb);(try clear hb))|((with_reducible refine gate_callee (f:=53) rfl ?_);refine cLV (some 30) Try.func53 #[.int .i64 0,.int .i64 4] (h:=?_);(with_reducible refine(watchwordref1_Num.calls j1 0 4 t6 _ Am.out).mono ?_);rintro e w3 ⟨rfl,hb⟩;refine⟨_,rfl,?_⟩;replace HB:=Aside0.mk (below_step mA hb);(try clear hb)))
        go_ret2
        exact⟨by first|rfl|(simp[errW_none,errW_some] <;> rfl)|(simp[*,errW_none,errW_some] <;> rfl),by repeat (first|(with_reducible first|exact HB.out|apply below_alloc|apply pw_below_drewN|apply below_drew1)|exact HB.out)⟩
       ·rw[if_neg cw]at H
        exact absurd H mAM
      ·rw[if_neg cq]at H
       exact absurd H mAM
     ·rw[if_neg ck]at H
      exact absurd H mAM
    ·rw[if_neg cg]at H
     exact absurd H mAM
def watchwordref9_PutPacket.f (k:Nat) (a0_0:Int) (a0_1:Int) (l0_2:List Int) (l0_3:List (S45)) (l0_4:List (S47)):Option (ByteArray × Int):=(watchwordref9_PacketMay.f k a0_0 a0_1 l0_2 l0_3 l0_4).bind λt301=>(if t301=true then((watchwordref9_PutHello.f k l0_2).bind λbt302=>(if a0_0=4 then((watchwordref9_PutUpdate.f k l0_3).bind λbt304=>((watchwordref1_PutHead.f k a0_0 a0_1 (wrap64 (12+(bt304.1.size:Int)))).bind λbt306=>(if bt306.1.size+bt304.1.size<=9223372036854775807 then(some (bt306.1++bt304.1,0))else(none))))else(if a0_0=5 then((watchwordref9_PutAck.f k l0_4).bind λbt308=>((watchwordref1_PutHead.f k a0_0 a0_1 (wrap64 (12+(bt308.1.size:Int)))).bind λbt310=>(if bt310.1.size+bt308.1.size<=9223372036854775807 then(some (bt310.1++bt308.1,0))else(none))))else((watchwordref1_PutHead.f k a0_0 a0_1 (wrap64 (12+(bt302.1.size:Int)))).bind λbt312=>(if bt312.1.size+bt302.1.size<=9223372036854775807 then(some (bt312.1++bt302.1,0))else(none))))))else(some ((⟨#[]⟩:ByteArray),1200)))
theorem watchwordref9_PutPacket.mono:∀a0 a1 a2 a3 a4 k,LeO (watchwordref9_PutPacket.f k a0 a1 a2 a3 a4) (watchwordref9_PutPacket.f (k+1) a0 a1 a2 a3 a4):=by
 intro a0 a1 a2 a3 a4 k;unfold watchwordref9_PutPacket.f
 repeat' (with_reducible first|exact watchwordref1_PutHead.mono _ _ _ _|exact watchwordref9_PacketMay.mono _ _ _ _ _ _|exact watchwordref9_PutAck.mono _ _|exact watchwordref9_PutHello.mono _ _|exact watchwordref9_PutUpdate.mono _ _|exact LeO.refl _|exact LeO.none _|refine LeO.ite ?_ ?_ |refine LeO.bind ?_ (λ_=>?_))
set_option maxHeartbeats 8000000 in
set_option maxRecDepth 100000 in
theorem watchwordref9_PutPacket.calls (k:Nat) (a0_0:Int) (a0_1:Int) (A0_2:Option Addr) (c0_2:Nat) (l0_2:List Int) (A0_3:Option Addr) (c0_3:Nat) (l0_3:List (S45)) (A0_4:Option Addr) (c0_4:Nat) (l0_4:List (S47)) (r1:ByteArray) (r2:Int) (w:World) (hr0_2:Kd.C (Kd.int .i64) w A0_2 l0_2.length l0_2) (hc0_2:l0_2.length<=c0_2) (hr0_3:Kd.C k45 w A0_3 l0_3.length l0_3) (hc0_3:l0_3.length<=c0_3) (hr0_4:Kd.C k47 w A0_4 l0_4.length l0_4) (hc0_4:l0_4.length<=c0_4) (h:watchwordref9_PutPacket.f k a0_0 a0_1 l0_2 l0_3 l0_4=some (r1,r2)):
  Calls Try.prog 10 #[.agg #[.int .i64 a0_0,.int .i64 a0_1,.slice A0_2 l0_2.length c0_2,.slice A0_3 l0_3.length c0_3,.slice A0_4 l0_4.length c0_4]] w λe w'=>e= .returned (.tuple #[.string r1,.int .i64 r2])/\Below w.heap.size w w':=by
 have hu26:=Try.underlying26;have R0:=Aside0.mk hr0_2;have K0:=Aside0.mk hc0_2;clear hr0_2 hc0_2;have R1:=Aside0.mk hr0_3;have K1:=Aside0.mk hc0_3;clear hr0_3 hc0_3;have R2:=Aside0.mk hr0_4;have K2:=Aside0.mk hc0_4;clear hr0_4 hc0_4;have HB:=Aside0.mk (Below.refl w.heap.size w);have H:((watchwordref9_PacketMay.f k a0_0 a0_1 l0_2 l0_3 l0_4).bind λt0=>(if t0=true then((watchwordref9_PutHello.f k l0_2).bind λbt302=>(if a0_0=4 then((watchwordref9_PutUpdate.f k l0_3).bind λbt304=>((watchwordref1_PutHead.f k a0_0 a0_1 (wrap64 (12+(bt304.1.size:Int)))).bind λbt306=>(if bt306.1.size+bt304.1.size<=9223372036854775807 then(some (bt306.1++bt304.1,0))else(none))))else(if a0_0=5 then((watchwordref9_PutAck.f k l0_4).bind λbt308=>((watchwordref1_PutHead.f k a0_0 a0_1 (wrap64 (12+(bt308.1.size:Int)))).bind λbt310=>(if bt310.1.size+bt308.1.size<=9223372036854775807 then(some (bt310.1++bt308.1,0))else(none))))else((watchwordref1_PutHead.f k a0_0 a0_1 (wrap64 (12+(bt302.1.size:Int)))).bind λbt312=>(if bt312.1.size+bt302.1.size<=9223372036854775807 then(some (bt312.1++bt302.1,0))else(none))))))else(some ((⟨#[]⟩:ByteArray),1200))))=some (r1,r2):=h;clear h;obtain⟨t0,A0,H⟩:=bsE H;(try dsimp only at H);have A2:=Aside0.mk A0;clear A0
 by_cases c3:t0=true
 ·subst c3
  rw[if_pos rfl]at H;obtain⟨⟨t1,t2⟩,A3,H⟩:=bsE H;(try dsimp only at H);have A4:=Aside0.mk A3;clear A3
  by_cases c5:a0_0=4
  ·rw[if_pos c5]at H
   have c6:=beq_iff_eq.mpr c5;have c9:=bne_eq_false_iff_eq.mpr c5;clear c5;obtain⟨⟨t3,t4⟩,A5,H⟩:=bsE H;(try dsimp only at H);have A6:=Aside0.mk A5;clear A5;obtain⟨⟨t5,t6⟩,A8,H⟩:=bsE H;(try dsimp only at H);have A7:=Aside0.mk A8;clear A8
   by_cases c8:t5.size+t3.size<=9223372036854775807
   ·rw[if_pos c8]at H
    have ce:=eq_true c8;have cg:=decide_eq_true c8;(try have ci:(9223372036854775807<t5.size+t3.size)=False:=eq_false (Nat.not_lt.2 c8));simp only[Option.some.injEq,Prod.mk.injEq]at H;obtain⟨rfl,rfl⟩:=H
    go_enter Try.func10,Try.ntmps10
    go_wp2_with (first|((with_reducible refine gate_dst (N:=1) rfl ?_);refine bxV (N:=1) (cs:=#[.int .i64 a0_0,.int .i64 a0_1,.slice A0_2 l0_2.length c0_2,.slice A0_3 l0_3.length c0_3,.slice A0_4 l0_4.length c0_4]) (t:=26) (h:=?_);intro g0 hg w9 hbox hb;have B0:=Aside0.mk (hbox);have G0:=Aside0.mk ((mJ:w.heap.size<=g0));have G1:=Aside0.mk ((mJ:w.heap.size<=g0));replace HB:=Aside0.mk (below_step mA hb);clear hb hbox hg;obtain⟨z0,z1,z2,z3,z4⟩:=bc5 B0.out;have z5:=blk_frozen B0.out)|((with_reducible refine gate_callee (f:=16) rfl ?_);refine cLV (some 9) Try.func16 #[.agg #[.int .i64 a0_0,.int .i64 a0_1,.slice A0_2 l0_2.length c0_2,.slice A0_3 l0_3.length c0_3,.slice A0_4 l0_4.length c0_4]] (h:=?_);(with_reducible refine(watchwordref9_PacketMay.calls k a0_0 a0_1 _ _ l0_2 _ _ l0_3 _ _ l0_4 true _ ?side1 ?side2 ?side3 ?side4 ?side5 ?side6 A2.out).mono ?_);(case side1=>repeat (first|exact(Kd.C_below R0.out HB.out)|(with_reducible refine Kd.C_alloc ?_ _)|(with_reducible refine Kd.C_drewN ?_ _)|(with_reducible refine Kd.C_drew ?_)));(case side2=>exact K0.out);(case side3=>repeat (first|exact(Kd.C_below R1.out HB.out)|(with_reducible refine Kd.C_alloc ?_ _)|(with_reducible refine Kd.C_drewN ?_ _)|(with_reducible refine Kd.C_drew ?_)));(case side4=>exact K1.out);(case side5=>repeat (first|exact(Kd.C_below R2.out HB.out)|(with_reducible refine Kd.C_alloc ?_ _)|(with_reducible refine Kd.C_drewN ?_ _)|(with_reducible refine Kd.C_drew ?_)));(case side6=>exact K2.out);rintro e w1 ⟨rfl,hb⟩;refine⟨_,rfl,?_⟩;replace B0:=Aside0.mk (blk_below mB hb);replace HB:=Aside0.mk (below_step mC hb);(try clear hb);obtain⟨z6,z7,z8,z9,za⟩:=bc5 B0.out;have zb:=blk_frozen B0.out)|((with_reducible refine gate_callee (f:=22) rfl ?_);refine cLV (some 14) Try.func22 #[.slice A0_2 l0_2.length c0_2] (h:=?_);(with_reducible refine(watchwordref9_PutHello.calls k _ _ l0_2 t1 t2 _ ?side1 ?side2 A4.out).mono ?_);(case side1=>repeat (first|exact(Kd.C_below R0.out HB.out)|(with_reducible refine Kd.C_alloc ?_ _)|(with_reducible refine Kd.C_drewN ?_ _)|(with_reducible refine Kd.C_drew ?_)));(case side2=>exact K0.out);rintro e w2 ⟨rfl,hb⟩;refine⟨_,rfl,?_⟩;replace B0:=Aside0.mk (blk_below mB hb);replace HB:=Aside0.mk (below_step mC hb);(try clear hb);obtain⟨zc,zd,ze,zf,zg⟩:=bc5 B0.out;have zh:=blk_frozen B0.out)|((with_reducible refine gate_callee (f:=23) rfl ?_);refine cLV (some 24) Try.func23 #[.slice A0_3 l0_3.length c0_3] (h:=?_);(with_reducible refine(watchwordref9_PutUpdate.calls k _ _ l0_3 t3 t4 _ ?side1 ?side2 A6.out).mono ?_);(case side1=>repeat (first|exact(Kd.C_below R1.out HB.out)|(with_reducible refine Kd.C_alloc ?_ _)|(with_reducible refine Kd.C_drewN ?_ _)|(with_reducible refine Kd.C_drew ?_)));(case side2=>exact K1.out);rintro e w3 ⟨rfl,hb⟩;refine⟨_,rfl,?_⟩;replace B0:=Aside0.mk (blk_below mB hb);replace HB:=Aside0.mk (below_step mC hb);(try clear hb);obtain⟨zi,zj,zk,zl,zm⟩:=bc5 B0.out;have zn:=blk_frozen B0.out)|((with_reducible refine gate_callee (f:=25) rfl ?_);refine cLV (some 43) Try.func25 #[.int .i64 a0_0,.int .i64 a0_1,.int .i64 (wrap64 (12+(t3.size:Int)))] (h:=?_);(with_reducible refine(watchwordref1_PutHead.calls k a0_0 a0_1 (wrap64 (12+(t3.size:Int))) t5 t6 _ A7.out).mono ?_);rintro e w4 ⟨rfl,hb⟩;refine⟨_,rfl,?_⟩;replace B0:=Aside0.mk (blk_below mB hb);replace HB:=Aside0.mk (below_step mC hb);(try clear hb)))
    go_ret2
    exact⟨by first|rfl|(simp[errW_none,errW_some] <;> rfl)|(simp[*,errW_none,errW_some] <;> rfl),by repeat (first|(with_reducible first|exact HB.out|apply below_alloc|apply pw_below_drewN|apply below_drew1|refine below_set ?_ G1.out)|exact HB.out)⟩
   ·rw[if_neg c8]at H
    exact absurd H mAM
  ·rw[if_neg c5]at H
   have c6:=beq_eq_false_iff_ne.mpr c5;have c9:=bne_iff_ne.mpr c5
   by_cases co:a0_0=5
   ·rw[if_pos co]at H
    have cp:=beq_iff_eq.mpr co;have cq:=bne_eq_false_iff_eq.mpr co;clear co;obtain⟨⟨t7,t8⟩,Ae,H⟩:=bsE H;(try dsimp only at H);have Af:=Aside0.mk Ae;clear Ae;obtain⟨⟨t9,ta⟩,Ag,H⟩:=bsE H;(try dsimp only at H);have A0:=Aside0.mk Ag;clear Ag
    by_cases cr:t9.size+t7.size<=9223372036854775807
    ·rw[if_pos cr]at H
     have ct:=eq_true cr;have cu:=decide_eq_true cr;(try have cv:(9223372036854775807<t9.size+t7.size)=False:=eq_false (Nat.not_lt.2 cr));simp only[Option.some.injEq,Prod.mk.injEq]at H;obtain⟨rfl,rfl⟩:=H
     go_enter Try.func10,Try.ntmps10
     go_wp2_with (first|((with_reducible refine gate_dst (N:=1) rfl ?_);refine bxV (N:=1) (cs:=#[.int .i64 a0_0,.int .i64 a0_1,.slice A0_2 l0_2.length c0_2,.slice A0_3 l0_3.length c0_3,.slice A0_4 l0_4.length c0_4]) (t:=26) (h:=?_);intro g0 hg w5 hbox hb;have B0:=Aside0.mk (hbox);have G0:=Aside0.mk ((mJ:w.heap.size<=g0));have G1:=Aside0.mk ((mJ:w.heap.size<=g0));replace HB:=Aside0.mk (below_step mA hb);clear hb hbox hg;obtain⟨zo,zp,zq,zr,zs⟩:=bc5 B0.out;have zt:=blk_frozen B0.out)|((with_reducible refine gate_callee (f:=16) rfl ?_);refine cLV (some 9) Try.func16 #[.agg #[.int .i64 a0_0,.int .i64 a0_1,.slice A0_2 l0_2.length c0_2,.slice A0_3 l0_3.length c0_3,.slice A0_4 l0_4.length c0_4]] (h:=?_);(with_reducible refine(watchwordref9_PacketMay.calls k a0_0 a0_1 _ _ l0_2 _ _ l0_3 _ _ l0_4 true _ ?side1 ?side2 ?side3 ?side4 ?side5 ?side6 A2.out).mono ?_);(case side1=>repeat (first|exact(Kd.C_below R0.out HB.out)|(with_reducible refine Kd.C_alloc ?_ _)|(with_reducible refine Kd.C_drewN ?_ _)|(with_reducible refine Kd.C_drew ?_)));(case side2=>exact K0.out);(case side3=>repeat (first|exact(Kd.C_below R1.out HB.out)|(with_reducible refine Kd.C_alloc ?_ _)|(with_reducible refine Kd.C_drewN ?_ _)|(with_reducible refine Kd.C_drew ?_)));(case side4=>exact K1.out);(case side5=>repeat (first|exact(Kd.C_below R2.out HB.out)|(with_reducible refine Kd.C_alloc ?_ _)|(with_reducible refine Kd.C_drewN ?_ _)|(with_reducible refine Kd.C_drew ?_)));(case side6=>exact K2.out);rintro e w6 ⟨rfl,hb⟩;refine⟨_,rfl,?_⟩;replace B0:=Aside0.mk (blk_below mB hb);replace HB:=Aside0.mk (below_step mC hb);(try clear hb);obtain⟨zu,zv,zw,zx,zy⟩:=bc5 B0.out;have zz:=blk_frozen B0.out)|((with_reducible refine gate_callee (f:=22) rfl ?_);refine cLV (some 14) Try.func22 #[.slice A0_2 l0_2.length c0_2] (h:=?_);(with_reducible refine(watchwordref9_PutHello.calls k _ _ l0_2 t1 t2 _ ?side1 ?side2 A4.out).mono ?_);(case side1=>repeat (first|exact(Kd.C_below R0.out HB.out)|(with_reducible refine Kd.C_alloc ?_ _)|(with_reducible refine Kd.C_drewN ?_ _)|(with_reducible refine Kd.C_drew ?_)));(case side2=>exact K0.out);rintro e w7 ⟨rfl,hb⟩;refine⟨_,rfl,?_⟩;replace B0:=Aside0.mk (blk_below mB hb);replace HB:=Aside0.mk (below_step mC hb);(try clear hb);obtain⟨z00,z01,z02,z03,z04⟩:=bc5 B0.out;have z05:=blk_frozen B0.out)|((with_reducible refine gate_callee (f:=24) rfl ?_);refine cLV (some 32) Try.func24 #[.slice A0_4 l0_4.length c0_4] (h:=?_);(with_reducible refine(watchwordref9_PutAck.calls k _ _ l0_4 t7 t8 _ ?side1 ?side2 Af.out).mono ?_);(case side1=>repeat (first|exact(Kd.C_below R2.out HB.out)|(with_reducible refine Kd.C_alloc ?_ _)|(with_reducible refine Kd.C_drewN ?_ _)|(with_reducible refine Kd.C_drew ?_)));(case side2=>exact K2.out);rintro e w8 ⟨rfl,hb⟩;refine⟨_,rfl,?_⟩;replace B0:=Aside0.mk (blk_below mB hb);replace HB:=Aside0.mk (below_step mC hb);(try clear hb);obtain⟨z06,z07,z08,z09,z0a⟩:=bc5 B0.out;have z0b:=blk_frozen B0.out)|((with_reducible refine gate_callee (f:=25) rfl ?_);refine cLV (some 43) Try.func25 #[.int .i64 a0_0,.int .i64 a0_1,.int .i64 (wrap64 (12+(t7.size:Int)))] (h:=?_);(with_reducible refine(watchwordref1_PutHead.calls k a0_0 a0_1 (wrap64 (12+(t7.size:Int))) t9 ta _ A0.out).mono ?_);rintro e wa ⟨rfl,hb⟩;refine⟨_,rfl,?_⟩;replace B0:=Aside0.mk (blk_below mB hb);replace HB:=Aside0.mk (below_step mC hb);(try clear hb)))
     go_ret2
     exact⟨by first|rfl|(simp[errW_none,errW_some] <;> rfl)|(simp[*,errW_none,errW_some] <;> rfl),by repeat (first|(with_reducible first|exact HB.out|apply below_alloc|apply pw_below_drewN|apply below_drew1|refine below_set ?_ G1.out)|exact HB.out)⟩
    ·rw[if_neg cr]at H
     exact absurd H mAM
   ·rw[if_neg co]at H
    have cp:=beq_eq_false_iff_ne.mpr co;have cq:=bne_iff_ne.mpr co;obtain⟨⟨tb,tc⟩,Aj,H⟩:=bsE H;(try dsimp only at H);have Ak:=Aside0.mk Aj;clear Aj
    by_cases cw:tb.size+t1.size<=9223372036854775807
    ·rw[if_pos cw]at H
     have cx:=eq_true cw;have cy:=decide_eq_true cw;(try have cz:(9223372036854775807<tb.size+t1.size)=False:=eq_false (Nat.not_lt.2 cw));simp only[Option.some.injEq,Prod.mk.injEq]at H;obtain⟨rfl,rfl⟩:=H
     go_enter Try.func10,Try.ntmps10
     go_wp2_with (first|((with_reducible refine gate_dst (N:=1) rfl ?_);refine bxV (N:=1) (cs:=#[.int .i64 a0_0,.int .i64 a0_1,.slice A0_2 l0_2.length c0_2,.slice A0_3 l0_3.length c0_3,.slice A0_4 l0_4.length c0_4]) (t:=26) (h:=?_);intro g0 hg wb hbox hb;have B0:=Aside0.mk (hbox);have G0:=Aside0.mk ((mJ:w.heap.size<=g0));have G1:=Aside0.mk ((mJ:w.heap.size<=g0));replace HB:=Aside0.mk (below_step mA hb);clear hb hbox hg;obtain⟨z0c,z0d,z0e,z0f,z0g⟩:=bc5 B0.out;have z0h:=blk_frozen B0.out)|((with_reducible refine gate_callee (f:=16) rfl ?_);refine cLV (some 9) Try.func16 #[.agg #[.int .i64 a0_0,.int .i64 a0_1,.slice A0_2 l0_2.length c0_2,.slice A0_3 l0_3.length c0_3,.slice A0_4 l0_4.length c0_4]] (h:=?_);(with_reducible refine(watchwordref9_PacketMay.calls k a0_0 a0_1 _ _ l0_2 _ _ l0_3 _ _ l0_4 true _ ?side1 ?side2 ?side3 ?side4 ?side5 ?side6 A2.out).mono ?_);(case side1=>repeat (first|exact(Kd.C_below R0.out HB.out)|(with_reducible refine Kd.C_alloc ?_ _)|(with_reducible refine Kd.C_drewN ?_ _)|(with_reducible refine Kd.C_drew ?_)));(case side2=>exact K0.out);(case side3=>repeat (first|exact(Kd.C_below R1.out HB.out)|(with_reducible refine Kd.C_alloc ?_ _)|(with_reducible refine Kd.C_drewN ?_ _)|(with_reducible refine Kd.C_drew ?_)));(case side4=>exact K1.out);(case side5=>repeat (first|exact(Kd.C_below R2.out HB.out)|(with_reducible refine Kd.C_alloc ?_ _)|(with_reducible refine Kd.C_drewN ?_ _)|(with_reducible refine Kd.C_drew ?_)));(case side6=>exact K2.out);rintro e wc ⟨rfl,hb⟩;refine⟨_,rfl,?_⟩;replace B0:=Aside0.mk (blk_below mB hb);replace HB:=Aside0.mk (below_step mC hb);(try clear hb);obtain⟨z0i,z0j,z0k,z0l,z0m⟩:=bc5 B0.out;have z0n:=blk_frozen B0.out)|((with_reducible refine gate_callee (f:=22) rfl ?_);refine cLV (some 14) Try.func22 #[.slice A0_2 l0_2.length c0_2] (h:=?_);(with_reducible refine(watchwordref9_PutHello.calls k _ _ l0_2 t1 t2 _ ?side1 ?side2 A4.out).mono ?_);(case side1=>repeat (first|exact(Kd.C_below R0.out HB.out)|(with_reducible refine Kd.C_alloc ?_ _)|(with_reducible refine Kd.C_drewN ?_ _)|(with_reducible refine Kd.C_drew ?_)));(case side2=>exact K0.out);rintro e wd ⟨rfl,hb⟩;refine⟨_,rfl,?_⟩;replace B0:=Aside0.mk (blk_below mB hb);replace HB:=Aside0.mk (below_step mC hb);(try clear hb);obtain⟨z0o,z0p,z0q,z0r,z0s⟩:=bc5 B0.out;have z0t:=blk_frozen B0.out)|((with_reducible refine gate_callee (f:=25) rfl ?_);refine cLV (some 43) Try.func25 #[.int .i64 a0_0,.int .i64 a0_1,.int .i64 (wrap64 (12+(t1.size:Int)))] (h:=?_);(with_reducible refine(watchwordref1_PutHead.calls k a0_0 a0_1 (wrap64 (12+(t1.size:Int))) tb tc _ Ak.out).mono ?_);rintro e we ⟨rfl,hb⟩;refine⟨_,rfl,?_⟩;replace B0:=Aside0.mk (blk_below mB hb);replace HB:=Aside0.mk (below_step mC hb);(try clear hb)))
     go_ret2
     exact⟨by first|rfl|(simp[errW_none,errW_some] <;> rfl)|(simp[*,errW_none,errW_some] <;> rfl),by repeat (first|(with_reducible first|exact HB.out|apply below_alloc|apply pw_below_drewN|apply below_drew1|refine below_set ?_ G1.out)|exact HB.out)⟩
    ·rw[if_neg cw]at H
     exact absurd H mAM
 ·replace c3:=Bool.eq_false_iff.mpr c3
  subst c3;rw[if_neg (show ¬(false=true)by decide)]at H;simp only[Option.some.injEq,Prod.mk.injEq]at H;obtain⟨rfl,rfl⟩:=H
  go_enter Try.func10,Try.ntmps10
  go_wp2_with (first|((with_reducible refine gate_dst (N:=1) rfl ?_);refine bxV (N:=1) (cs:=#[.int .i64 a0_0,.int .i64 a0_1,.slice A0_2 l0_2.length c0_2,.slice A0_3 l0_3.length c0_3,.slice A0_4 l0_4.length c0_4]) (t:=26) (h:=?_);intro g0 hg wf hbox hb;have B0:=Aside0.mk (hbox);have G0:=Aside0.mk ((mJ:w.heap.size<=g0));have G1:=Aside0.mk ((mJ:w.heap.size<=g0));replace HB:=Aside0.mk (below_step mA hb);clear hb hbox hg;obtain⟨z0u,z0v,z0w,z0x,z0y⟩:=bc5 B0.out;have z0z:=blk_frozen B0.out)|((with_reducible refine gate_callee (f:=16) rfl ?_);refine cLV (some 9) Try.func16 #[.agg #[.int .i64 a0_0,.int .i64 a0_1,.slice A0_2 l0_2.length c0_2,.slice A0_3 l0_3.length c0_3,.slice A0_4 l0_4.length c0_4]] (h:=?_);(with_reducible refine(watchwordref9_PacketMay.calls k a0_0 a0_1 _ _ l0_2 _ _ l0_3 _ _ l0_4 false _ ?side1 ?side2 ?side3 ?side4 ?side5 ?side6 A2.out).mono ?_);(case side1=>repeat (first|exact(Kd.C_below R0.out HB.out)|(with_reducible refine Kd.C_alloc ?_ _)|(with_reducible refine Kd.C_drewN ?_ _)|(with_reducible refine Kd.C_drew ?_)));(case side2=>exact K0.out);(case side3=>repeat (first|exact(Kd.C_below R1.out HB.out)|(with_reducible refine Kd.C_alloc ?_ _)|(with_reducible refine Kd.C_drewN ?_ _)|(with_reducible refine Kd.C_drew ?_)));(case side4=>exact K1.out);(case side5=>repeat (first|exact(Kd.C_below R2.out HB.out)|(with_reducible refine Kd.C_alloc ?_ _)|(with_reducible refine Kd.C_drewN ?_ _)|(with_reducible refine Kd.C_drew ?_)));(case side6=>exact K2.out);rintro e wg ⟨rfl,hb⟩;refine⟨_,rfl,?_⟩;replace B0:=Aside0.mk (blk_below mB hb);replace HB:=Aside0.mk (below_step mC hb);(try clear hb)))
  go_ret2
  exact⟨by first|rfl|(simp[errW_none,errW_some] <;> rfl)|(simp[*,errW_none,errW_some] <;> rfl),by repeat (first|(with_reducible first|exact HB.out|apply below_alloc|apply pw_below_drewN|apply below_drew1|refine below_set ?_ G1.out)|exact HB.out)⟩
def lsa_Number.l0:Nat->ByteArray->Int->Int->Int->Option (Int)
 |0,_,_,_,_=>none
 |k+1,x0,x3,x6,x7=>if x7<x6 then(if 0<=x7 then(if x7<(x0.size:Int)then(lsa_Number.l0 k x0 (Go.bits .or .i64 (wrap64 (x3*256)) (wrap64 (bt x0 x7))) x6 (wrap64 (x7+1)))else(none))else(none))else(some x3)
def lsa_Number.f (k:Nat) (a0:ByteArray):Option (Int):=lsa_Number.l0 k a0 0 (a0.size:Int) 0
theorem lsa_Number.mono_l:∀k,(∀y0 y1 y2 y3,LeO (lsa_Number.l0 k y0 y1 y2 y3) (lsa_Number.l0 (k+1) y0 y1 y2 y3))
 |0=>λ_ _ _ _ r h=>by simp[lsa_Number.l0]at h
 |k+1=>by
  have ih0:=lsa_Number.mono_l k
  ·intro y0 y1 y2 y3
   unfold lsa_Number.l0
   repeat' (with_reducible first|exact ih0 _ _ _ _|exact LeO.refl _|exact LeO.none _|refine LeO.ite ?_ ?_ |refine LeO.bind ?_ (λ_=>?_))
theorem lsa_Number.mono:∀a0 k,LeO (lsa_Number.f k a0) (lsa_Number.f (k+1) a0):=by
 intro a0 k;have ih0:=lsa_Number.mono_l k;unfold lsa_Number.f
 repeat' (with_reducible first|exact ih0 _ _ _ _|exact LeO.refl _|exact LeO.none _|refine LeO.ite ?_ ?_ |refine LeO.bind ?_ (λ_=>?_))
set_option maxHeartbeats 8000000 in
set_option maxRecDepth 100000 in
theorem lsa_Number.calls (k:Nat) (a0:ByteArray) (r:Int) (w:World) (h:lsa_Number.f k a0=some r):
  Calls Try.prog 58 #[.string a0] w λe w'=>e= .returned (.int .i64 r)/\Drawn0 w w':=by
 have H:(lsa_Number.l0 k a0 0 (a0.size:Int) 0)=some r:=h;clear h;have H':=Aside0.mk H;clear H
 go_enter Try.func58,Try.ntmps58
 go_wp2
 go_loopg [3,7] k (λkq v3 v7 w'=>∃(x1:Int) (x2:Int),v3= .int .i64 x1/\v7= .int .i64 x2/\Aside0 (lsa_Number.l0 kq a0 x1 (a0.size:Int) x2=some r)/\Aside0 (kq<=k)/\Drawn0 w w')
 case atStart=>exact⟨(0),(0),mK,mK,H',⟨Nat.le_refl _⟩,by repeat (first|exact Drawn0.refl _|apply Drawn0.step)⟩
 case round=>
  clear H';obtain⟨x1,x2,rfl,rfl,HA,HK1,⟨m1,rfl⟩⟩:=hrel;cases gk with
  |zero=>exact absurd HA.out (by simp[lsa_Number.l0])
  |succ k1=>
   have H:=HA.out;clear HA;simp only[lsa_Number.l0]at H
   by_cases c2:x2<(a0.size:Int)
   ·rw[if_pos c2]at H
    have c5:=decide_eq_true c2;clear c2
    by_cases c3:0<=x2
    ·rw[if_pos c3]at H
     have ca:=decide_eq_true c3;clear c3
     by_cases c4:x2<(a0.size:Int)
     ·rw[if_pos c4]at H
      have cf:=decide_eq_true c4;clear c4;have H':=Aside0.mk H;clear H;have p5:0<=(x2:Int):=of_decide_eq_true mE;have q5:x2<(a0.size:Int):=of_decide_eq_true mE;have hx5:=bt_at a0 x2;replace p5:=eq_true p5;replace q5:=eq_true q5;go_wp2
      go_roundg k1
      case measure=>have:=HK1.out;omega
      case rel=>exact⟨(Go.bits .or .i64 (wrap64 (x1*256)) (wrap64 (bt a0 x2))),(wrap64 (x2+1)),mK,mK,H',⟨by have:=HK1.out;omega⟩,by repeat (first|exact Drawn0.refl _|apply Drawn0.step)⟩
     ·rw[if_neg c4]at H
      exact absurd H mAM
    ·rw[if_neg c3]at H
     exact absurd H mAM
   ·rw[if_neg c2]at H
    have c5:=decide_eq_false c2;clear c2;obtain rfl:=Option.some.inj H;go_wp2;go_ret;exact⟨by first|rfl|(simp;done)|(simp[*];done),by repeat (first|exact Drawn0.refl _|apply Drawn0.step)⟩
def head_Get.f (k:Nat) (a0:ByteArray):Option (Int × Int × Int × Int):=if(a0.size:Int)<12 then(some (0,0,0,800))else(if 0<=12 then(if 12<=(a0.size:Int)then(if 1<((a0.extract 0 12).size :Int)then(if 4<=8 then(if 8<=((a0.extract 0 12).size :Int)then((lsa_Number.f k ((a0.extract 0 12).extract 4 8)).bind λt314=>(if 2<=4 then(if 4<=((a0.extract 0 12).size :Int)then((lsa_Number.f k ((a0.extract 0 12).extract 2 4)).bind λt315=>((head_Put.f k (wrap64 (bt (a0.extract 0 12) 1)) t314 t315).bind λbt316=>(if bt316.2=0 then(if bt316.1.toList=(a0.extract 0 12).toList then(some (wrap64 (bt (a0.extract 0 12) 1),t314,t315,0))else(some (0,0,0,800)))else(some (0,0,0,800)))))else(none))else(none)))else(none))else(none))else(none))else(none))else(none))
theorem head_Get.mono:∀a0 k,LeO (head_Get.f k a0) (head_Get.f (k+1) a0):=by
 intro a0 k;unfold head_Get.f
 repeat' (with_reducible first|exact head_Put.mono _ _ _ _|exact lsa_Number.mono _ _|exact LeO.refl _|exact LeO.none _|refine LeO.ite ?_ ?_ |refine LeO.bind ?_ (λ_=>?_))
set_option maxHeartbeats 8000000 in
set_option maxRecDepth 100000 in
theorem head_Get.calls (k:Nat) (a0:ByteArray) (r1:Int) (r2:Int) (r3:Int) (r4:Int) (w:World) (h:head_Get.f k a0=some (r1,r2,r3,r4)):
  Calls Try.prog 26 #[.string a0] w λe w'=>e= .returned (.tuple #[.int .i64 r1,.int .i64 r2,.int .i64 r3,.int .i64 r4])/\Below w.heap.size w w':=by
 have HB:=Aside0.mk (Below.refl w.heap.size w);have H:(if(a0.size:Int)<12 then(some (0,0,0,800))else(if 0<=12 then(if 12<=(a0.size:Int)then(if 1<((a0.extract 0 12).size :Int)then(if 4<=8 then(if 8<=((a0.extract 0 12).size :Int)then((lsa_Number.f k ((a0.extract 0 12).extract 4 8)).bind λt0=>(if 2<=4 then(if 4<=((a0.extract 0 12).size :Int)then((lsa_Number.f k ((a0.extract 0 12).extract 2 4)).bind λt1=>((head_Put.f k (wrap64 (bt (a0.extract 0 12) 1)) t0 t1).bind λbt316=>(if bt316.2=0 then(if bt316.1.toList=(a0.extract 0 12).toList then(some (wrap64 (bt (a0.extract 0 12) 1),t0,t1,0))else(some (0,0,0,800)))else(some (0,0,0,800)))))else(none))else(none)))else(none))else(none))else(none))else(none))else(none)))=some (r1,r2,r3,r4):=h;clear h
 by_cases c2:(a0.size:Int)<12
 ·rw[if_pos c2]at H
  have c6:=decide_eq_true c2;have ca:decide (a0.size<12)=true:=decide_eq_true mBQ;clear c2;simp only[Option.some.injEq,Prod.mk.injEq]at H;obtain⟨rfl,rfl,rfl,rfl⟩:=H
  go_enter Try.func26,Try.ntmps26
  go_wp2
  repeat (go_quiet (fail);try go_wp2)
  refine bodyPost_ret (results_list (rs:=[.tmp 2,.tmp 3,.tmp 4,.tmp 5]) rfl mAM (.tmp (.tmp (.tmp (.tmp .nil))))) rfl ?_;exact⟨by first|rfl|(simp[errW_none,errW_some] <;> rfl)|(simp[*,errW_none,errW_some] <;> rfl),by repeat (first|(with_reducible first|exact HB.out|apply below_alloc|apply pw_below_drewN|apply below_drew1)|exact HB.out)⟩
 ·rw[if_neg c2]at H
  have c6:=decide_eq_false c2;have ca:decide (a0.size<12)=false:=decide_eq_false mBQ;clear c2
  by_cases c3:0<=12
  ·rw[if_pos c3]at H
   have ch:=eq_true c3;have cj:=decide_eq_true c3;clear c3
   by_cases c4:12<=(a0.size:Int)
   ·rw[if_pos c4]at H
    have c4p:12<=a0.size:=by omega
    have co:=eq_true c4;have cq:=decide_eq_true c4;clear c4
    by_cases c5:1<((a0.extract 0 12).size :Int)
    ·rw[if_pos c5]at H
     have cv:=decide_eq_true c5;(try (have c5f0:=cv;simp only[ByteArray.size_extract,Nat.min_self]at c5f0));have cx:decide (1<(a0.extract 0 12).size)=true:=decide_eq_true mBQ;(try (have c5f1:=cx;simp only[ByteArray.size_extract,Nat.min_self]at c5f1));clear c5
     by_cases c7:4<=8
     ·rw[if_pos c7]at H
      have c01:=eq_true c7;have c03:=decide_eq_true c7;clear c7
      by_cases c8:8<=((a0.extract 0 12).size :Int)
      ·rw[if_pos c8]at H
       (try (have c8p:=c8;simp only[ByteArray.size_extract]at c8p))
       (try (have c8o:=c8;simp only[ByteArray.size_extract,Nat.min_self]at c8o))
       have c0a:=eq_true c8;have c0c:=decide_eq_true c8;(try (have c8f1:=c0c;simp only[ByteArray.size_extract,Nat.min_self]at c8f1));clear c8;obtain⟨t0,A0,H⟩:=bsE H;(try dsimp only at H);have A9:=Aside0.mk A0;clear A0
       by_cases c10:2<=4
       ·rw[if_pos c10]at H
        have c0h:=eq_true c10;have c0j:=decide_eq_true c10;clear c10
        by_cases c11:4<=((a0.extract 0 12).size :Int)
        ·rw[if_pos c11]at H
         (try (have c11p:=c11;simp only[ByteArray.size_extract]at c11p))
         (try (have c11o:=c11;simp only[ByteArray.size_extract,Nat.min_self]at c11o))
         have c0q:=eq_true c11;have c0s:=decide_eq_true c11;(try (have c11f1:=c0s;simp only[ByteArray.size_extract,Nat.min_self]at c11f1));clear c11;obtain⟨t1,A2,H⟩:=bsE H;(try dsimp only at H);have A3:=Aside0.mk A2;clear A2;obtain⟨⟨t2,t3⟩,A4,H⟩:=bsE H;(try dsimp only at H);have A5:=Aside0.mk A4;clear A4
         by_cases c14:t3=0
         ·rw[if_pos c14]at H
          have c0x:=beq_iff_eq.mpr c14;have c0z:=bne_eq_false_iff_eq.mpr c14;clear c14
          by_cases c15:t2.toList=(a0.extract 0 12).toList
          ·rw[if_pos c15]at H
           have c17:=beq_iff_eq.mpr c15;have c19:=bne_eq_false_iff_eq.mpr c15;clear c15;simp only[Option.some.injEq,Prod.mk.injEq]at H;obtain⟨rfl,rfl,rfl,rfl⟩:=H;have p6:0<=(1:Int):=mBQ;have q6:1<(a0.extract 0 12).size :=mCL;have hx6:∀h:1<(a0.extract 0 12).size,(((a0.extract 0 12)[1]'h).toNat :Int)=bt (a0.extract 0 12) 1:=bt_at (a0.extract 0 12) 1;clear p6;have qi6:(1<((a0.extract 0 12).size :Int))=True:=eq_true (of_decide_eq_true mE);replace q6:=eq_true q6;(try (have qo6:=of_eq_true q6;simp only[ByteArray.size_extract,Nat.min_self]at qo6));(try (have qj6:=of_eq_true qi6;simp only[ByteArray.size_extract,Nat.min_self]at qj6))
           go_enter Try.func26,Try.ntmps26
           go_wp2_with (first|(go_at_call 58;(with_reducible refine(lsa_Number.calls k ((a0.extract 0 12).extract 4 8) t0 _ A9.out).mono ?_);rintro e w' ⟨rfl,⟨nd,rfl⟩⟩;(try first|exact⟨rfl,_,World.drewN_drewN _ _ _⟩|exact⟨rfl,_,Eq.trans (World.drewN_drewN _ _ _) (congrArg (World.drewN _) (Nat.add_assoc _ _ _))⟩))|(go_at_call 58;(with_reducible refine(lsa_Number.calls k ((a0.extract 0 12).extract 2 4) t1 _ A3.out).mono ?_);rintro e w' ⟨rfl,⟨nd,rfl⟩⟩;(try first|exact⟨rfl,_,World.drewN_drewN _ _ _⟩|exact⟨rfl,_,Eq.trans (World.drewN_drewN _ _ _) (congrArg (World.drewN _) (Nat.add_assoc _ _ _))⟩))|(go_at_call 21;(with_reducible refine(head_Put.calls k (wrap64 (bt (a0.extract 0 12) 1)) t0 t1 t2 t3 _ A5.out).mono ?_);rintro e w0 ⟨rfl,hb⟩;replace HB:=Aside0.mk (below_step mA hb);(try clear hb);(try clear hb2);(try clear hk);(try clear hi)))
           repeat (go_quiet (first|(go_at_call 58;(with_reducible refine(lsa_Number.calls k ((a0.extract 0 12).extract 4 8) t0 _ A9.out).mono ?_);rintro e w' ⟨rfl,⟨nd,rfl⟩⟩;(try first|exact⟨rfl,_,World.drewN_drewN _ _ _⟩|exact⟨rfl,_,Eq.trans (World.drewN_drewN _ _ _) (congrArg (World.drewN _) (Nat.add_assoc _ _ _))⟩))|(go_at_call 58;(with_reducible refine(lsa_Number.calls k ((a0.extract 0 12).extract 2 4) t1 _ A3.out).mono ?_);rintro e w' ⟨rfl,⟨nd,rfl⟩⟩;(try first|exact⟨rfl,_,World.drewN_drewN _ _ _⟩|exact⟨rfl,_,Eq.trans (World.drewN_drewN _ _ _) (congrArg (World.drewN _) (Nat.add_assoc _ _ _))⟩))|(go_at_call 21;(with_reducible refine(head_Put.calls k (wrap64 (bt (a0.extract 0 12) 1)) t0 t1 t2 t3 _ A5.out).mono ?_);rintro e w0 ⟨rfl,hb⟩;have n0_:=Aside0.mk (below_step mA hb);clear HB;have HB:=n0_;clear n0_;(try clear hb);(try clear hb2);(try clear hk);(try clear hi)));try go_wp2_with (first|(go_at_call 58;(with_reducible refine(lsa_Number.calls k ((a0.extract 0 12).extract 4 8) t0 _ A9.out).mono ?_);rintro e w' ⟨rfl,⟨nd,rfl⟩⟩;(try first|exact⟨rfl,_,World.drewN_drewN _ _ _⟩|exact⟨rfl,_,Eq.trans (World.drewN_drewN _ _ _) (congrArg (World.drewN _) (Nat.add_assoc _ _ _))⟩))|(go_at_call 58;(with_reducible refine(lsa_Number.calls k ((a0.extract 0 12).extract 2 4) t1 _ A3.out).mono ?_);rintro e w' ⟨rfl,⟨nd,rfl⟩⟩;(try first|exact⟨rfl,_,World.drewN_drewN _ _ _⟩|exact⟨rfl,_,Eq.trans (World.drewN_drewN _ _ _) (congrArg (World.drewN _) (Nat.add_assoc _ _ _))⟩))|(go_at_call 21;(with_reducible refine(head_Put.calls k (wrap64 (bt (a0.extract 0 12) 1)) t0 t1 t2 t3 _ A5.out).mono ?_);rintro e w0 ⟨rfl,hb⟩;have n0_:=Aside0.mk (below_step mA hb);clear HB;have HB:=n0_;clear n0_;(try clear hb);(try clear hb2);(try clear hk);(try clear hi))))
           refine bodyPost_ret (results_list (rs:=[.tmp 2,.tmp 3,.tmp 4,.tmp 5]) rfl mAM (.tmp (.tmp (.tmp (.tmp .nil))))) rfl ?_;exact⟨by first|rfl|(simp[errW_none,errW_some] <;> rfl)|(simp[*,errW_none,errW_some] <;> rfl),by repeat (first|(with_reducible first|exact HB.out|apply below_alloc|apply pw_below_drewN|apply below_drew1)|exact HB.out)⟩
          ·rw[if_neg c15]at H
           have c17:=beq_eq_false_iff_ne.mpr c15;have c19:=bne_iff_ne.mpr c15;simp only[Option.some.injEq,Prod.mk.injEq]at H;obtain⟨rfl,rfl,rfl,rfl⟩:=H;have p6:0<=(1:Int):=mBQ;have q6:1<(a0.extract 0 12).size :=mCL;have hx6:∀h:1<(a0.extract 0 12).size,(((a0.extract 0 12)[1]'h).toNat :Int)=bt (a0.extract 0 12) 1:=bt_at (a0.extract 0 12) 1;clear p6;have qi6:(1<((a0.extract 0 12).size :Int))=True:=eq_true (of_decide_eq_true mE);replace q6:=eq_true q6;(try (have qo6:=of_eq_true q6;simp only[ByteArray.size_extract,Nat.min_self]at qo6));(try (have qj6:=of_eq_true qi6;simp only[ByteArray.size_extract,Nat.min_self]at qj6))
           go_enter Try.func26,Try.ntmps26
           go_wp2_with (first|(go_at_call 58;(with_reducible refine(lsa_Number.calls k ((a0.extract 0 12).extract 4 8) t0 _ A9.out).mono ?_);rintro e w' ⟨rfl,⟨nd,rfl⟩⟩;(try first|exact⟨rfl,_,World.drewN_drewN _ _ _⟩|exact⟨rfl,_,Eq.trans (World.drewN_drewN _ _ _) (congrArg (World.drewN _) (Nat.add_assoc _ _ _))⟩))|(go_at_call 58;(with_reducible refine(lsa_Number.calls k ((a0.extract 0 12).extract 2 4) t1 _ A3.out).mono ?_);rintro e w' ⟨rfl,⟨nd,rfl⟩⟩;(try first|exact⟨rfl,_,World.drewN_drewN _ _ _⟩|exact⟨rfl,_,Eq.trans (World.drewN_drewN _ _ _) (congrArg (World.drewN _) (Nat.add_assoc _ _ _))⟩))|(go_at_call 21;(with_reducible refine(head_Put.calls k (wrap64 (bt (a0.extract 0 12) 1)) t0 t1 t2 t3 _ A5.out).mono ?_);rintro e w1 ⟨rfl,hb⟩;replace HB:=Aside0.mk (below_step mA hb);(try clear hb);(try clear hb2);(try clear hk);(try clear hi)))
           repeat (go_quiet (first|(go_at_call 58;(with_reducible refine(lsa_Number.calls k ((a0.extract 0 12).extract 4 8) t0 _ A9.out).mono ?_);rintro e w' ⟨rfl,⟨nd,rfl⟩⟩;(try first|exact⟨rfl,_,World.drewN_drewN _ _ _⟩|exact⟨rfl,_,Eq.trans (World.drewN_drewN _ _ _) (congrArg (World.drewN _) (Nat.add_assoc _ _ _))⟩))|(go_at_call 58;(with_reducible refine(lsa_Number.calls k ((a0.extract 0 12).extract 2 4) t1 _ A3.out).mono ?_);rintro e w' ⟨rfl,⟨nd,rfl⟩⟩;(try first|exact⟨rfl,_,World.drewN_drewN _ _ _⟩|exact⟨rfl,_,Eq.trans (World.drewN_drewN _ _ _) (congrArg (World.drewN _) (Nat.add_assoc _ _ _))⟩))|(go_at_call 21;(with_reducible refine(head_Put.calls k (wrap64 (bt (a0.extract 0 12) 1)) t0 t1 t2 t3 _ A5.out).mono ?_);rintro e w1 ⟨rfl,hb⟩;have n0_:=Aside0.mk (below_step mA hb);clear HB;have HB:=n0_;clear n0_;(try clear hb);(try clear hb2);(try clear hk);(try clear hi)));try go_wp2_with (first|(go_at_call 58;(with_reducible refine(lsa_Number.calls k ((a0.extract 0 12).extract 4 8) t0 _ A9.out).mono ?_);rintro e w' ⟨rfl,⟨nd,rfl⟩⟩;(try first|exact⟨rfl,_,World.drewN_drewN _ _ _⟩|exact⟨rfl,_,Eq.trans (World.drewN_drewN _ _ _) (congrArg (World.drewN _) (Nat.add_assoc _ _ _))⟩))|(go_at_call 58;(with_reducible refine(lsa_Number.calls k ((a0.extract 0 12).extract 2 4) t1 _ A3.out).mono ?_);rintro e w' ⟨rfl,⟨nd,rfl⟩⟩;(try first|exact⟨rfl,_,World.drewN_drewN _ _ _⟩|exact⟨rfl,_,Eq.trans (World.drewN_drewN _ _ _) (congrArg (World.drewN _) (Nat.add_assoc _ _ _))⟩))|(go_at_call 21;(with_reducible refine(head_Put.calls k (wrap64 (bt (a0.extract 0 12) 1)) t0 t1 t2 t3 _ A5.out).mono ?_);rintro e w1 ⟨rfl,hb⟩;have n0_:=Aside0.mk (below_step mA hb);clear HB;have HB:=n0_;clear n0_;(try clear hb);(try clear hb2);(try clear hk);(try clear hi))))
           refine bodyPost_ret (results_list (rs:=[.tmp 2,.tmp 3,.tmp 4,.tmp 5]) rfl mAM (.tmp (.tmp (.tmp (.tmp .nil))))) rfl ?_;exact⟨by first|rfl|(simp[errW_none,errW_some] <;> rfl)|(simp[*,errW_none,errW_some] <;> rfl),by repeat (first|(with_reducible first|exact HB.out|apply below_alloc|apply pw_below_drewN|apply below_drew1)|exact HB.out)⟩
         ·rw[if_neg c14]at H
          have c0x:=beq_eq_false_iff_ne.mpr c14;have c0z:=bne_iff_ne.mpr c14;simp only[Option.some.injEq,Prod.mk.injEq]at H;obtain⟨rfl,rfl,rfl,rfl⟩:=H;have p6:0<=(1:Int):=mBQ;have q6:1<(a0.extract 0 12).size :=mCL;have hx6:∀h:1<(a0.extract 0 12).size,(((a0.extract 0 12)[1]'h).toNat :Int)=bt (a0.extract 0 12) 1:=bt_at (a0.extract 0 12) 1;clear p6;have qi6:(1<((a0.extract 0 12).size :Int))=True:=eq_true (of_decide_eq_true mE);replace q6:=eq_true q6;(try (have qo6:=of_eq_true q6;simp only[ByteArray.size_extract,Nat.min_self]at qo6));(try (have qj6:=of_eq_true qi6;simp only[ByteArray.size_extract,Nat.min_self]at qj6))
          go_enter Try.func26,Try.ntmps26
          go_wp2_with (first|(go_at_call 58;(with_reducible refine(lsa_Number.calls k ((a0.extract 0 12).extract 4 8) t0 _ A9.out).mono ?_);rintro e w' ⟨rfl,⟨nd,rfl⟩⟩;(try first|exact⟨rfl,_,World.drewN_drewN _ _ _⟩|exact⟨rfl,_,Eq.trans (World.drewN_drewN _ _ _) (congrArg (World.drewN _) (Nat.add_assoc _ _ _))⟩))|(go_at_call 58;(with_reducible refine(lsa_Number.calls k ((a0.extract 0 12).extract 2 4) t1 _ A3.out).mono ?_);rintro e w' ⟨rfl,⟨nd,rfl⟩⟩;(try first|exact⟨rfl,_,World.drewN_drewN _ _ _⟩|exact⟨rfl,_,Eq.trans (World.drewN_drewN _ _ _) (congrArg (World.drewN _) (Nat.add_assoc _ _ _))⟩))|(go_at_call 21;(with_reducible refine(head_Put.calls k (wrap64 (bt (a0.extract 0 12) 1)) t0 t1 t2 t3 _ A5.out).mono ?_);rintro e w2 ⟨rfl,hb⟩;replace HB:=Aside0.mk (below_step mA hb);(try clear hb);(try clear hb2);(try clear hk);(try clear hi)))
          repeat (go_quiet (first|(go_at_call 58;(with_reducible refine(lsa_Number.calls k ((a0.extract 0 12).extract 4 8) t0 _ A9.out).mono ?_);rintro e w' ⟨rfl,⟨nd,rfl⟩⟩;(try first|exact⟨rfl,_,World.drewN_drewN _ _ _⟩|exact⟨rfl,_,Eq.trans (World.drewN_drewN _ _ _) (congrArg (World.drewN _) (Nat.add_assoc _ _ _))⟩))|(go_at_call 58;(with_reducible refine(lsa_Number.calls k ((a0.extract 0 12).extract 2 4) t1 _ A3.out).mono ?_);rintro e w' ⟨rfl,⟨nd,rfl⟩⟩;(try first|exact⟨rfl,_,World.drewN_drewN _ _ _⟩|exact⟨rfl,_,Eq.trans (World.drewN_drewN _ _ _) (congrArg (World.drewN _) (Nat.add_assoc _ _ _))⟩))|(go_at_call 21;(with_reducible refine(head_Put.calls k (wrap64 (bt (a0.extract 0 12) 1)) t0 t1 t2 t3 _ A5.out).mono ?_);rintro e w2 ⟨rfl,hb⟩;have n0_:=Aside0.mk (below_step mA hb);clear HB;have HB:=n0_;clear n0_;(try clear hb);(try clear hb2);(try clear hk);(try clear hi)));try go_wp2_with (first|(go_at_call 58;(with_reducible refine(lsa_Number.calls k ((a0.extract 0 12).extract 4 8) t0 _ A9.out).mono ?_);rintro e w' ⟨rfl,⟨nd,rfl⟩⟩;(try first|exact⟨rfl,_,World.drewN_drewN _ _ _⟩|exact⟨rfl,_,Eq.trans (World.drewN_drewN _ _ _) (congrArg (World.drewN _) (Nat.add_assoc _ _ _))⟩))|(go_at_call 58;(with_reducible refine(lsa_Number.calls k ((a0.extract 0 12).extract 2 4) t1 _ A3.out).mono ?_);rintro e w' ⟨rfl,⟨nd,rfl⟩⟩;(try first|exact⟨rfl,_,World.drewN_drewN _ _ _⟩|exact⟨rfl,_,Eq.trans (World.drewN_drewN _ _ _) (congrArg (World.drewN _) (Nat.add_assoc _ _ _))⟩))|(go_at_call 21;(with_reducible refine(head_Put.calls k (wrap64 (bt (a0.extract 0 12) 1)) t0 t1 t2 t3 _ A5.out).mono ?_);rintro e w2 ⟨rfl,hb⟩;have n0_:=Aside0.mk (below_step mA hb);clear HB;have HB:=n0_;clear n0_;(try clear hb);(try clear hb2);(try clear hk);(try clear hi))))
          refine bodyPost_ret (results_list (rs:=[.tmp 2,.tmp 3,.tmp 4,.tmp 5]) rfl mAM (.tmp (.tmp (.tmp (.tmp .nil))))) rfl ?_;exact⟨by first|rfl|(simp[errW_none,errW_some] <;> rfl)|(simp[*,errW_none,errW_some] <;> rfl),by repeat (first|(with_reducible first|exact HB.out|apply below_alloc|apply pw_below_drewN|apply below_drew1)|exact HB.out)⟩
        ·rw[if_neg c11]at H
         exact absurd H mAM
       ·rw[if_neg c10]at H
        exact absurd H mAM
      ·rw[if_neg c8]at H
       exact absurd H mAM
     ·rw[if_neg c7]at H
      exact absurd H mAM
    ·rw[if_neg c5]at H
     exact absurd H mAM
   ·rw[if_neg c4]at H
    exact absurd H mAM
  ·rw[if_neg c3]at H
   exact absurd H mAM
def hello_Get.l0:Nat->ByteArray->List Int->Int->Int->Option (List Int × Int)
 |0,_,_,_,_=>none
 |k+1,x0,x4,x9,x10=>if x10<x9 then(if x10>0 then(if 0<=x10 then(if x10<(x0.size:Int)then(if x4.length<17592186044416 then(hello_Get.l0 k x0 (x4++[wrap64 (bt x0 x10)]) x9 (wrap64 (x10+1)))else(none))else(none))else(none))else(hello_Get.l0 k x0 x4 x9 (wrap64 (x10+1))))else((hello_Put.f k x4).bind λbt321=>(if bt321.2=0 then(if bt321.1.toList=x0.toList then(some (x4,0))else(some (([]:List Int),900)))else(some (([]:List Int),900))))
def hello_Get.f (k:Nat) (a0:ByteArray):Option (List Int × Int):=hello_Get.l0 k a0 ([]:List Int) (a0.size:Int) 0
theorem hello_Get.mono_l:∀k,(∀y0 y1 y2 y3,LeO (hello_Get.l0 k y0 y1 y2 y3) (hello_Get.l0 (k+1) y0 y1 y2 y3))
 |0=>λ_ _ _ _ r h=>by simp[hello_Get.l0]at h
 |k+1=>by
  have ih0:=hello_Get.mono_l k
  ·intro y0 y1 y2 y3
   unfold hello_Get.l0
   repeat' (with_reducible first|exact ih0 _ _ _ _|exact hello_Put.mono _ _|exact LeO.refl _|exact LeO.none _|refine LeO.ite ?_ ?_ |refine LeO.bind ?_ (λ_=>?_))
theorem hello_Get.mono:∀a0 k,LeO (hello_Get.f k a0) (hello_Get.f (k+1) a0):=by
 intro a0 k;have ih0:=hello_Get.mono_l k;unfold hello_Get.f
 repeat' (with_reducible first|exact ih0 _ _ _ _|exact hello_Put.mono _ _|exact LeO.refl _|exact LeO.none _|refine LeO.ite ?_ ?_ |refine LeO.bind ?_ (λ_=>?_))
set_option maxHeartbeats 8000000 in
set_option maxRecDepth 100000 in
theorem hello_Get.calls (k:Nat) (a0:ByteArray) (r1:List Int) (r2:Int) (w:World) (h:hello_Get.f k a0=some (r1,r2)):
  Calls Try.prog 27 #[.string a0] w λe w'=>∃v0_:Value,e= .returned (.tuple #[v0_,.int .i64 r2])/\Kd.R (Kd.int .i64) 3 w' w.heap.size (λ_=>True) v0_ r1/\Below w.heap.size w w':=by
 have HB:=Aside0.mk (Below.refl w.heap.size w);have H:(hello_Get.l0 k a0 ([]:List Int) (a0.size:Int) 0)=some (r1,r2):=h;clear h;have H':=Aside0.mk H;clear H
 go_enter Try.func27,Try.ntmps27
 go_wp2
 go_loopg [4,10] k (λkq v4 v10 w'=>∃(x1:List Int) (x2:Int),v10= .int .i64 x2/\Aside0 (hello_Get.l0 kq a0 x1 (a0.size:Int) x2=some (r1,r2))/\Aside0 (kq<=k)/\Aside0 (Kd.R (Kd.int .i64) 3 w' w.heap.size (λ_=>True) v4 x1)/\Aside0 (Below w.heap.size w w'))
 case atStart=>exact⟨(([]:List Int)),(0),mK,H',⟨Nat.le_refl _⟩,⟨by first|exact Kd.R_nil _ _ _ _ _|exact Kd.N_nil _ _ _ _ _|exact Kd.V_nil _ _ _ _ _|exact Kd.Q_nil _ _ _ _ _|exact Kd.S_nil _ _ _ _ _⟩,⟨by repeat (first|(with_reducible first|exact HB.out|apply below_alloc|apply pw_below_drewN|apply below_drew1)|exact HB.out)⟩⟩
 case round=>
  clear H';obtain⟨x1,x2,rfl,HA,HK1,O0,HB⟩:=hrel;cases gk with
  |zero=>exact absurd HA.out (by simp[hello_Get.l0])
  |succ k1=>
   have H:=HA.out;clear HA;simp only[hello_Get.l0]at H
   by_cases c2:x2<(a0.size:Int)
   ·rw[if_pos c2]at H
    have c6:=decide_eq_true c2;clear c2
    by_cases c3:x2>0
    ·rw[if_pos c3]at H
     have cc:decide (0<x2)=true:=decide_eq_true c3;clear c3
     by_cases c4:0<=x2
     ·rw[if_pos c4]at H
      have ch:=decide_eq_true c4;clear c4
      by_cases c5:x2<(a0.size:Int)
      ·rw[if_pos c5]at H
       have cm:=decide_eq_true c5;clear c5
       by_cases c7:x1.length<17592186044416
       ·rw[if_pos c7]at H
        have L0:=Aside0.mk c7;clear c7;obtain⟨y4,Y0⟩:∃y_:List Int,y_=(x1++[wrap64 (bt a0 x2)]):=⟨_,rfl⟩
        replace H:(hello_Get.l0 k1 a0 y4 (a0.size:Int) (wrap64 (x2+1)))=some (r1,r2):=by first|(rw[Y0];with_reducible exact H)|(have H2_:=(Option.bind_some _ _).symm.trans H;rw[Y0];with_reducible exact H2_)|(have H2_:=(Option.bind_some _ _).symm.trans H;with_reducible exact H2_)|with_reducible exact H|(rw[Y0];exact H)|exact H
        have Y1:=Aside0.mk Y0;clear Y0;have H':=Aside0.mk H;clear H;have p6:0<=(x2:Int):=of_decide_eq_true mE;have q6:x2<(a0.size:Int):=of_decide_eq_true mE;have hx6:=bt_at a0 x2;replace p6:=eq_true p6;replace q6:=eq_true q6
        go_wp2_with (first|((with_reducible refine gate_builtin (b:= .append) (xs:=#[.tmp 15,.tmp 20]) rfl ?_);at_builtin;refine Kd.R_append (Kd.int .i64) (w0:=w) w.heap.size rfl (.tmp 15) (.tmp 20) 22 3 (.int .i64 0) 8 rfl Try.underlying22 info3 rfl mAQ mBQ u4 x1 (wrap64 (bt a0 x2)) [.int .i64 (wrap64 (bt a0 x2))] (λ_=>True) (λ_=>False) rfl rfl ?aP (λ_ hk=>hk.elim) ?aF ?aO ?aB ?aS ?aL ?_;(case aP=>exact rfl);(case aB=>exact mA);(case aF=>exact(λ_ _=>trivial));(case aO=>exact mN);(case aS=>exact(below_size mA));(case aL=>have:=L0.out;omega);intro v319 w8 ho hb hg hat;rw[<-Y1.out]at ho;replace HB:=Aside0.mk (hb);have O1:=Aside0.mk (ho);clear O0;clear ho hb hg hat))
        go_roundg k1
        case measure=>have:=HK1.out;omega
        case rel=>exact⟨(y4),(wrap64 (x2+1)),mK,H',⟨by have:=HK1.out;omega⟩,⟨by(with_reducible repeat (first|apply Kd.R_alloc|apply Kd.R_drewN|apply Kd.R_drew));exact O1.out⟩,⟨by repeat (first|(with_reducible first|exact HB.out|apply below_alloc|apply pw_below_drewN|apply below_drew1)|exact HB.out)⟩⟩
       ·rw[if_neg c7]at H
        exact absurd H mAM
      ·rw[if_neg c5]at H
       exact absurd H mAM
     ·rw[if_neg c4]at H
      exact absurd H mAM
    ·rw[if_neg c3]at H
     have cc:decide (0<x2)=false:=decide_eq_false c3;clear c3;have H':=Aside0.mk H;clear H;go_wp2
     go_roundg k1
     case measure=>have:=HK1.out;omega
     case rel=>exact⟨(x1),(wrap64 (x2+1)),mK,H',⟨by have:=HK1.out;omega⟩,⟨by(with_reducible repeat (first|apply Kd.R_alloc|apply Kd.R_drewN|apply Kd.R_drew));exact O0.out⟩,⟨by repeat (first|(with_reducible first|exact HB.out|apply below_alloc|apply pw_below_drewN|apply below_drew1)|exact HB.out)⟩⟩
   ·rw[if_neg c2]at H
    have c6:=decide_eq_false c2;clear c2;obtain⟨⟨t0,t1⟩,A0,H⟩:=bsE H;(try dsimp only at H);have A9:=Aside0.mk A0;clear A0
    by_cases c10:t1=0
    ·rw[if_pos c10]at H
     have c04:=beq_iff_eq.mpr c10;have c06:=bne_eq_false_iff_eq.mpr c10;clear c10
     by_cases c11:t0.toList=a0.toList
     ·rw[if_pos c11]at H
      have c0b:=beq_iff_eq.mpr c11;have c0d:=bne_eq_false_iff_eq.mpr c11;clear c11;simp only[Option.some.injEq,Prod.mk.injEq]at H;obtain⟨rfl,rfl⟩:=H;obtain⟨s0,s1,s2⟩:=Kd.R_slice O0.out;subst s2
      go_wp2_with (first|((with_reducible refine gate_callee (f:=46) rfl ?_);refine cLV (some 25) Try.func46 #[.slice s0 x1.length s1] (h:=?_);(with_reducible refine(hello_Put.calls k1 _ _ x1 t0 t1 _ ?side1 ?side2 A9.out).mono ?_);(case side1=>repeat (first|exact(Kd.R_reads' O0.out).2.2 |(with_reducible refine Kd.C_alloc ?_ _)|(with_reducible refine Kd.C_drewN ?_ _)|(with_reducible refine Kd.C_drew ?_)));(case side2=>exact(Kd.R_reads' O0.out).2.1);rintro e w2 ⟨rfl,hb⟩;refine⟨_,rfl,?_⟩;replace O0:=Aside0.mk (Kd.R_below mN hb);replace HB:=Aside0.mk (below_step mA hb);(try clear hb)))
      go_ret2
      exact⟨_,by first|rfl|(simp[errW_none,errW_some] <;> rfl)|(simp[*,errW_none,errW_some] <;> rfl),by(with_reducible repeat (first|apply Kd.R_alloc|apply Kd.R_drewN|apply Kd.R_drew));exact O0.out,by repeat (first|(with_reducible first|exact HB.out|apply below_alloc|apply pw_below_drewN|apply below_drew1)|exact HB.out)⟩
     ·rw[if_neg c11]at H
      have c0b:=beq_eq_false_iff_ne.mpr c11;have c0d:=bne_iff_ne.mpr c11;simp only[Option.some.injEq,Prod.mk.injEq]at H;obtain⟨rfl,rfl⟩:=H;obtain⟨s3,s4,s5⟩:=Kd.R_slice O0.out;subst s5
      go_wp2_with (first|((with_reducible refine gate_callee (f:=46) rfl ?_);refine cLV (some 25) Try.func46 #[.slice s3 x1.length s4] (h:=?_);(with_reducible refine(hello_Put.calls k1 _ _ x1 t0 t1 _ ?side1 ?side2 A9.out).mono ?_);(case side1=>repeat (first|exact(Kd.R_reads' O0.out).2.2 |(with_reducible refine Kd.C_alloc ?_ _)|(with_reducible refine Kd.C_drewN ?_ _)|(with_reducible refine Kd.C_drew ?_)));(case side2=>exact(Kd.R_reads' O0.out).2.1);rintro e w3 ⟨rfl,hb⟩;refine⟨_,rfl,?_⟩;replace O0:=Aside0.mk (Kd.R_below mN hb);replace HB:=Aside0.mk (below_step mA hb);(try clear hb)))
      go_ret2
      exact⟨_,by first|rfl|(simp[errW_none,errW_some] <;> rfl)|(simp[*,errW_none,errW_some] <;> rfl),by first|exact Kd.R_nil _ _ _ _ _|exact Kd.N_nil _ _ _ _ _|exact Kd.V_nil _ _ _ _ _|exact Kd.Q_nil _ _ _ _ _|exact Kd.S_nil _ _ _ _ _,by repeat (first|(with_reducible first|exact HB.out|apply below_alloc|apply pw_below_drewN|apply below_drew1)|exact HB.out)⟩
    ·rw[if_neg c10]at H
     have c04:=beq_eq_false_iff_ne.mpr c10;have c06:=bne_iff_ne.mpr c10;simp only[Option.some.injEq,Prod.mk.injEq]at H;obtain⟨rfl,rfl⟩:=H;obtain⟨s6,s7,s8⟩:=Kd.R_slice O0.out;subst s8
     go_wp2_with (first|((with_reducible refine gate_callee (f:=46) rfl ?_);refine cLV (some 25) Try.func46 #[.slice s6 x1.length s7] (h:=?_);(with_reducible refine(hello_Put.calls k1 _ _ x1 t0 t1 _ ?side1 ?side2 A9.out).mono ?_);(case side1=>repeat (first|exact(Kd.R_reads' O0.out).2.2 |(with_reducible refine Kd.C_alloc ?_ _)|(with_reducible refine Kd.C_drewN ?_ _)|(with_reducible refine Kd.C_drew ?_)));(case side2=>exact(Kd.R_reads' O0.out).2.1);rintro e w4 ⟨rfl,hb⟩;refine⟨_,rfl,?_⟩;replace O0:=Aside0.mk (Kd.R_below mN hb);replace HB:=Aside0.mk (below_step mA hb);(try clear hb)))
     go_ret2
     exact⟨_,by first|rfl|(simp[errW_none,errW_some] <;> rfl)|(simp[*,errW_none,errW_some] <;> rfl),by first|exact Kd.R_nil _ _ _ _ _|exact Kd.N_nil _ _ _ _ _|exact Kd.V_nil _ _ _ _ _|exact Kd.Q_nil _ _ _ _ _|exact Kd.S_nil _ _ _ _ _,by repeat (first|(with_reducible first|exact HB.out|apply below_alloc|apply pw_below_drewN|apply below_drew1)|exact HB.out)⟩
mutual
def lsa_Get.j0:Nat->ByteArray->Int->Bool->Option (Int × Int × Int × (List (S109)) × Int × Int)
 |0,_,_,_=>none
 |k+1,x0,x1,x29=>if x29=true then(some (0,0,0,([]:List (S109)),0,700))else(if 0<=x1 then(if x1<=(x0.size:Int)then(if 0<((x0.extract (x1:Int).toNat x0.size).size :Int)then(if 1<((x0.extract (x1:Int).toNat x0.size).size :Int)then(if 2<=6 then(if 6<=((x0.extract (x1:Int).toNat x0.size).size :Int)then((lsa_Number.f k ((x0.extract (x1:Int).toNat x0.size).extract 2 6)).bind λt324=>(if 6<((x0.extract (x1:Int).toNat x0.size).size :Int)then(if(wrap64 ((wrap64 (7+(wrap64 (3*(wrap64 (bt (x0.extract (x1:Int).toNat x0.size) 6))))))+2))>((x0.extract (x1:Int).toNat x0.size).size :Int)then(some (0,0,0,([]:List (S109)),0,700))else(lsa_Get.l0 k x1 (x0.extract (x1:Int).toNat x0.size) (wrap64 ((wrap64 (7+(wrap64 (3*(wrap64 (bt (x0.extract (x1:Int).toNat x0.size) 6))))))+2)) (wrap64 (bt (x0.extract (x1:Int).toNat x0.size) 6)) 0 (wrap64 (bt (x0.extract (x1:Int).toNat x0.size) 1)) t324 (wrap64 (bt (x0.extract (x1:Int).toNat x0.size) 0)) ([]:List (S109))))else(none)))else(none))else(none))else(none))else(none))else(none))else(none))
def lsa_Get.l0:Nat->Int->ByteArray->Int->Int->Int->Int->Int->Int->List (S109)->Option (Int × Int × Int × (List (S109)) × Int × Int)
 |0,_,_,_,_,_,_,_,_,_=>none
 |k+1,x1,x7,x10,x56,x57,x326000,x326001,x326002,x326003=>if x57<x56 then(if 0<=(wrap64 (7+(wrap64 (3*x57))))then(if(wrap64 (7+(wrap64 (3*x57))))<=(x7.size:Int)then(if 0<((x7.extract ((wrap64 (7+(wrap64 (3*x57)))):Int).toNat x7.size).size :Int)then(if 1<=3 then(if 3<=((x7.extract ((wrap64 (7+(wrap64 (3*x57)))):Int).toNat x7.size).size :Int)then((lsa_Number.f k ((x7.extract ((wrap64 (7+(wrap64 (3*x57)))):Int).toNat x7.size).extract 1 3)).bind λt326=>(if x326003.length<8796093022208 then(lsa_Get.l0 k x1 x7 x10 x56 (wrap64 (x57+1)) x326000 x326001 x326002 (x326003++[(⟨wrap64 (bt (x7.extract ((wrap64 (7+(wrap64 (3*x57)))):Int).toNat x7.size) 0),t326⟩:S109)]))else(none)))else(none))else(none))else(none))else(none))else(none))else((lsa_Put.f k x326000 x326001 x326002 x326003).bind λbt330=>(if bt330.2=0 then(if 0<=x10 then(if x10<=(x7.size:Int)then(if bt330.1.toList=(x7.extract 0 (x10:Int).toNat).toList then(some (x326000,x326001,x326002,x326003,wrap64 (x1+x10),0))else(some (0,0,0,([]:List (S109)),0,700)))else(none))else(none))else(some (0,0,0,([]:List (S109)),0,700))))
end
def lsa_Get.f (k:Nat) (a0:ByteArray) (a1:Int):Option (Int × Int × Int × (List (S109)) × Int × Int):=if a1<0 then(lsa_Get.j0 k a0 a1 true)else(if a1>(a0.size:Int)then(lsa_Get.j0 k a0 a1 true)else(lsa_Get.j0 k a0 a1 (decide ((wrap64 ((a0.size:Int)-a1))<7))))
theorem lsa_Get.mono_l:∀k,(∀y0 y1 y2,LeO (lsa_Get.j0 k y0 y1 y2) (lsa_Get.j0 (k+1) y0 y1 y2))/\(∀y0 y1 y2 y3 y4 y5 y6 y7 y8,LeO (lsa_Get.l0 k y0 y1 y2 y3 y4 y5 y6 y7 y8) (lsa_Get.l0 (k+1) y0 y1 y2 y3 y4 y5 y6 y7 y8))
 |0=>⟨λ_ _ _ r h=>by simp[lsa_Get.j0]at h,λ_ _ _ _ _ _ _ _ _ r h=>by simp[lsa_Get.l0]at h⟩
 |k+1=>by
  obtain⟨ih0,ih1⟩:=lsa_Get.mono_l k;refine⟨?_,?_⟩
  ·intro y0 y1 y2
   unfold lsa_Get.j0
   repeat' (with_reducible first|exact ih0 _ _ _|exact ih1 _ _ _ _ _ _ _ _ _|exact lsa_Number.mono _ _|exact lsa_Put.mono _ _ _ _ _|exact LeO.refl _|exact LeO.none _|refine LeO.ite ?_ ?_ |refine LeO.bind ?_ (λ_=>?_))
  ·intro y0 y1 y2 y3 y4 y5 y6 y7 y8
   unfold lsa_Get.l0
   repeat' (with_reducible first|exact ih0 _ _ _|exact ih1 _ _ _ _ _ _ _ _ _|exact lsa_Number.mono _ _|exact lsa_Put.mono _ _ _ _ _|exact LeO.refl _|exact LeO.none _|refine LeO.ite ?_ ?_ |refine LeO.bind ?_ (λ_=>?_))
theorem lsa_Get.mono:∀a0 a1 k,LeO (lsa_Get.f k a0 a1) (lsa_Get.f (k+1) a0 a1):=by
 intro a0 a1 k;obtain⟨ih0,ih1⟩:=lsa_Get.mono_l k;unfold lsa_Get.f
 repeat' (with_reducible first|exact ih0 _ _ _|exact ih1 _ _ _ _ _ _ _ _ _|exact lsa_Number.mono _ _|exact lsa_Put.mono _ _ _ _ _|exact LeO.refl _|exact LeO.none _|refine LeO.ite ?_ ?_ |refine LeO.bind ?_ (λ_=>?_))
def lsa_Get.T4:Bool × List (List Nat × List Nat):=(true,[([],[]),([0],[0]),([1],[1]),([],[]),([3],[3]),([4],[4]),([],[]),([6],[6]),([7],[7]),([2,5,8],[2,5,8]),([],[]),([10,9,8,0,1,2,3,4,5,6,7,8,9,10],[9,10])])
def lsa_Get.B4:List Nat:=[0,1,3,0,8,24,0,64,192,511,0,2047]
theorem lsa_Get.tab4:rtab .any (opsOf Try.f59 4)=lsa_Get.T4:=by kernel_rfl
theorem lsa_Get.bits4:waitsOk lsa_Get.T4.2 lsa_Get.B4=true:=by kernel_rfl
def lsa_Get.T13:Bool × List (List Nat × List Nat):=(true,[([],[]),([0],[0]),([],[]),([2],[2]),([3],[3]),([],[]),([5],[5]),([6],[6]),([4,7],[4,7]),([8],[8]),([1,9,7],[1,9]),([0,1,2,3,4,5,6,7,8,9,10],[]),([11,10,10,0,1,2,3,4,5,6,7,8,9,10],[10,11])])
def lsa_Get.B13:List Nat:=[0,1,0,4,12,0,32,96,252,508,1023,2047,4095]
theorem lsa_Get.tab13:rtab .any (opsOf Try.f59 13)=lsa_Get.T13:=by kernel_rfl
theorem lsa_Get.bits13:waitsOk lsa_Get.T13.2 lsa_Get.B13=true:=by kernel_rfl
set_option maxHeartbeats 8000000 in
set_option maxRecDepth 100000 in
theorem lsa_Get.calls (k:Nat) (a0:ByteArray) (a1:Int) (r1:Int) (r2:Int) (r3:Int) (r4:List (S109)) (r5:Int) (r6:Int) (w:World) (h:lsa_Get.f k a0 a1=some (r1,r2,r3,r4,r5,r6)):
  Calls Try.prog 59 #[.string a0,.int .i64 a1] w λe w'=>∃v3_:Value,e= .returned (.tuple #[.agg #[.int .i64 r1,.int .i64 r2,.int .i64 r3,v3_],.int .i64 r5,.int .i64 r6])/\Kd.R k109 109 w' w.heap.size (λ_=>True) v3_ r4/\Below w.heap.size w w':=by
 have hu45:=Try.underlying45;have hu109:=Try.underlying109;have HB:=Aside0.mk (Below.refl w.heap.size w);have H:(if a1<0 then(lsa_Get.j0 k a0 a1 true)else(if a1>(a0.size:Int)then(lsa_Get.j0 k a0 a1 true)else(lsa_Get.j0 k a0 a1 (decide ((wrap64 ((a0.size:Int)-a1))<7)))))=some (r1,r2,r3,r4,r5,r6):=h;clear h;have K0:=Aside0.mk H;clear H
 go_enter Try.func59,Try.ntmps59
 go_upto_region 1 with(first|((with_reducible refine gate_dst (N:=4) rfl ?_);(try (refine gate_guard mBV ?_;dsimp only));refine bxV (N:=4) (cs:=#[.int .i64 0,.int .i64 0,.int .i64 0,.slice none 0 0]) (t:=45) (h:=?_);intro g0 hg w4 hbox hb;have B0:=Aside0.mk (hbox);have G0:=Aside0.mk ((mJ:w.heap.size<=g0));have G1:=Aside0.mk ((mJ:w.heap.size<=g0));replace HB:=Aside0.mk (below_step mA hb);clear hb hbox hg))
 (try simp only[Act.put,List.setIfInBounds_toArray,List.set_cons_zero,List.set_cons_succ])
 go_cut [29] (λv29 wc=>∃(kq:Nat) (x2:Bool),v29= .bool x2/\Aside0 (lsa_Get.j0 kq a0 a1 x2=some (r1,r2,r3,r4,r5,r6))/\Aside0 (kq<=k)/\Aside0 (wc.heap[g0]? =some (.cells #[.int .i64 0,.int .i64 0,.int .i64 0,(.slice none 0 0)] 45 (0,0)))/\Aside0 (Below w.heap.size w wc))
 case first=>
  have H:=K0.out;clear K0
  by_cases c5:a1<0
  ·rw[if_pos c5]at H
   have c4:=decide_eq_true c5;clear c5
   (first|rw[c4]|(simp only[i64_w,i32_w];rw[c4])|skip)
   have H':=Aside0.mk H;clear H;go_wp2;go_meet
   case rel=>exact⟨_,(true),mK,H',⟨by first|omega|exact Nat.le_refl _⟩,⟨by(with_reducible repeat (first|refine blk_drewN ?_ _|refine blk_drew ?_ |refine blk_alloc ?_ _));exact B0.out⟩,⟨by repeat (first|(with_reducible first|exact HB.out|apply below_alloc|apply pw_below_drewN|apply below_drew1|refine below_set ?_ G1.out)|exact HB.out)⟩⟩
  ·rw[if_neg c5]at H
   have c4:=decide_eq_false c5;clear c5
   (first|rw[c4]|(simp only[i64_w,i32_w];rw[c4])|skip)
   by_cases c6:a1>(a0.size:Int)
   ·rw[if_pos c6]at H
    have ce:decide ((a0.size:Int)<a1)=true:=decide_eq_true c6;clear c6;have H':=Aside0.mk H;clear H;go_wp2;go_meet
    case rel=>exact⟨_,(true),mK,H',⟨by first|omega|exact Nat.le_refl _⟩,⟨by(with_reducible repeat (first|refine blk_drewN ?_ _|refine blk_drew ?_ |refine blk_alloc ?_ _));exact B0.out⟩,⟨by repeat (first|(with_reducible first|exact HB.out|apply below_alloc|apply pw_below_drewN|apply below_drew1|refine below_set ?_ G1.out)|exact HB.out)⟩⟩
   ·rw[if_neg c6]at H
    have ce:decide ((a0.size:Int)<a1)=false:=decide_eq_false c6;clear c6;have H':=Aside0.mk H;clear H;go_wp2;go_meet
    case rel=>exact⟨_,(decide ((wrap64 ((a0.size:Int)-a1))<7)),mK,H',⟨by first|omega|exact Nat.le_refl _⟩,⟨by(with_reducible repeat (first|refine blk_drewN ?_ _|refine blk_drew ?_ |refine blk_alloc ?_ _));exact B0.out⟩,⟨by repeat (first|(with_reducible first|exact HB.out|apply below_alloc|apply pw_below_drewN|apply below_drew1|refine below_set ?_ G1.out)|exact HB.out)⟩⟩
 case rest=>
  clear K0;(try clear p2);(try clear c5);(try clear c4);(try clear c6);(try clear ce);(try clear p6);obtain⟨kq,x2,rfl,HA,HJ2,B0,HB⟩:=hcut;cases kq with
  |zero=>exact absurd HA.out (by simp[lsa_Get.j0])
  |succ j1=>
   have H:=HA.out;clear HA;simp only[lsa_Get.j0]at H
   by_cases c7:x2=true
   ·subst c7
    rw[if_pos rfl]at H;simp only[Option.some.injEq,Prod.mk.injEq]at H;obtain⟨rfl,rfl,rfl,rfl,rfl,rfl⟩:=H;obtain⟨z0,z1,z2,z3⟩:=bc4 B0.out;have z4:=blk_frozen B0.out
    go_wp2_with (first|((with_reducible refine gate_store (t:=45) (p:=4) rfl ?_);refine stV (t:=45) (p:=4) (w1:=((((wc.setCell ⟨g0,0,none⟩ (.int .i64 0)).setCell ⟨g0,1,none⟩ (.int .i64 0)).setCell ⟨g0,2,none⟩ (.int .i64 0)).setCell ⟨g0,3,none⟩ (.slice none 0 0))) (h:=?_);intro w9 hw;replace B0:Aside0 (w9.heap[g0]? =some (.cells #[.int .i64 0,.int .i64 0,.int .i64 0,.slice none 0 0] 45 (0,0))):=⟨mM⟩;replace HB:Aside0 (Below w.heap.size w w9):=⟨mBI⟩;clear hw))
    refine bodyPost_ret (results_ctt rfl _ _ g0 45 #[.int .i64 0,.int .i64 0,.int .i64 0,.slice none 0 0] (0,0) _ rfl mB Try.underlying45 rfl mAD) rfl ?_;exact⟨_,by first|rfl|(simp[errW_none,errW_some] <;> rfl)|(simp[*,errW_none,errW_some] <;> rfl),by first|exact Kd.R_nil _ _ _ _ _|exact Kd.N_nil _ _ _ _ _|exact Kd.V_nil _ _ _ _ _|exact Kd.Q_nil _ _ _ _ _|exact Kd.S_nil _ _ _ _ _,by repeat (first|(with_reducible first|exact HB.out|apply below_alloc|apply pw_below_drewN|apply below_drew1|refine below_set ?_ G1.out)|exact HB.out)⟩
   ·replace c7:=Bool.eq_false_iff.mpr c7
    subst c7;rw[if_neg (show ¬(false=true)by decide)]at H
    by_cases cr:0<=a1
    ·rw[if_pos cr]at H
     have ct:=eq_true cr;have cu:=decide_eq_true cr;clear cr
     by_cases cv:a1<=(a0.size:Int)
     ·rw[if_pos cv]at H
      have cw:=eq_true cv;have cx:=decide_eq_true cv;clear cv
      by_cases cy:0<((a0.extract (a1:Int).toNat a0.size).size :Int)
      ·rw[if_pos cy]at H
       have cz:=decide_eq_true cy;(try (have c12f0:=cz;simp only[ByteArray.size_extract,Nat.min_self]at c12f0));have c00:decide (0<(a0.extract (a1:Int).toNat a0.size).size)=true:=decide_eq_true mBQ;(try (have c12f1:=c00;simp only[ByteArray.size_extract,Nat.min_self]at c12f1));clear cy
       by_cases c14:1<((a0.extract (a1:Int).toNat a0.size).size :Int)
       ·rw[if_pos c14]at H
        have c03:=decide_eq_true c14;(try (have c14f0:=c03;simp only[ByteArray.size_extract,Nat.min_self]at c14f0));have c05:decide (1<(a0.extract (a1:Int).toNat a0.size).size)=true:=decide_eq_true mBQ;(try (have c14f1:=c05;simp only[ByteArray.size_extract,Nat.min_self]at c14f1));clear c14
        by_cases c16:2<=6
        ·rw[if_pos c16]at H
         have c09:=eq_true c16;have c0b:=decide_eq_true c16;clear c16
         by_cases c17:6<=((a0.extract (a1:Int).toNat a0.size).size :Int)
         ·rw[if_pos c17]at H
          (try (have c17p:=c17;simp only[ByteArray.size_extract]at c17p))
          (try (have c17o:=c17;simp only[ByteArray.size_extract,Nat.min_self]at c17o))
          have c0i:=eq_true c17;have c0k:=decide_eq_true c17;(try (have c17f1:=c0k;simp only[ByteArray.size_extract,Nat.min_self]at c17f1));clear c17;obtain⟨t0,A0,H⟩:=bsE H;(try dsimp only at H);have A1:=Aside0.mk A0;clear A0
          by_cases c19:6<((a0.extract (a1:Int).toNat a0.size).size :Int)
          ·rw[if_pos c19]at H
           have c0p:=decide_eq_true c19;(try (have c19f0:=c0p;simp only[ByteArray.size_extract,Nat.min_self]at c19f0));have c0r:decide (6<(a0.extract (a1:Int).toNat a0.size).size)=true:=decide_eq_true mBQ;(try (have c19f1:=c0r;simp only[ByteArray.size_extract,Nat.min_self]at c19f1));clear c19
           by_cases c21:(wrap64 ((wrap64 (7+(wrap64 (3*(wrap64 (bt (a0.extract (a1:Int).toNat a0.size) 6))))))+2))>((a0.extract (a1:Int).toNat a0.size).size :Int)
           ·rw[if_pos c21]at H
            have c0v:decide (((a0.extract (a1:Int).toNat a0.size).size :Int)<(wrap64 ((wrap64 (7+(wrap64 (3*(wrap64 (bt (a0.extract (a1:Int).toNat a0.size) 6))))))+2)))=true:=decide_eq_true c21;(try (have c21f0:=c0v;simp only[ByteArray.size_extract,Nat.min_self]at c21f0));clear c21;simp only[Option.some.injEq,Prod.mk.injEq]at H;obtain⟨rfl,rfl,rfl,rfl,rfl,rfl⟩:=H;(try go_wp2);replace B0:=Aside0.mk (blk_drew B0.out);replace HB:=Aside0.mk (below_drew1 HB.out);have p0:0<=(0:Int):=mBQ;have q0:0<(a0.extract (a1:Int).toNat a0.size).size :=mCW;have hx13:∀h:0<(a0.extract (a1:Int).toNat a0.size).size,(((a0.extract (a1:Int).toNat a0.size)[0]'h).toNat :Int)=bt (a0.extract (a1:Int).toNat a0.size) 0:=bt_at (a0.extract (a1:Int).toNat a0.size) 0;clear p0;have qi13:(0<((a0.extract (a1:Int).toNat a0.size).size :Int))=True:=eq_true (of_decide_eq_true mE);replace q0:=eq_true q0;(try (have qo13:=of_eq_true q0;simp only[ByteArray.size_extract,Nat.min_self]at qo13));(try (have qj13:=of_eq_true qi13;simp only[ByteArray.size_extract,Nat.min_self]at qj13));have p3:0<=(1:Int):=mBQ;have q3:1<(a0.extract (a1:Int).toNat a0.size).size :=mCV;have hx15:∀h:1<(a0.extract (a1:Int).toNat a0.size).size,(((a0.extract (a1:Int).toNat a0.size)[1]'h).toNat :Int)=bt (a0.extract (a1:Int).toNat a0.size) 1:=bt_at (a0.extract (a1:Int).toNat a0.size) 1;clear p3;have qi15:(1<((a0.extract (a1:Int).toNat a0.size).size :Int))=True:=eq_true (of_decide_eq_true mE);replace q3:=eq_true q3;(try (have qo15:=of_eq_true q3;simp only[ByteArray.size_extract,Nat.min_self]at qo15));(try (have qj15:=of_eq_true qi15;simp only[ByteArray.size_extract,Nat.min_self]at qj15));refine start_ (n:=12) (S:=λw'=>True) (ds:=[]) mk_12_0 mAD rfl rfl trivial (λhHeld=>?_);refine with_tabW lsa_Get.tab4 lsa_Get.bits4 (λHT_ HW_=>?_);generalize wc.drew=w8 at B0 HB hHeld |-;refine pV 0 34 mk_12_1 ?_;refine pV 3 37 #[true,false,false,true,false,false,false,false,false,false,false,false] ?_;refine pV 6 40 #[true,false,false,true,false,false,true,false,false,false,false,false] ?_;refine pV 7 41 #[true,false,false,true,false,false,true,true,false,false,false,false] ?_;refine take_ (i:=1) (N:=some 35) (v:=?_) (a':=?_) #[true,true,false,true,false,false,true,true,false,false,false,false] rfl rfl (take_ofW HT_.out HW_.out mAD) (λ_ _ _ h=>h) (Or.inl ⟨by rfl,?_⟩) hHeld ?_ ?_;rotate_left;(·intro w' _;go_simp;with_reducible rfl);rotate_left;(·simp only[Act.put,List.setIfInBounds_toArray,List.set_cons_zero,List.set_cons_succ,i64_w,i32_w];rfl);refine pV 2 36 #[true,true,true,true,false,false,true,true,false,false,false,false] ?_;refine take_ (i:=4) (N:=some 38) (v:=?_) (a':=?_) #[true,true,true,true,true,false,true,true,false,false,false,false] rfl rfl (take_ofW HT_.out HW_.out mAD) (λ_ _ _ h=>h) (Or.inl ⟨by rfl,?_⟩) hHeld ?_ ?_;rotate_left;(·intro w' _;go_simp;with_reducible rfl);rotate_left;(·simp only[Act.put,List.setIfInBounds_toArray,List.set_cons_zero,List.set_cons_succ,i64_w,i32_w];rfl);refine pV 5 39 mk_12_8 ?_;refine join_ (σ:=Nat) 1 mk_12_11 (λs_=>[(42,.int .i64 t0),(8,.pointer (some ⟨s_,0,none⟩)),(43,.agg #[.int .i64 (wrap64 (bt (a0.extract (a1:Int).toNat a0.size) 1)),.int .i64 t0,.int .i64 (wrap64 (bt (a0.extract (a1:Int).toNat a0.size) 0)),.slice none 0 0])]) (λs_ w'=>(w'.heap[g0]? =some (.cells #[.int .i64 0,.int .i64 0,.int .i64 0,.slice none 0 0] 45 (0,0)))/\(w'.heap[s_]? =some (.cells #[.int .i64 0,.int .i64 0,.int .i64 0,.slice none 0 0] 45 (0,0)))/\(w.heap.size<=s_)/\(w.heap.size<=s_)/\(g0≠s_)/\(s_≠g0)/\(Below w.heap.size w w')) ?_ ?_
            rotate_left
            ·intro hCont
             refine two_ (i:=8) (j:=10) (Ni:=some 42) (Nj:=some 8) mk_12_9 #[true,true,true,true,true,true,true,true,false,false,true,false] rfl rfl rfl rfl (two_of HT_.out mAD) mAQ mAQ (λK hK=>?_) (λK hK=>?_)
             ·skip
              refine gV Try.func58 #[.string ((a0.extract (a1:Int).toNat a0.size).extract 2 6)] (h:=?_)
              with_reducible refine(lsa_Number.calls j1 ((a0.extract (a1:Int).toNat a0.size).extract 2 6) t0 _ A1.out).mono ?_
              rintro e w' ⟨rfl,⟨nd,rfl⟩⟩;refine⟨_,rfl,?_⟩;refine hK.out _ _ trivial (λhHeld=>?_);clear hK K;refine nV 42 (h:=?_);refine pV 9 43 mk_12_10 ?_;refine oV 10 (some 8) mk_12_11 (h:=λK hK=>?_);refine box_step ?hg (N:=8) ?hd (cs:=#[.int .i64 0,.int .i64 0,.int .i64 0,.slice none 0 0]) (t:=45) ?hr ?_;(case hd=>rfl);(case hg=>rfl);(case hr=>first|(go_simp;done)|(go_simp;rfl));intro g1 hg wa hbox hb;have B1:=Aside0.mk (hbox);have G2:=Aside0.mk ((mT:w.heap.size<=g1));have G3:=Aside0.mk ((mT:w.heap.size<=g1));replace HB:=Aside0.mk (below_step mC hb);have N0:=Aside0.mk ((mAW:g0≠g1));have N1:=Aside0.mk ((mAX:g1≠g0));replace B0:=Aside0.mk (blk_below mB hb);clear hb hbox hg;refine hK.out _ _ trivial (λhHeld=>?_);clear hK K;refine nV 8 (h:=?_);exact norm_ mAS (hCont (g1) _ ⟨mB,mL,G2.out,G3.out,N0.out,N1.out,mD⟩)
             ·skip
              refine box_step ?hg (N:=8) ?hd (cs:=#[.int .i64 0,.int .i64 0,.int .i64 0,.slice none 0 0]) (t:=45) ?hr ?_;(case hd=>rfl);(case hg=>rfl);(case hr=>first|(go_simp;done)|(go_simp;rfl));intro g1 hg wa hbox hb;have B1:=Aside0.mk (hbox);have G2:=Aside0.mk ((mT:w.heap.size<=g1));have G3:=Aside0.mk ((mT:w.heap.size<=g1));replace HB:=Aside0.mk (below_step mC hb);have N0:=Aside0.mk ((mAW:g0≠g1));have N1:=Aside0.mk ((mAX:g1≠g0));replace B0:=Aside0.mk (blk_below mB hb);clear hb hbox hg;refine hK.out _ _ trivial (λhHeld=>?_);clear hK K;refine nV 8 (h:=?_);refine oV 8 (some 42) #[true,true,true,true,true,true,true,true,true,false,true,false] (h:=λK hK=>?_);refine gV Try.func58 #[.string ((a0.extract (a1:Int).toNat a0.size).extract 2 6)] (h:=?_)
              with_reducible refine(lsa_Number.calls j1 ((a0.extract (a1:Int).toNat a0.size).extract 2 6) t0 _ A1.out).mono ?_
              rintro e w' ⟨rfl,⟨nd,rfl⟩⟩;refine⟨_,rfl,?_⟩;refine hK.out _ _ trivial (λhHeld=>?_);clear hK K;refine nV 42 (h:=?_);refine pV 9 43 mk_12_11 ?_;exact norm_ mAS (hCont (g1) _ ⟨mB,mL,G2.out,G3.out,N0.out,N1.out,mD⟩)
            rintro g1 wb ⟨h0_,h1_,h2_,h3_,h4_,h5_,h6_⟩;replace B0:Aside0 (wb.heap[g0]? =some (.cells #[.int .i64 0,.int .i64 0,.int .i64 0,.slice none 0 0] 45 (0,0))):=⟨h0_⟩;have B1:Aside0 (wb.heap[g1]? =some (.cells #[.int .i64 0,.int .i64 0,.int .i64 0,.slice none 0 0] 45 (0,0))):=⟨h1_⟩;have G2:Aside0 (w.heap.size<=g1):=⟨h2_⟩;have G3:Aside0 (w.heap.size<=g1):=⟨h3_⟩;have N0:Aside0 (g0≠g1):=⟨h4_⟩;have N1:Aside0 (g1≠g0):=⟨h5_⟩;replace HB:Aside0 (Below w.heap.size w wb):=⟨h6_⟩;clear h0_ h1_ h2_ h3_ h4_ h5_ h6_;have hHeld:=trivial;refine norm_ (a':=?_) ?_ ?_;rotate_left;(·simp only[putAll,Act.put,List.setIfInBounds_toArray,List.set_cons_zero,List.set_cons_succ];rfl);refine one_ (i:=11) (N:=none) mk_12_12 rfl rfl (one_of HT_.out mAD) mAQ (λK hK=>?_);have hs25:wb.cell? ⟨g1,0,none⟩=some (.int .i64 0):=(blk_cell B1.out 0).trans rfl;have hfs25:=blk_frozen B1.out 0;have hns25_0:=N0.out;have hms25_0:=N1.out;have hs26:wb.cell? ⟨g1,1,none⟩=some (.int .i64 0):=(blk_cell B1.out 1).trans rfl;have hfs26:=blk_frozen B1.out 1;have hns26_0:=N0.out;have hms26_0:=N1.out;have hs27:wb.cell? ⟨g1,2,none⟩=some (.int .i64 0):=(blk_cell B1.out 2).trans rfl;have hfs27:=blk_frozen B1.out 2;have hns27_0:=N0.out;have hms27_0:=N1.out;have hs28:wb.cell? ⟨g1,3,none⟩=some (.slice none 0 0):=(blk_cell B1.out 3).trans rfl;have hfs28:=blk_frozen B1.out 3;have hns28_0:=N0.out;have hms28_0:=N1.out;refine skip_ (w1:=?_) mBV rfl ?_ ?_;rotate_left
            ·go_simp
             rfl
            refine hK.out _ _ trivial (λhHeld=>?_);clear hK K;refine done_ (done_of HT_.out mAD) ?_;have p4:0<=(6:Int):=mBQ;have q4:6<(a0.extract (a1:Int).toNat a0.size).size :=mCU;have hx20:∀h:6<(a0.extract (a1:Int).toNat a0.size).size,(((a0.extract (a1:Int).toNat a0.size)[6]'h).toNat :Int)=bt (a0.extract (a1:Int).toNat a0.size) 6:=bt_at (a0.extract (a1:Int).toNat a0.size) 6;clear p4;have qi20:(6<((a0.extract (a1:Int).toNat a0.size).size :Int))=True:=eq_true (of_decide_eq_true mE);replace q4:=eq_true q4;(try (have qo20:=of_eq_true q4;simp only[ByteArray.size_extract,Nat.min_self]at qo20));(try (have qj20:=of_eq_true qi20;simp only[ByteArray.size_extract,Nat.min_self]at qj20));have n0:=N0.out;have n1:=N1.out;obtain⟨z5,z6,z7,z8⟩:=bc4 B0.out;have z9:=blk_frozen B0.out;(try go_wp2_with (first|((with_reducible refine gate_store (t:=45) (p:=4) rfl ?_);refine stV (t:=45) (p:=4) (w1:=((((((((wb.setCell ⟨g1,0,none⟩ (.int .i64 (wrap64 (bt (a0.extract (a1:Int).toNat a0.size) 1)))).setCell ⟨g1,1,none⟩ (.int .i64 t0)).setCell ⟨g1,2,none⟩ (.int .i64 (wrap64 (bt (a0.extract (a1:Int).toNat a0.size) 0)))).setCell ⟨g1,3,none⟩ (.slice none 0 0)).setCell ⟨g0,0,none⟩ (.int .i64 0)).setCell ⟨g0,1,none⟩ (.int .i64 0)).setCell ⟨g0,2,none⟩ (.int .i64 0)).setCell ⟨g0,3,none⟩ (.slice none 0 0))) (h:=?_);intro wf hw;replace B0:Aside0 (wf.heap[g0]? =some (.cells #[.int .i64 0,.int .i64 0,.int .i64 0,.slice none 0 0] 45 (0,0))):=⟨(by rw[hw];exact(by(with_reducible repeat (first|refine blk_drewN ?_ _|refine blk_drew ?_ |refine blk_alloc ?_ _));refine blk_put (cs:=#[.int .i64 0,.int .i64 0,.int .i64 0,.slice none 0 0]) ?_ 3 _ rfl;(with_reducible repeat (first|refine blk_drewN ?_ _|refine blk_drew ?_ |refine blk_alloc ?_ _));refine blk_put (cs:=#[.int .i64 0,.int .i64 0,.int .i64 0,.slice none 0 0]) ?_ 2 _ rfl;(with_reducible repeat (first|refine blk_drewN ?_ _|refine blk_drew ?_ |refine blk_alloc ?_ _));refine blk_put (cs:=#[.int .i64 0,.int .i64 0,.int .i64 0,.slice none 0 0]) ?_ 1 _ rfl;(with_reducible repeat (first|refine blk_drewN ?_ _|refine blk_drew ?_ |refine blk_alloc ?_ _));refine blk_put (cs:=#[.int .i64 0,.int .i64 0,.int .i64 0,.slice none 0 0]) ?_ 0 _ rfl;(with_reducible repeat (first|refine blk_drewN ?_ _|refine blk_drew ?_ |refine blk_alloc ?_ _));refine blk_far ?_ N0.out _;(with_reducible repeat (first|refine blk_drewN ?_ _|refine blk_drew ?_ |refine blk_alloc ?_ _));refine blk_far ?_ N0.out _;(with_reducible repeat (first|refine blk_drewN ?_ _|refine blk_drew ?_ |refine blk_alloc ?_ _));refine blk_far ?_ N0.out _;(with_reducible repeat (first|refine blk_drewN ?_ _|refine blk_drew ?_ |refine blk_alloc ?_ _));refine blk_far ?_ N0.out _;(with_reducible repeat (first|refine blk_drewN ?_ _|refine blk_drew ?_ |refine blk_alloc ?_ _));exact B0.out))⟩;replace B1:Aside0 (wf.heap[g1]? =some (.cells #[.int .i64 (wrap64 (bt (a0.extract (a1:Int).toNat a0.size) 1)),.int .i64 t0,.int .i64 (wrap64 (bt (a0.extract (a1:Int).toNat a0.size) 0)),.slice none 0 0] 45 (0,0))):=⟨(by rw[hw];exact(by(with_reducible repeat (first|refine blk_drewN ?_ _|refine blk_drew ?_ |refine blk_alloc ?_ _));refine blk_far ?_ N1.out _;(with_reducible repeat (first|refine blk_drewN ?_ _|refine blk_drew ?_ |refine blk_alloc ?_ _));refine blk_far ?_ N1.out _;(with_reducible repeat (first|refine blk_drewN ?_ _|refine blk_drew ?_ |refine blk_alloc ?_ _));refine blk_far ?_ N1.out _;(with_reducible repeat (first|refine blk_drewN ?_ _|refine blk_drew ?_ |refine blk_alloc ?_ _));refine blk_far ?_ N1.out _;(with_reducible repeat (first|refine blk_drewN ?_ _|refine blk_drew ?_ |refine blk_alloc ?_ _));refine blk_put (cs:=#[.int .i64 (wrap64 (bt (a0.extract (a1:Int).toNat a0.size) 1)),.int .i64 t0,.int .i64 (wrap64 (bt (a0.extract (a1:Int).toNat a0.size) 0)),.slice none 0 0]) ?_ 3 _ rfl;(with_reducible repeat (first|refine blk_drewN ?_ _|refine blk_drew ?_ |refine blk_alloc ?_ _));refine blk_put (cs:=#[.int .i64 (wrap64 (bt (a0.extract (a1:Int).toNat a0.size) 1)),.int .i64 t0,.int .i64 0,.slice none 0 0]) ?_ 2 _ rfl;(with_reducible repeat (first|refine blk_drewN ?_ _|refine blk_drew ?_ |refine blk_alloc ?_ _));refine blk_put (cs:=#[.int .i64 (wrap64 (bt (a0.extract (a1:Int).toNat a0.size) 1)),.int .i64 0,.int .i64 0,.slice none 0 0]) ?_ 1 _ rfl;(with_reducible repeat (first|refine blk_drewN ?_ _|refine blk_drew ?_ |refine blk_alloc ?_ _));refine blk_put (cs:=#[.int .i64 0,.int .i64 0,.int .i64 0,.slice none 0 0]) ?_ 0 _ rfl;(with_reducible repeat (first|refine blk_drewN ?_ _|refine blk_drew ?_ |refine blk_alloc ?_ _));exact B1.out))⟩;replace HB:Aside0 (Below w.heap.size w wf):=⟨mAR⟩;clear hw)))
            refine bodyPost_ret (results_ctt rfl _ _ g0 45 #[.int .i64 0,.int .i64 0,.int .i64 0,.slice none 0 0] (0,0) _ rfl mB Try.underlying45 rfl mAD) rfl ?_;exact⟨_,by first|rfl|(simp[errW_none,errW_some] <;> rfl)|(simp[*,errW_none,errW_some] <;> rfl),by first|exact Kd.R_nil _ _ _ _ _|exact Kd.N_nil _ _ _ _ _|exact Kd.V_nil _ _ _ _ _|exact Kd.Q_nil _ _ _ _ _|exact Kd.S_nil _ _ _ _ _,by repeat (first|(with_reducible first|exact HB.out|apply below_alloc|apply pw_below_drewN|apply below_drew1|refine below_set ?_ G1.out|refine below_set ?_ G3.out)|exact HB.out)⟩
           ·rw[if_neg c21]at H
            have c0v:decide (((a0.extract (a1:Int).toNat a0.size).size :Int)<(wrap64 ((wrap64 (7+(wrap64 (3*(wrap64 (bt (a0.extract (a1:Int).toNat a0.size) 6))))))+2)))=false:=decide_eq_false c21;(try (have c21f0:=c0v;simp only[ByteArray.size_extract,Nat.min_self]at c21f0));clear c21;have H':=Aside0.mk H;clear H;(try go_wp2);replace B0:=Aside0.mk (blk_drew B0.out);replace HB:=Aside0.mk (below_drew1 HB.out);have p0:0<=(0:Int):=mBQ;have q0:0<(a0.extract (a1:Int).toNat a0.size).size :=mCW;have hx13:∀h:0<(a0.extract (a1:Int).toNat a0.size).size,(((a0.extract (a1:Int).toNat a0.size)[0]'h).toNat :Int)=bt (a0.extract (a1:Int).toNat a0.size) 0:=bt_at (a0.extract (a1:Int).toNat a0.size) 0;clear p0;have qi13:(0<((a0.extract (a1:Int).toNat a0.size).size :Int))=True:=eq_true (of_decide_eq_true mE);replace q0:=eq_true q0;(try (have qo13:=of_eq_true q0;simp only[ByteArray.size_extract,Nat.min_self]at qo13));(try (have qj13:=of_eq_true qi13;simp only[ByteArray.size_extract,Nat.min_self]at qj13));have p3:0<=(1:Int):=mBQ;have q3:1<(a0.extract (a1:Int).toNat a0.size).size :=mCV;have hx15:∀h:1<(a0.extract (a1:Int).toNat a0.size).size,(((a0.extract (a1:Int).toNat a0.size)[1]'h).toNat :Int)=bt (a0.extract (a1:Int).toNat a0.size) 1:=bt_at (a0.extract (a1:Int).toNat a0.size) 1;clear p3;have qi15:(1<((a0.extract (a1:Int).toNat a0.size).size :Int))=True:=eq_true (of_decide_eq_true mE);replace q3:=eq_true q3;(try (have qo15:=of_eq_true q3;simp only[ByteArray.size_extract,Nat.min_self]at qo15));(try (have qj15:=of_eq_true qi15;simp only[ByteArray.size_extract,Nat.min_self]at qj15));refine start_ (n:=12) (S:=λw'=>True) (ds:=[]) mk_12_0 mAD rfl rfl trivial (λhHeld=>?_);refine with_tabW lsa_Get.tab4 lsa_Get.bits4 (λHT_ HW_=>?_);generalize wc.drew=wg at B0 HB hHeld |-;refine pV 0 34 mk_12_1 ?_;refine pV 3 37 #[true,false,false,true,false,false,false,false,false,false,false,false] ?_;refine pV 6 40 #[true,false,false,true,false,false,true,false,false,false,false,false] ?_;refine pV 7 41 #[true,false,false,true,false,false,true,true,false,false,false,false] ?_;refine take_ (i:=1) (N:=some 35) (v:=?_) (a':=?_) #[true,true,false,true,false,false,true,true,false,false,false,false] rfl rfl (take_ofW HT_.out HW_.out mAD) (λ_ _ _ h=>h) (Or.inl ⟨by rfl,?_⟩) hHeld ?_ ?_;rotate_left;(·intro w' _;go_simp;with_reducible rfl);rotate_left;(·simp only[Act.put,List.setIfInBounds_toArray,List.set_cons_zero,List.set_cons_succ,i64_w,i32_w];rfl);refine pV 2 36 #[true,true,true,true,false,false,true,true,false,false,false,false] ?_;refine take_ (i:=4) (N:=some 38) (v:=?_) (a':=?_) #[true,true,true,true,true,false,true,true,false,false,false,false] rfl rfl (take_ofW HT_.out HW_.out mAD) (λ_ _ _ h=>h) (Or.inl ⟨by rfl,?_⟩) hHeld ?_ ?_;rotate_left;(·intro w' _;go_simp;with_reducible rfl);rotate_left;(·simp only[Act.put,List.setIfInBounds_toArray,List.set_cons_zero,List.set_cons_succ,i64_w,i32_w];rfl);refine pV 5 39 mk_12_8 ?_;refine join_ (σ:=Nat) 1 mk_12_11 (λs_=>[(42,.int .i64 t0),(8,.pointer (some ⟨s_,0,none⟩)),(43,.agg #[.int .i64 (wrap64 (bt (a0.extract (a1:Int).toNat a0.size) 1)),.int .i64 t0,.int .i64 (wrap64 (bt (a0.extract (a1:Int).toNat a0.size) 0)),.slice none 0 0])]) (λs_ w'=>(w'.heap[g0]? =some (.cells #[.int .i64 0,.int .i64 0,.int .i64 0,.slice none 0 0] 45 (0,0)))/\(w'.heap[s_]? =some (.cells #[.int .i64 0,.int .i64 0,.int .i64 0,.slice none 0 0] 45 (0,0)))/\(w.heap.size<=s_)/\(w.heap.size<=s_)/\(g0≠s_)/\(s_≠g0)/\(Below w.heap.size w w')) ?_ ?_
            rotate_left
            ·intro hCont
             refine two_ (i:=8) (j:=10) (Ni:=some 42) (Nj:=some 8) mk_12_9 #[true,true,true,true,true,true,true,true,false,false,true,false] rfl rfl rfl rfl (two_of HT_.out mAD) mAQ mAQ (λK hK=>?_) (λK hK=>?_)
             ·skip
              refine gV Try.func58 #[.string ((a0.extract (a1:Int).toNat a0.size).extract 2 6)] (h:=?_)
              with_reducible refine(lsa_Number.calls j1 ((a0.extract (a1:Int).toNat a0.size).extract 2 6) t0 _ A1.out).mono ?_
              rintro e w' ⟨rfl,⟨nd,rfl⟩⟩;refine⟨_,rfl,?_⟩;refine hK.out _ _ trivial (λhHeld=>?_);clear hK K;refine nV 42 (h:=?_);refine pV 9 43 mk_12_10 ?_;refine oV 10 (some 8) mk_12_11 (h:=λK hK=>?_);refine box_step ?hg (N:=8) ?hd (cs:=#[.int .i64 0,.int .i64 0,.int .i64 0,.slice none 0 0]) (t:=45) ?hr ?_;(case hd=>rfl);(case hg=>rfl);(case hr=>first|(go_simp;done)|(go_simp;rfl));intro g1 hg wh hbox hb;have B1:=Aside0.mk (hbox);have G2:=Aside0.mk ((mT:w.heap.size<=g1));have G3:=Aside0.mk ((mT:w.heap.size<=g1));replace HB:=Aside0.mk (below_step mC hb);have N0:=Aside0.mk ((mAW:g0≠g1));have N1:=Aside0.mk ((mAX:g1≠g0));replace B0:=Aside0.mk (blk_below mB hb);clear hb hbox hg;refine hK.out _ _ trivial (λhHeld=>?_);clear hK K;refine nV 8 (h:=?_);exact norm_ mAS (hCont (g1) _ ⟨mB,mL,G2.out,G3.out,N0.out,N1.out,mD⟩)
             ·skip
              refine box_step ?hg (N:=8) ?hd (cs:=#[.int .i64 0,.int .i64 0,.int .i64 0,.slice none 0 0]) (t:=45) ?hr ?_;(case hd=>rfl);(case hg=>rfl);(case hr=>first|(go_simp;done)|(go_simp;rfl));intro g1 hg wh hbox hb;have B1:=Aside0.mk (hbox);have G2:=Aside0.mk ((mT:w.heap.size<=g1));have G3:=Aside0.mk ((mT:w.heap.size<=g1));replace HB:=Aside0.mk (below_step mC hb);have N0:=Aside0.mk ((mAW:g0≠g1));have N1:=Aside0.mk ((mAX:g1≠g0));replace B0:=Aside0.mk (blk_below mB hb);clear hb hbox hg;refine hK.out _ _ trivial (λhHeld=>?_);clear hK K;refine nV 8 (h:=?_);refine oV 8 (some 42) #[true,true,true,true,true,true,true,true,true,false,true,false] (h:=λK hK=>?_);refine gV Try.func58 #[.string ((a0.extract (a1:Int).toNat a0.size).extract 2 6)] (h:=?_)
              with_reducible refine(lsa_Number.calls j1 ((a0.extract (a1:Int).toNat a0.size).extract 2 6) t0 _ A1.out).mono ?_
              rintro e w' ⟨rfl,⟨nd,rfl⟩⟩;refine⟨_,rfl,?_⟩;refine hK.out _ _ trivial (λhHeld=>?_);clear hK K;refine nV 42 (h:=?_);refine pV 9 43 mk_12_11 ?_;exact norm_ mAS (hCont (g1) _ ⟨mB,mL,G2.out,G3.out,N0.out,N1.out,mD⟩)
            rintro g1 wi ⟨h0_,h1_,h2_,h3_,h4_,h5_,h6_⟩;replace B0:Aside0 (wi.heap[g0]? =some (.cells #[.int .i64 0,.int .i64 0,.int .i64 0,.slice none 0 0] 45 (0,0))):=⟨h0_⟩;have B1:Aside0 (wi.heap[g1]? =some (.cells #[.int .i64 0,.int .i64 0,.int .i64 0,.slice none 0 0] 45 (0,0))):=⟨h1_⟩;have G2:Aside0 (w.heap.size<=g1):=⟨h2_⟩;have G3:Aside0 (w.heap.size<=g1):=⟨h3_⟩;have N0:Aside0 (g0≠g1):=⟨h4_⟩;have N1:Aside0 (g1≠g0):=⟨h5_⟩;replace HB:Aside0 (Below w.heap.size w wi):=⟨h6_⟩;clear h0_ h1_ h2_ h3_ h4_ h5_ h6_;have hHeld:=trivial;refine norm_ (a':=?_) ?_ ?_;rotate_left;(·simp only[putAll,Act.put,List.setIfInBounds_toArray,List.set_cons_zero,List.set_cons_succ];rfl);refine one_ (i:=11) (N:=none) mk_12_12 rfl rfl (one_of HT_.out mAD) mAQ (λK hK=>?_);have hs35:wi.cell? ⟨g1,0,none⟩=some (.int .i64 0):=(blk_cell B1.out 0).trans rfl;have hfs35:=blk_frozen B1.out 0;have hns35_0:=N0.out;have hms35_0:=N1.out;have hs36:wi.cell? ⟨g1,1,none⟩=some (.int .i64 0):=(blk_cell B1.out 1).trans rfl;have hfs36:=blk_frozen B1.out 1;have hns36_0:=N0.out;have hms36_0:=N1.out;have hs37:wi.cell? ⟨g1,2,none⟩=some (.int .i64 0):=(blk_cell B1.out 2).trans rfl;have hfs37:=blk_frozen B1.out 2;have hns37_0:=N0.out;have hms37_0:=N1.out;have hs38:wi.cell? ⟨g1,3,none⟩=some (.slice none 0 0):=(blk_cell B1.out 3).trans rfl;have hfs38:=blk_frozen B1.out 3;have hns38_0:=N0.out;have hms38_0:=N1.out;refine skip_ (w1:=?_) mBV rfl ?_ ?_;rotate_left
            ·go_simp
             rfl
            refine hK.out _ _ trivial (λhHeld=>?_);clear hK K;refine done_ (done_of HT_.out mAD) ?_;have p4:0<=(6:Int):=mBQ;have q4:6<(a0.extract (a1:Int).toNat a0.size).size :=mCU;have hx20:∀h:6<(a0.extract (a1:Int).toNat a0.size).size,(((a0.extract (a1:Int).toNat a0.size)[6]'h).toNat :Int)=bt (a0.extract (a1:Int).toNat a0.size) 6:=bt_at (a0.extract (a1:Int).toNat a0.size) 6;clear p4;have qi20:(6<((a0.extract (a1:Int).toNat a0.size).size :Int))=True:=eq_true (of_decide_eq_true mE);replace q4:=eq_true q4;(try (have qo20:=of_eq_true q4;simp only[ByteArray.size_extract,Nat.min_self]at qo20));(try (have qj20:=of_eq_true qi20;simp only[ByteArray.size_extract,Nat.min_self]at qj20));(try go_wp2)
            go_loopg [57] j1 (λkq v57 w'=>∃(x3:Int) (x4:List (S109)) (u326003:Value),v57= .int .i64 x3/\Aside0 (lsa_Get.l0 kq a1 (a0.extract (a1:Int).toNat a0.size) (wrap64 ((wrap64 (7+(wrap64 (3*(wrap64 (bt (a0.extract (a1:Int).toNat a0.size) 6))))))+2)) (wrap64 (bt (a0.extract (a1:Int).toNat a0.size) 6)) x3 (wrap64 (bt (a0.extract (a1:Int).toNat a0.size) 1)) t0 (wrap64 (bt (a0.extract (a1:Int).toNat a0.size) 0)) x4=some (r1,r2,r3,r4,r5,r6))/\Aside0 (kq<=j1)/\Aside0 (Kd.R k109 109 w' w.heap.size (λ_=>True) u326003 x4)/\Aside0 (w'.heap[g0]? =some (.cells #[.int .i64 0,.int .i64 0,.int .i64 0,(.slice none 0 0)] 45 (0,0)))/\Aside0 (w'.heap[g1]? =some (.cells #[.int .i64 (wrap64 (bt (a0.extract (a1:Int).toNat a0.size) 1)),.int .i64 t0,.int .i64 (wrap64 (bt (a0.extract (a1:Int).toNat a0.size) 0)),u326003] 45 (0,0)))/\Aside0 (Below w.heap.size w w'))
            case atStart=>exact⟨(0),(([]:List (S109))),(.slice none 0 0),mK,H',⟨Nat.le_refl _⟩,⟨by first|exact Kd.R_nil _ _ _ _ _|exact Kd.N_nil _ _ _ _ _|exact Kd.V_nil _ _ _ _ _|exact Kd.Q_nil _ _ _ _ _|exact Kd.S_nil _ _ _ _ _⟩,⟨by(with_reducible repeat (first|refine blk_drewN ?_ _|refine blk_drew ?_ |refine blk_alloc ?_ _));refine blk_far ?_ N0.out _;(with_reducible repeat (first|refine blk_drewN ?_ _|refine blk_drew ?_ |refine blk_alloc ?_ _));refine blk_far ?_ N0.out _;(with_reducible repeat (first|refine blk_drewN ?_ _|refine blk_drew ?_ |refine blk_alloc ?_ _));refine blk_far ?_ N0.out _;(with_reducible repeat (first|refine blk_drewN ?_ _|refine blk_drew ?_ |refine blk_alloc ?_ _));refine blk_far ?_ N0.out _;(with_reducible repeat (first|refine blk_drewN ?_ _|refine blk_drew ?_ |refine blk_alloc ?_ _));exact B0.out⟩,⟨by(with_reducible repeat (first|refine blk_drewN ?_ _|refine blk_drew ?_ |refine blk_alloc ?_ _));refine blk_put (cs:=#[.int .i64 (wrap64 (bt (a0.extract (a1:Int).toNat a0.size) 1)),.int .i64 t0,.int .i64 (wrap64 (bt (a0.extract (a1:Int).toNat a0.size) 0)),.slice none 0 0]) ?_ 3 _ rfl;(with_reducible repeat (first|refine blk_drewN ?_ _|refine blk_drew ?_ |refine blk_alloc ?_ _));refine blk_put (cs:=#[.int .i64 (wrap64 (bt (a0.extract (a1:Int).toNat a0.size) 1)),.int .i64 t0,.int .i64 0,.slice none 0 0]) ?_ 2 _ rfl;(with_reducible repeat (first|refine blk_drewN ?_ _|refine blk_drew ?_ |refine blk_alloc ?_ _));refine blk_put (cs:=#[.int .i64 (wrap64 (bt (a0.extract (a1:Int).toNat a0.size) 1)),.int .i64 0,.int .i64 0,.slice none 0 0]) ?_ 1 _ rfl;(with_reducible repeat (first|refine blk_drewN ?_ _|refine blk_drew ?_ |refine blk_alloc ?_ _));refine blk_put (cs:=#[.int .i64 0,.int .i64 0,.int .i64 0,.slice none 0 0]) ?_ 0 _ rfl;(with_reducible repeat (first|refine blk_drewN ?_ _|refine blk_drew ?_ |refine blk_alloc ?_ _));exact B1.out⟩,⟨by repeat (first|(with_reducible first|exact HB.out|apply below_alloc|apply pw_below_drewN|apply below_drew1|refine below_set ?_ G1.out|refine below_set ?_ G3.out)|exact HB.out)⟩⟩
            case round=>
             clear H';(try clear c1);(try clear p1);(try clear q1);(try clear hx1);(try clear qi1);(try clear c2);(try clear p2);(try clear q2);(try clear hx2);(try clear qi2);(try clear c5);(try clear c4);(try clear c6);(try clear ce);(try clear p6);(try clear c7);(try clear cr);(try clear ct);(try clear cu);(try clear cv);(try clear cw);(try clear cx);(try clear cy);(try clear cz);(try clear c00);(try clear p0);(try clear q0);(try clear hx13);(try clear qi13);(try clear c14);(try clear c03);(try clear c05);(try clear p3);(try clear q3);(try clear hx15);(try clear qi15);(try clear c16);(try clear c09);(try clear c0b);(try clear c17);(try clear c0i);(try clear c0k);(try clear c19);(try clear c0p);(try clear c0r);(try clear p4);(try clear q4);(try clear hx20);(try clear qi20);(try clear c21);(try clear c0v);(try clear c29);(try clear z5);(try clear z6);(try clear z7);(try clear z8);(try clear z0);(try clear z1);(try clear z2);(try clear z3);(try clear z9);(try clear hfz30_1);(try clear hfz30_2);(try clear hfz30_3);(try clear z4);(try clear hfz8_1);(try clear hfz8_2);(try clear hfz8_3);(try clear p0);(try clear p3);(try clear p2);(try clear p4);(try clear p6);(try clear q0);(try clear q3);(try clear q4);obtain⟨x3,x4,u326003,rfl,HA,HK2,O0,B0,B1,HB⟩:=hrel;cases gk with
             |zero=>exact absurd HA.out (by simp[lsa_Get.l0])
             |succ k2=>
              have H:=HA.out;clear HA;simp only[lsa_Get.l0]at H
              by_cases c39:x3<(wrap64 (bt (a0.extract (a1:Int).toNat a0.size) 6))
              ·rw[if_pos c39]at H
               have c1i:=decide_eq_true c39;(try (have c39f0:=c1i;simp only[ByteArray.size_extract,Nat.min_self]at c39f0));clear c39;obtain⟨j2,j3⟩:∃j_:Int,(wrap64 (7+(wrap64 (3*x3))))=j_:=⟨_,rfl⟩
               replace H:(if 0<=(j2)then(if(j2)<=((a0.extract (a1:Int).toNat a0.size).size :Int)then(if 0<(((a0.extract (a1:Int).toNat a0.size).extract ((j2):Int).toNat (a0.extract (a1:Int).toNat a0.size).size).size :Int)then(if 1<=3 then(if 3<=(((a0.extract (a1:Int).toNat a0.size).extract ((j2):Int).toNat (a0.extract (a1:Int).toNat a0.size).size).size :Int)then((lsa_Number.f k2 (((a0.extract (a1:Int).toNat a0.size).extract ((j2):Int).toNat (a0.extract (a1:Int).toNat a0.size).size).extract 1 3)).bind λt1=>(if x4.length<8796093022208 then(lsa_Get.l0 k2 a1 (a0.extract (a1:Int).toNat a0.size) (wrap64 ((wrap64 (7+(wrap64 (3*(wrap64 (bt (a0.extract (a1:Int).toNat a0.size) 6))))))+2)) (wrap64 (bt (a0.extract (a1:Int).toNat a0.size) 6)) (wrap64 (x3+1)) (wrap64 (bt (a0.extract (a1:Int).toNat a0.size) 1)) t0 (wrap64 (bt (a0.extract (a1:Int).toNat a0.size) 0)) (x4++[(⟨wrap64 (bt ((a0.extract (a1:Int).toNat a0.size).extract ((j2):Int).toNat (a0.extract (a1:Int).toNat a0.size).size) 0),t1⟩:S109)]))else(none)))else(none))else(none))else(none))else(none))else(none))=some (r1,r2,r3,r4,r5,r6):=by first|(rw[j3]at H;exact H)|(simp only[j3]at H |-;exact H)
               have j4:(IntKind.i64.wrap (7+(wrap64 (3*x3))))=j2:=(i64_w _).trans j3
               by_cases c41:0<=(j2)
               ·rw[if_pos c41]at H
                have c1n:=eq_true c41;have c1p:=decide_eq_true c41;clear c41
                by_cases c42:(j2)<=((a0.extract (a1:Int).toNat a0.size).size :Int)
                ·rw[if_pos c42]at H
                 (try (have c42p:=c42;simp only[ByteArray.size_extract]at c42p))
                 (try (have c42o:=c42;simp only[ByteArray.size_extract,Nat.min_self]at c42o))
                 have c1w:=eq_true c42;have c1y:=decide_eq_true c42;(try (have c42f1:=c1y;simp only[ByteArray.size_extract,Nat.min_self]at c42f1));clear c42
                 by_cases c43:0<(((a0.extract (a1:Int).toNat a0.size).extract ((j2):Int).toNat (a0.extract (a1:Int).toNat a0.size).size).size :Int)
                 ·rw[if_pos c43]at H
                  have c24:=decide_eq_true c43;(try (have c43f0:=c24;simp only[ByteArray.size_extract,Nat.min_self]at c43f0));have c26:decide (0<((a0.extract (a1:Int).toNat a0.size).extract ((j2):Int).toNat (a0.extract (a1:Int).toNat a0.size).size).size)=true:=decide_eq_true mBQ;(try (have c43f1:=c26;simp only[ByteArray.size_extract,Nat.min_self]at c43f1));clear c43
                  by_cases c45:1<=3
                  ·rw[if_pos c45]at H
                   have c2b:=eq_true c45;have c2d:=decide_eq_true c45;clear c45
                   by_cases c46:3<=(((a0.extract (a1:Int).toNat a0.size).extract ((j2):Int).toNat (a0.extract (a1:Int).toNat a0.size).size).size :Int)
                   ·rw[if_pos c46]at H
                    (try (have c46p:=c46;simp only[ByteArray.size_extract]at c46p))
                    (try (have c46o:=c46;simp only[ByteArray.size_extract,Nat.min_self]at c46o))
                    have c2k:=eq_true c46;have c2m:=decide_eq_true c46;(try (have c46f1:=c2m;simp only[ByteArray.size_extract,Nat.min_self]at c46f1));clear c46;obtain⟨t1,A2,H⟩:=bsE H;(try dsimp only at H);have A3:=Aside0.mk A2;clear A2
                    by_cases c48:x4.length<8796093022208
                    ·rw[if_pos c48]at H
                     have L0:=Aside0.mk c48;clear c48;obtain⟨y9,Y0⟩:∃y_:List (S109),y_=(x4++[(⟨wrap64 (bt ((a0.extract (a1:Int).toNat a0.size).extract ((j2):Int).toNat (a0.extract (a1:Int).toNat a0.size).size) 0),t1⟩:S109)]):=⟨_,rfl⟩
                     replace H:(lsa_Get.l0 k2 a1 (a0.extract (a1:Int).toNat a0.size) (wrap64 ((wrap64 (7+(wrap64 (3*(wrap64 (bt (a0.extract (a1:Int).toNat a0.size) 6))))))+2)) (wrap64 (bt (a0.extract (a1:Int).toNat a0.size) 6)) (wrap64 (x3+1)) (wrap64 (bt (a0.extract (a1:Int).toNat a0.size) 1)) t0 (wrap64 (bt (a0.extract (a1:Int).toNat a0.size) 0)) y9)=some (r1,r2,r3,r4,r5,r6):=by first|(rw[Y0];with_reducible exact H)|(have H2_:=(Option.bind_some _ _).symm.trans H;rw[Y0];with_reducible exact H2_)|(have H2_:=(Option.bind_some _ _).symm.trans H;with_reducible exact H2_)|with_reducible exact H|(rw[Y0];exact H)|exact H
                     have Y1:=Aside0.mk Y0;clear Y0;have H':=Aside0.mk H;clear H;(try go_wp2);replace O0:=Aside0.mk (Kd.R_drew O0.out);replace B0:=Aside0.mk (blk_drew B0.out);replace B1:=Aside0.mk (blk_drew B1.out);replace HB:=Aside0.mk (below_drew1 HB.out);have p5:0<=(0:Int):=mBQ;have q5:0<((a0.extract (a1:Int).toNat a0.size).extract ((j2):Int).toNat (a0.extract (a1:Int).toNat a0.size).size).size :=(by have:(0:Int)<(((a0.extract (a1:Int).toNat a0.size).extract ((j2):Int).toNat (a0.extract (a1:Int).toNat a0.size).size).size :Int):=of_decide_eq_true mE;omega);have hx44:∀h:0<((a0.extract (a1:Int).toNat a0.size).extract ((j2):Int).toNat (a0.extract (a1:Int).toNat a0.size).size).size,((((a0.extract (a1:Int).toNat a0.size).extract ((j2):Int).toNat (a0.extract (a1:Int).toNat a0.size).size)[0]'h).toNat :Int)=bt ((a0.extract (a1:Int).toNat a0.size).extract ((j2):Int).toNat (a0.extract (a1:Int).toNat a0.size).size) 0:=bt_at ((a0.extract (a1:Int).toNat a0.size).extract ((j2):Int).toNat (a0.extract (a1:Int).toNat a0.size).size) 0;(try (have hx44o:=hx44;simp only[ByteArray.size_extract,Nat.min_self]at hx44o));clear p5;have qi44:(0<(((a0.extract (a1:Int).toNat a0.size).extract ((j2):Int).toNat (a0.extract (a1:Int).toNat a0.size).size).size :Int))=True:=eq_true (of_decide_eq_true mE);replace q5:=eq_true q5;(try (have qo44:=of_eq_true q5;simp only[ByteArray.size_extract,Nat.min_self]at qo44));(try (have qj44:=of_eq_true qi44;simp only[ByteArray.size_extract,Nat.min_self]at qj44));refine start_ (n:=13) (S:=λw'=>w'.cell? ⟨g1,0,none⟩=some (.int .i64 (wrap64 (bt (a0.extract (a1:Int).toNat a0.size) 1)))/\w'.cell? ⟨g1,1,none⟩=some (.int .i64 t0)/\w'.cell? ⟨g1,2,none⟩=some (.int .i64 (wrap64 (bt (a0.extract (a1:Int).toNat a0.size) 0)))/\w'.cell? ⟨g1,3,none⟩=some (u326003)) (ds:=[12]) mk_13_0 mAD rfl rfl ⟨(blk_cell B1.out 0).trans rfl,(blk_cell B1.out 1).trans rfl,(blk_cell B1.out 2).trans rfl,(blk_cell B1.out 3).trans rfl⟩ (λhHeld=>?_);refine with_tabW lsa_Get.tab13 lsa_Get.bits13 (λHT_ HW_=>?_);generalize wr.drew=wk at O0 B0 B1 HB hHeld |-;refine pV 0 65 mk_13_1 ?_;refine pV 2 67 #[true,false,true,false,false,false,false,false,false,false,false,false,false] ?_;refine pV 5 70 #[true,false,true,false,false,true,false,false,false,false,false,false,false] ?_;refine pV 6 71 #[true,false,true,false,false,true,true,false,false,false,false,false,false] ?_;refine tV 1 (some 66) #[true,true,true,false,false,true,true,false,false,false,false,false,false] (hy:=Or.inl ⟨by rfl,by rintro w' ⟨s0,s1,s2,s3⟩;go_simp;with_reducible rfl⟩) (h:=?_);refine tV 3 (some 68) #[true,true,true,true,false,true,true,false,false,false,false,false,false] (hy:=Or.inl ⟨by rfl,by rintro w' ⟨s0,s1,s2,s3⟩;go_simp;with_reducible rfl⟩) (h:=?_);refine pV 4 69 mk_13_7 ?_;refine oV 7 (some 72) mk_13_8 (h:=λK hK=>?_);refine goes_ Try.func58 mAD rfl #[.string (((a0.extract (a1:Int).toNat a0.size).extract ((j2):Int).toNat (a0.extract (a1:Int).toNat a0.size).size).extract 1 3)] mBV rfl rfl (by(try simp only[List.map_toArray,List.map_cons,List.map_nil]);first|done|(simp only[j3];rfl)|(simp only[j3,ByteArray.size_extract,Nat.min_self];done)|(simp only[j3,ByteArray.size_extract,Nat.min_self];rfl)|(simp only[ByteArray.size_extract,Nat.min_self];done)|(simp only[ByteArray.size_extract,Nat.min_self];rfl)|rfl|(simp only[List.length_drop,List.length_take];rfl)) ?_
                     with_reducible refine(lsa_Number.calls k2 (((a0.extract (a1:Int).toNat a0.size).extract ((j2):Int).toNat (a0.extract (a1:Int).toNat a0.size).size).extract 1 3) t1 _ A3.out).mono ?_
                     rintro e w' ⟨rfl,⟨nd,rfl⟩⟩;refine⟨_,rfl,?_⟩;refine hK.out _ _ ⟨(blk_cell B1.out 0).trans rfl,(blk_cell B1.out 1).trans rfl,(blk_cell B1.out 2).trans rfl,(blk_cell B1.out 3).trans rfl⟩ (λhHeld=>?_);clear hK K;refine nV 72 (h:=?_);refine pV 8 73 mk_13_9 ?_;refine oV 9 (some 74) mk_13_10 (h:=λK hK=>?_);refine value_ (w1:=?_) (v:=?_) mBV rfl ?_ ?_;rotate_left 2
                     ·go_simp
                      constructor
                      ·rfl
                      ·rfl
                     refine hK.out _ _ ⟨(blk_cell (blk_alloc B1.out _) 0).trans rfl,(blk_cell (blk_alloc B1.out _) 1).trans rfl,(blk_cell (blk_alloc B1.out _) 2).trans rfl,(blk_cell (blk_alloc B1.out _) 3).trans rfl⟩ (λhHeld=>?_);clear hK K;refine nV 74 (h:=?_);refine oV 10 (some 75) mk_13_11 (h:=λK hK=>?_);(try rw[show(a0.extract (a1:Int).toNat a0.size).extract ((j2):Int).toNat (a0.size-(a1:Int).toNat)=(a0.extract (a1:Int).toNat a0.size).extract ((j2):Int).toNat (a0.extract (a1:Int).toNat a0.size).size from by simp only[ByteArray.size_extract,Nat.min_self]]);refine Kd.R_append_step k109 (w0:=w) w.heap.size mBV (.tmp 66) (.tmp 74) 43 109 (.agg #[(.int .i64 0),(.int .i64 0)]) 16 rfl Try.underlying43 info109 rfl mAQ mBQ u326003 x4 (⟨wrap64 (bt ((a0.extract (a1:Int).toNat a0.size).extract ((j2):Int).toNat (a0.extract (a1:Int).toNat a0.size).size) 0),t1⟩:S109) [.int .i64 (wrap64 (bt ((a0.extract (a1:Int).toNat a0.size).extract ((j2):Int).toNat (a0.extract (a1:Int).toNat a0.size).size) 0)),.int .i64 t1] (λ_=>True) (λ_=>False) rfl rfl ?aP (λ_ hk=>hk.elim) ?aF ?aO ?aB ?aS ?aL ?_
                     (case aP=>exact k109_mkM _ _ _ (⟨wrap64 (bt ((a0.extract (a1:Int).toNat a0.size).extract ((j2):Int).toNat (a0.extract (a1:Int).toNat a0.size).size) 0),t1⟩:S109))
                     (case aB=>exact mD)
                     (case aF=>exact(λ_ _=>trivial))
                     (case aO=>exact mN)
                     (case aS=>exact(below_size mD))
                     (case aL=>have:=L0.out;omega)
                     intro v328 wm ho hb hg hat;rw[<-Y1.out]at ho;replace B0:=Aside0.mk (blk_grown (g:=g0) (o:= .cells #[.int .i64 0,.int .i64 0,.int .i64 0,.slice none 0 0] 45 (0,0)) mB hg (Kd.R_ne O0.out B0.out mAQ));replace B1:=Aside0.mk (blk_grown (g:=g1) (o:= .cells #[.int .i64 (wrap64 (bt (a0.extract (a1:Int).toNat a0.size) 1)),.int .i64 t0,.int .i64 (wrap64 (bt (a0.extract (a1:Int).toNat a0.size) 0)),u326003] 45 (0,0)) mL hg (Kd.R_ne O0.out B1.out mAQ));replace HB:=Aside0.mk (hb);have O1:=Aside0.mk (ho);clear O0;clear ho hb hg hat;obtain⟨s4,s5,s6⟩:=Kd.R_slice O1.out
                     (first|subst s6|(injection s6 with f1_ f2_ f3_;have f4_:=f1_.symm;have f5_:=f3_.symm;clear f1_ f2_ f3_;subst f4_;subst f5_))
                     refine hK.out _ _ ⟨(blk_cell B1.out 0).trans rfl,(blk_cell B1.out 1).trans rfl,(blk_cell B1.out 2).trans rfl,(blk_cell B1.out 3).trans rfl⟩ (λhHeld=>?_);clear hK K;refine nV 75 (h:=?_);refine pV 11 76 mk_13_12 ?_;refine last_ (i:=12) (N:=none) mk_13_13 rfl rfl (one_of HT_.out mAD) mAQ (λK hK=>?_);have hs52:wm.cell? ⟨g1,3,none⟩=some (u326003):=(blk_cell B1.out 3).trans rfl;have hfs52:=blk_frozen B1.out 3;have hns52_0:=N0.out;have hms52_0:=N1.out;refine skip_ (w1:=?_) mBV rfl ?_ ?_;rotate_left
                     ·go_simp
                      rfl
                     refine hK.out _ _ ?_;clear hK K;refine done_ (done_of HT_.out mAD) ?_;(try go_wp2)
                     go_roundg k2
                     case measure=>have:=HJ2.out;have:=HK2.out;omega
                     case rel=>exact⟨(wrap64 (x3+1)),(y9),(.slice s4 y9.length s5),mK,H',⟨by have:=HJ2.out;have:=HK2.out;omega⟩,⟨by(with_reducible repeat (first|apply Kd.R_alloc|apply Kd.R_drewN|apply Kd.R_drew));exact Kd.R_mono (Kd.R_far (p:=⟨g1,3,none⟩) (Kd.R_types O1.out B1.out mAQ) (λ_ hk=>hk.2) (.slice s4 y9.length s5)) (λ_ hk=>trivial)⟩,⟨by(with_reducible repeat (first|refine blk_drewN ?_ _|refine blk_drew ?_ |refine blk_alloc ?_ _));refine blk_far ?_ N0.out _;(with_reducible repeat (first|refine blk_drewN ?_ _|refine blk_drew ?_ |refine blk_alloc ?_ _));exact B0.out⟩,⟨by(with_reducible repeat (first|refine blk_drewN ?_ _|refine blk_drew ?_ |refine blk_alloc ?_ _));refine blk_put (cs:=#[.int .i64 (wrap64 (bt (a0.extract (a1:Int).toNat a0.size) 1)),.int .i64 t0,.int .i64 (wrap64 (bt (a0.extract (a1:Int).toNat a0.size) 0)),u326003]) ?_ 3 _ rfl;(with_reducible repeat (first|refine blk_drewN ?_ _|refine blk_drew ?_ |refine blk_alloc ?_ _));exact B1.out⟩,⟨by repeat (first|(with_reducible first|exact HB.out|apply below_alloc|apply pw_below_drewN|apply below_drew1|refine below_set ?_ G1.out|refine below_set ?_ G3.out)|exact HB.out)⟩⟩
                    ·rw[if_neg c48]at H
                     exact absurd H mAM
                   ·rw[if_neg c46]at H
                    exact absurd H mAM
                  ·rw[if_neg c45]at H
                   exact absurd H mAM
                 ·rw[if_neg c43]at H
                  exact absurd H mAM
                ·rw[if_neg c42]at H
                 exact absurd H mAM
               ·rw[if_neg c41]at H
                exact absurd H mAM
              ·rw[if_neg c39]at H
               have c1i:=decide_eq_false c39;(try (have c39f0:=c1i;simp only[ByteArray.size_extract,Nat.min_self]at c39f0));clear c39;obtain⟨⟨t2,t3⟩,A4,H⟩:=bsE H;(try dsimp only at H);have A5:=Aside0.mk A4;clear A4
               by_cases c54:t3=0
               ·rw[if_pos c54]at H
                have c34:=beq_iff_eq.mpr c54;have c36:=bne_eq_false_iff_eq.mpr c54;clear c54;obtain⟨j5,j6⟩:∃j_:Int,(wrap64 ((wrap64 (7+(wrap64 (3*(wrap64 (bt (a0.extract (a1:Int).toNat a0.size) 6))))))+2))=j_:=⟨_,rfl⟩
                replace H:(if 0<=(j5)then(if(j5)<=((a0.extract (a1:Int).toNat a0.size).size :Int)then(if t2.toList=((a0.extract (a1:Int).toNat a0.size).extract 0 ((j5):Int).toNat).toList then(some ((wrap64 (bt (a0.extract (a1:Int).toNat a0.size) 1)),t0,(wrap64 (bt (a0.extract (a1:Int).toNat a0.size) 0)),x4,wrap64 (a1+(j5)),0))else(some (0,0,0,([]:List (S109)),0,700)))else(none))else(none))=some (r1,r2,r3,r4,r5,r6):=by first|(rw[j6]at H;exact H)|(simp only[j6]at H |-;exact H)
                (try rw[j6]at c0v)
                (try rw[j6]at A5)
                have j7:(IntKind.i64.wrap ((wrap64 (7+(wrap64 (3*(wrap64 (bt (a0.extract (a1:Int).toNat a0.size) 6))))))+2))=j5:=(i64_w _).trans j6
                by_cases c56:0<=(j5)
                ·rw[if_pos c56]at H
                 have c3c:=eq_true c56;have c3e:=decide_eq_true c56;clear c56
                 by_cases c57:(j5)<=((a0.extract (a1:Int).toNat a0.size).size :Int)
                 ·rw[if_pos c57]at H
                  (try (have c57p:=c57;simp only[ByteArray.size_extract]at c57p))
                  (try (have c57o:=c57;simp only[ByteArray.size_extract,Nat.min_self]at c57o))
                  have c3l:=eq_true c57;have c3n:=decide_eq_true c57;(try (have c57f1:=c3n;simp only[ByteArray.size_extract,Nat.min_self]at c57f1));clear c57
                  by_cases c58:t2.toList=((a0.extract (a1:Int).toNat a0.size).extract 0 ((j5):Int).toNat).toList
                  ·rw[if_pos c58]at H
                   have c3s:=beq_iff_eq.mpr c58;have c3u:=bne_eq_false_iff_eq.mpr c58;clear c58;simp only[Option.some.injEq,Prod.mk.injEq]at H;obtain⟨rfl,rfl,rfl,rfl,rfl,rfl⟩:=H;have n2:=N1.out;have n3:=N0.out;obtain⟨za,zb,zc,zd⟩:=bc4 B1.out;have ze:=blk_frozen B1.out;obtain⟨s7,s8,s9⟩:=Kd.R_slice O0.out;subst s9
                   go_wp2_with (first|((with_reducible refine gate_callee (f:=69) rfl ?_);refine cLV (some 80) Try.func69 #[.agg #[.int .i64 (wrap64 (bt (a0.extract (a1:Int).toNat a0.size) 1)),.int .i64 t0,.int .i64 (wrap64 (bt (a0.extract (a1:Int).toNat a0.size) 0)),.slice s7 x4.length s8]] (h:=?_);(with_reducible refine(lsa_Put.calls k2 (wrap64 (bt (a0.extract (a1:Int).toNat a0.size) 1)) t0 (wrap64 (bt (a0.extract (a1:Int).toNat a0.size) 0)) _ _ x4 t2 t3 _ ?side1 ?side2 A5.out).mono ?_);(case side1=>repeat (first|exact(Kd.R_reads' O0.out).2.2 |(with_reducible refine Kd.C_alloc ?_ _)|(with_reducible refine Kd.C_drewN ?_ _)|(with_reducible refine Kd.C_drew ?_)));(case side2=>exact(Kd.R_reads' O0.out).2.1);rintro e wo ⟨rfl,hb⟩;refine⟨_,rfl,?_⟩;replace O0:=Aside0.mk (Kd.R_below mN hb);replace B0:=Aside0.mk (blk_below mB hb);replace B1:=Aside0.mk (blk_below mL hb);replace HB:=Aside0.mk (below_step mD hb);(try clear hb);obtain⟨zf,zg,zh,zi⟩:=bc4 B1.out;have zj:=blk_frozen B1.out;obtain⟨zk,zl,zm,zn⟩:=bc4 B0.out;have zo:=blk_frozen B0.out)|((with_reducible refine gate_store (t:=45) (p:=4) rfl ?_);refine stV (t:=45) (p:=4) (w1:=((((wo.setCell ⟨g0,0,none⟩ (.int .i64 (wrap64 (bt (a0.extract (a1:Int).toNat a0.size) 1)))).setCell ⟨g0,1,none⟩ (.int .i64 t0)).setCell ⟨g0,2,none⟩ (.int .i64 (wrap64 (bt (a0.extract (a1:Int).toNat a0.size) 0)))).setCell ⟨g0,3,none⟩ (.slice s7 x4.length s8))) (h:=?_);intro wq hw;replace O0:Aside0 (Kd.R k109 109 wq w.heap.size (λ_=>True) (.slice s7 x4.length s8) x4):=⟨(by rw[hw];exact(by(with_reducible repeat (first|apply Kd.R_alloc|apply Kd.R_drewN|apply Kd.R_drew));exact Kd.R_mono (Kd.R_far (p:=⟨g0,3,none⟩) (Kd.R_far (p:=⟨g0,2,none⟩) (Kd.R_far (p:=⟨g0,1,none⟩) (Kd.R_far (p:=⟨g0,0,none⟩) (Kd.R_types O0.out B0.out mAQ) (λ_ hk=>hk.2) (.int .i64 (wrap64 (bt (a0.extract (a1:Int).toNat a0.size) 1)))) (λ_ hk=>hk.2) (.int .i64 t0)) (λ_ hk=>hk.2) (.int .i64 (wrap64 (bt (a0.extract (a1:Int).toNat a0.size) 0)))) (λ_ hk=>hk.2) (.slice s7 x4.length s8)) (λ_ hk=>trivial)))⟩;replace B0:Aside0 (wq.heap[g0]? =some (.cells #[.int .i64 (wrap64 (bt (a0.extract (a1:Int).toNat a0.size) 1)),.int .i64 t0,.int .i64 (wrap64 (bt (a0.extract (a1:Int).toNat a0.size) 0)),.slice s7 x4.length s8] 45 (0,0))):=⟨(by rw[hw];exact(by(with_reducible repeat (first|refine blk_drewN ?_ _|refine blk_drew ?_ |refine blk_alloc ?_ _));refine blk_put (cs:=#[.int .i64 (wrap64 (bt (a0.extract (a1:Int).toNat a0.size) 1)),.int .i64 t0,.int .i64 (wrap64 (bt (a0.extract (a1:Int).toNat a0.size) 0)),.slice none 0 0]) ?_ 3 _ rfl;(with_reducible repeat (first|refine blk_drewN ?_ _|refine blk_drew ?_ |refine blk_alloc ?_ _));refine blk_put (cs:=#[.int .i64 (wrap64 (bt (a0.extract (a1:Int).toNat a0.size) 1)),.int .i64 t0,.int .i64 0,.slice none 0 0]) ?_ 2 _ rfl;(with_reducible repeat (first|refine blk_drewN ?_ _|refine blk_drew ?_ |refine blk_alloc ?_ _));refine blk_put (cs:=#[.int .i64 (wrap64 (bt (a0.extract (a1:Int).toNat a0.size) 1)),.int .i64 0,.int .i64 0,.slice none 0 0]) ?_ 1 _ rfl;(with_reducible repeat (first|refine blk_drewN ?_ _|refine blk_drew ?_ |refine blk_alloc ?_ _));refine blk_put (cs:=#[.int .i64 0,.int .i64 0,.int .i64 0,.slice none 0 0]) ?_ 0 _ rfl;(with_reducible repeat (first|refine blk_drewN ?_ _|refine blk_drew ?_ |refine blk_alloc ?_ _));exact B0.out))⟩;replace B1:Aside0 (wq.heap[g1]? =some (.cells #[.int .i64 (wrap64 (bt (a0.extract (a1:Int).toNat a0.size) 1)),.int .i64 t0,.int .i64 (wrap64 (bt (a0.extract (a1:Int).toNat a0.size) 0)),.slice s7 x4.length s8] 45 (0,0))):=⟨mQ⟩;replace HB:Aside0 (Below w.heap.size w wq):=⟨mAR⟩;clear hw))
                   refine bodyPost_ret (results_ctt rfl _ _ g0 45 #[.int .i64 (wrap64 (bt (a0.extract (a1:Int).toNat a0.size) 1)),.int .i64 t0,.int .i64 (wrap64 (bt (a0.extract (a1:Int).toNat a0.size) 0)),.slice s7 x4.length s8] (0,0) _ rfl mB Try.underlying45 rfl mAD) rfl ?_;exact⟨_,by first|rfl|(simp[errW_none,errW_some] <;> rfl)|(simp only[<-j6];first|rfl|(simp[errW_none,errW_some] <;> rfl))|(simp[*,errW_none,errW_some] <;> rfl),by(with_reducible repeat (first|apply Kd.R_alloc|apply Kd.R_drewN|apply Kd.R_drew));exact O0.out,by repeat (first|(with_reducible first|exact HB.out|apply below_alloc|apply pw_below_drewN|apply below_drew1|refine below_set ?_ G1.out|refine below_set ?_ G3.out)|exact HB.out)⟩
                  ·rw[if_neg c58]at H
                   have c3s:=beq_eq_false_iff_ne.mpr c58;have c3u:=bne_iff_ne.mpr c58;simp only[Option.some.injEq,Prod.mk.injEq]at H;obtain⟨rfl,rfl,rfl,rfl,rfl,rfl⟩:=H;have n4:=N1.out;have n5:=N0.out;obtain⟨zp,zq,zr,zs⟩:=bc4 B1.out;have zt:=blk_frozen B1.out;obtain⟨sa,sb,sc⟩:=Kd.R_slice O0.out;subst sc
                   go_wp2_with (first|((with_reducible refine gate_callee (f:=69) rfl ?_);refine cLV (some 80) Try.func69 #[.agg #[.int .i64 (wrap64 (bt (a0.extract (a1:Int).toNat a0.size) 1)),.int .i64 t0,.int .i64 (wrap64 (bt (a0.extract (a1:Int).toNat a0.size) 0)),.slice sa x4.length sb]] (h:=?_);(with_reducible refine(lsa_Put.calls k2 (wrap64 (bt (a0.extract (a1:Int).toNat a0.size) 1)) t0 (wrap64 (bt (a0.extract (a1:Int).toNat a0.size) 0)) _ _ x4 t2 t3 _ ?side1 ?side2 A5.out).mono ?_);(case side1=>repeat (first|exact(Kd.R_reads' O0.out).2.2 |(with_reducible refine Kd.C_alloc ?_ _)|(with_reducible refine Kd.C_drewN ?_ _)|(with_reducible refine Kd.C_drew ?_)));(case side2=>exact(Kd.R_reads' O0.out).2.1);rintro e ws ⟨rfl,hb⟩;refine⟨_,rfl,?_⟩;replace O0:=Aside0.mk (Kd.R_below mN hb);replace B0:=Aside0.mk (blk_below mB hb);replace B1:=Aside0.mk (blk_below mL hb);replace HB:=Aside0.mk (below_step mD hb);(try clear hb);obtain⟨zu,zv,zw,zx⟩:=bc4 B0.out;have zy:=blk_frozen B0.out)|((with_reducible refine gate_store (t:=45) (p:=4) rfl ?_);refine stV (t:=45) (p:=4) (w1:=((((ws.setCell ⟨g0,0,none⟩ (.int .i64 0)).setCell ⟨g0,1,none⟩ (.int .i64 0)).setCell ⟨g0,2,none⟩ (.int .i64 0)).setCell ⟨g0,3,none⟩ (.slice none 0 0))) (h:=?_);intro wu hw;replace O0:Aside0 (Kd.R k109 109 wu w.heap.size (λ_=>True) (.slice sa x4.length sb) x4):=⟨mAE⟩;replace B0:Aside0 (wu.heap[g0]? =some (.cells #[.int .i64 0,.int .i64 0,.int .i64 0,.slice none 0 0] 45 (0,0))):=⟨mM⟩;replace B1:Aside0 (wu.heap[g1]? =some (.cells #[.int .i64 (wrap64 (bt (a0.extract (a1:Int).toNat a0.size) 1)),.int .i64 t0,.int .i64 (wrap64 (bt (a0.extract (a1:Int).toNat a0.size) 0)),.slice sa x4.length sb] 45 (0,0))):=⟨mQ⟩;replace HB:Aside0 (Below w.heap.size w wu):=⟨mAR⟩;clear hw))
                   refine bodyPost_ret (results_ctt rfl _ _ g0 45 #[.int .i64 0,.int .i64 0,.int .i64 0,.slice none 0 0] (0,0) _ rfl mB Try.underlying45 rfl mAD) rfl ?_;exact⟨_,by first|rfl|(simp[errW_none,errW_some] <;> rfl)|(simp only[<-j6];first|rfl|(simp[errW_none,errW_some] <;> rfl))|(simp[*,errW_none,errW_some] <;> rfl),by first|exact Kd.R_nil _ _ _ _ _|exact Kd.N_nil _ _ _ _ _|exact Kd.V_nil _ _ _ _ _|exact Kd.Q_nil _ _ _ _ _|exact Kd.S_nil _ _ _ _ _,by repeat (first|(with_reducible first|exact HB.out|apply below_alloc|apply pw_below_drewN|apply below_drew1|refine below_set ?_ G1.out|refine below_set ?_ G3.out)|exact HB.out)⟩
                 ·rw[if_neg c57]at H
                  exact absurd H mAM
                ·rw[if_neg c56]at H
                 exact absurd H mAM
               ·rw[if_neg c54]at H
                have c34:=beq_eq_false_iff_ne.mpr c54;have c36:=bne_iff_ne.mpr c54;simp only[Option.some.injEq,Prod.mk.injEq]at H;obtain⟨rfl,rfl,rfl,rfl,rfl,rfl⟩:=H;have n6:=N1.out;have n7:=N0.out;obtain⟨zz,z00,z01,z02⟩:=bc4 B1.out;have z03:=blk_frozen B1.out;obtain⟨sd,se,sf⟩:=Kd.R_slice O0.out;subst sf
                go_wp2_with (first|((with_reducible refine gate_callee (f:=69) rfl ?_);refine cLV (some 80) Try.func69 #[.agg #[.int .i64 (wrap64 (bt (a0.extract (a1:Int).toNat a0.size) 1)),.int .i64 t0,.int .i64 (wrap64 (bt (a0.extract (a1:Int).toNat a0.size) 0)),.slice sd x4.length se]] (h:=?_);(with_reducible refine(lsa_Put.calls k2 (wrap64 (bt (a0.extract (a1:Int).toNat a0.size) 1)) t0 (wrap64 (bt (a0.extract (a1:Int).toNat a0.size) 0)) _ _ x4 t2 t3 _ ?side1 ?side2 A5.out).mono ?_);(case side1=>repeat (first|exact(Kd.R_reads' O0.out).2.2 |(with_reducible refine Kd.C_alloc ?_ _)|(with_reducible refine Kd.C_drewN ?_ _)|(with_reducible refine Kd.C_drew ?_)));(case side2=>exact(Kd.R_reads' O0.out).2.1);rintro e wv ⟨rfl,hb⟩;refine⟨_,rfl,?_⟩;replace O0:=Aside0.mk (Kd.R_below mN hb);replace B0:=Aside0.mk (blk_below mB hb);replace B1:=Aside0.mk (blk_below mL hb);replace HB:=Aside0.mk (below_step mD hb);(try clear hb);obtain⟨z04,z05,z06,z07⟩:=bc4 B0.out;have z08:=blk_frozen B0.out)|((with_reducible refine gate_store (t:=45) (p:=4) rfl ?_);refine stV (t:=45) (p:=4) (w1:=((((wv.setCell ⟨g0,0,none⟩ (.int .i64 0)).setCell ⟨g0,1,none⟩ (.int .i64 0)).setCell ⟨g0,2,none⟩ (.int .i64 0)).setCell ⟨g0,3,none⟩ (.slice none 0 0))) (h:=?_);intro wx hw;replace O0:Aside0 (Kd.R k109 109 wx w.heap.size (λ_=>True) (.slice sd x4.length se) x4):=⟨mAE⟩;replace B0:Aside0 (wx.heap[g0]? =some (.cells #[.int .i64 0,.int .i64 0,.int .i64 0,.slice none 0 0] 45 (0,0))):=⟨mM⟩;replace B1:Aside0 (wx.heap[g1]? =some (.cells #[.int .i64 (wrap64 (bt (a0.extract (a1:Int).toNat a0.size) 1)),.int .i64 t0,.int .i64 (wrap64 (bt (a0.extract (a1:Int).toNat a0.size) 0)),.slice sd x4.length se] 45 (0,0))):=⟨mQ⟩;replace HB:Aside0 (Below w.heap.size w wx):=⟨mAR⟩;clear hw))
                refine bodyPost_ret (results_ctt rfl _ _ g0 45 #[.int .i64 0,.int .i64 0,.int .i64 0,.slice none 0 0] (0,0) _ rfl mB Try.underlying45 rfl mAD) rfl ?_;exact⟨_,by first|rfl|(simp[errW_none,errW_some] <;> rfl)|(simp[*,errW_none,errW_some] <;> rfl),by first|exact Kd.R_nil _ _ _ _ _|exact Kd.N_nil _ _ _ _ _|exact Kd.V_nil _ _ _ _ _|exact Kd.Q_nil _ _ _ _ _|exact Kd.S_nil _ _ _ _ _,by repeat (first|(with_reducible first|exact HB.out|apply below_alloc|apply pw_below_drewN|apply below_drew1|refine below_set ?_ G1.out|refine below_set ?_ G3.out)|exact HB.out)⟩
          ·rw[if_neg c19]at H
           exact absurd H mAM
         ·rw[if_neg c17]at H
          exact absurd H mAM
        ·rw[if_neg c16]at H
         exact absurd H mAM
       ·rw[if_neg c14]at H
        exact absurd H mAM
      ·rw[if_neg cy]at H
       exact absurd H mAM
     ·rw[if_neg cv]at H
      exact absurd H mAM
    ·rw[if_neg cr]at H
     exact absurd H mAM
mutual
def update_Get.l0:Nat->ByteArray->List (S45)->Int->Option ((List (S45)) × Int)
 |0,_,_,_=>none
 |k+1,x0,x4,x5=>if x5<(x0.size:Int)then(update_Get.j1 k x0 x4 x5 (decide ((x4.length:Int)<=4)))else(update_Get.j1 k x0 x4 x5 false)
def update_Get.j1:Nat->ByteArray->List (S45)->Int->Bool->Option ((List (S45)) × Int)
 |0,_,_,_,_=>none
 |k+1,x0,x4,x5,x19=>if x19=true then((lsa_Get.f k x0 x5).bind λbt332=>(if bt332.2.2.2.2.2=0 then(if x4.length<2932031007402 then(update_Get.l0 k x0 (x4++[(⟨bt332.1,bt332.2.1,bt332.2.2.1,bt332.2.2.2.1⟩:S45)]) bt332.2.2.2.2.1)else(none))else(some (([]:List (S45)),1000))))else((update_Put.f k x4).bind λbt344=>(if bt344.2=0 then(if bt344.1.toList=x0.toList then(some (x4,0))else(some (([]:List (S45)),1000)))else(some (([]:List (S45)),1000))))
end
def update_Get.f (k:Nat) (a0:ByteArray):Option ((List (S45)) × Int):=update_Get.l0 k a0 ([]:List (S45)) 1
theorem update_Get.mono_l:∀k,(∀y0 y1 y2,LeO (update_Get.l0 k y0 y1 y2) (update_Get.l0 (k+1) y0 y1 y2))/\(∀y0 y1 y2 y3,LeO (update_Get.j1 k y0 y1 y2 y3) (update_Get.j1 (k+1) y0 y1 y2 y3))
 |0=>⟨λ_ _ _ r h=>by simp[update_Get.l0]at h,λ_ _ _ _ r h=>by simp[update_Get.j1]at h⟩
 |k+1=>by
  obtain⟨ih0,ih1⟩:=update_Get.mono_l k;refine⟨?_,?_⟩
  ·intro y0 y1 y2
   unfold update_Get.l0
   repeat' (with_reducible first|exact ih0 _ _ _|exact ih1 _ _ _ _|exact lsa_Get.mono _ _ _|exact update_Put.mono _ _|exact LeO.refl _|exact LeO.none _|refine LeO.ite ?_ ?_ |refine LeO.bind ?_ (λ_=>?_))
  ·intro y0 y1 y2 y3
   unfold update_Get.j1
   repeat' (with_reducible first|exact ih0 _ _ _|exact ih1 _ _ _ _|exact lsa_Get.mono _ _ _|exact update_Put.mono _ _|exact LeO.refl _|exact LeO.none _|refine LeO.ite ?_ ?_ |refine LeO.bind ?_ (λ_=>?_))
theorem update_Get.mono:∀a0 k,LeO (update_Get.f k a0) (update_Get.f (k+1) a0):=by
 intro a0 k;obtain⟨ih0,ih1⟩:=update_Get.mono_l k;unfold update_Get.f
 repeat' (with_reducible first|exact ih0 _ _ _|exact ih1 _ _ _ _|exact lsa_Get.mono _ _ _|exact update_Put.mono _ _|exact LeO.refl _|exact LeO.none _|refine LeO.ite ?_ ?_ |refine LeO.bind ?_ (λ_=>?_))
set_option maxHeartbeats 8000000 in
set_option maxRecDepth 100000 in
theorem update_Get.calls (k:Nat) (a0:ByteArray) (r1:List (S45)) (r2:Int) (w:World) (h:update_Get.f k a0=some (r1,r2)):
  Calls Try.prog 28 #[.string a0] w λe w'=>∃v0_:Value,e= .returned (.tuple #[v0_,.int .i64 r2])/\Kd.S k45 45 w' w.heap.size (λ_=>True) v0_ r1/\Below w.heap.size w w':=by
 have hu45:=Try.underlying45;have HB:=Aside0.mk (Below.refl w.heap.size w);have H:(update_Get.l0 k a0 ([]:List (S45)) 1)=some (r1,r2):=h;clear h;have H':=Aside0.mk H;clear H
 go_enter Try.func28,Try.ntmps28
 go_wp2
 go_loopg [4,5] k (λkq v4 v5 w'=>∃(x1:List (S45)) (x2:Int),v5= .int .i64 x2/\Aside0 (update_Get.l0 kq a0 x1 x2=some (r1,r2))/\Aside0 (kq<=k)/\Aside0 (Kd.S k45 45 w' w.heap.size (λ_=>True) v4 x1)/\Aside0 (Below w.heap.size w w'))
 case atStart=>exact⟨(([]:List (S45))),(1),mK,H',⟨Nat.le_refl _⟩,⟨by first|exact Kd.S_nil _ _ _ _ _|exact Kd.N_nil _ _ _ _ _|exact Kd.V_nil _ _ _ _ _|exact Kd.Q_nil _ _ _ _ _|exact Kd.R_nil _ _ _ _ _⟩,⟨by repeat (first|(with_reducible first|exact HB.out|apply below_alloc|apply pw_below_drewN|apply below_drew1)|exact HB.out)⟩⟩
 case round=>
  clear H';obtain⟨x1,x2,rfl,HA,HK1,O0,HB⟩:=hrel;cases gk with
  |zero=>exact absurd HA.out (by simp[update_Get.l0])
  |succ k1=>
   have H:=HA.out;clear HA;simp only[update_Get.l0]at H;have K0:=Aside0.mk H;clear H
   go_upto_region 3 with(fail)
   go_cut [19] (λv19 wc=>∃(kq:Nat) (x3:Bool),v19= .bool x3/\Aside0 (update_Get.j1 kq a0 x1 x2 x3=some (r1,r2))/\Aside0 (kq<=k1)/\Aside0 (Kd.S k45 45 wc w.heap.size (λ_=>True) u4 x1)/\Aside0 (Below w.heap.size w wc))
   case first=>
    have H:=K0.out;clear K0
    by_cases c3:x2<(a0.size:Int)
    ·rw[if_pos c3]at H
     have c4:=decide_eq_true c3;clear c3
     (first|rw[c4]|(simp only[i64_w,i32_w];rw[c4])|skip)
     have H':=Aside0.mk H;clear H;obtain⟨s0,s1,s2⟩:=Kd.S_slice O0.out;subst s2;go_wp2;go_meet
     case rel=>exact⟨_,(decide ((x1.length:Int)<=4)),mK,H',⟨by have:=HK1.out;first|omega|exact Nat.le_refl _⟩,⟨by(with_reducible repeat (first|apply Kd.S_alloc|apply Kd.S_drewN|apply Kd.S_drew));exact O0.out⟩,⟨by repeat (first|(with_reducible first|exact HB.out|apply below_alloc|apply pw_below_drewN|apply below_drew1)|exact HB.out)⟩⟩
    ·rw[if_neg c3]at H
     have c4:=decide_eq_false c3;clear c3
     (first|rw[c4]|(simp only[i64_w,i32_w];rw[c4])|skip)
     have H':=Aside0.mk H;clear H;go_wp2;go_meet
     case rel=>exact⟨_,(false),mK,H',⟨by have:=HK1.out;first|omega|exact Nat.le_refl _⟩,⟨by(with_reducible repeat (first|apply Kd.S_alloc|apply Kd.S_drewN|apply Kd.S_drew));exact O0.out⟩,⟨by repeat (first|(with_reducible first|exact HB.out|apply below_alloc|apply pw_below_drewN|apply below_drew1)|exact HB.out)⟩⟩
   case rest=>
    clear K0;(try clear c2);(try clear p2);(try clear c3);(try clear c4);obtain⟨kq,x3,rfl,HA,HJ1,O0,HB⟩:=hcut;cases kq with
    |zero=>exact absurd HA.out (by simp[update_Get.j1])
    |succ j0=>
     have H:=HA.out;clear HA;simp only[update_Get.j1]at H
     by_cases c5:x3=true
     ·subst c5
      rw[if_pos rfl]at H;obtain⟨⟨t0,t1,t2,t3,t4,t5⟩,A0,H⟩:=bsE H;(try dsimp only at H);have A6:=Aside0.mk A0;clear A0
      by_cases c7:t5=0
      ·rw[if_pos c7]at H
       have ci:=beq_iff_eq.mpr c7;have ck:=bne_eq_false_iff_eq.mpr c7;clear c7
       by_cases c8:x1.length<2932031007402
       ·rw[if_pos c8]at H
        have L0:=Aside0.mk c8;clear c8;obtain⟨y4,Y0⟩:∃y_:List (S45),y_=(x1++[(⟨t0,t1,t2,t3⟩:S45)]):=⟨_,rfl⟩
        replace H:(update_Get.l0 j0 a0 y4 t4)=some (r1,r2):=by first|(rw[Y0];with_reducible exact H)|(have H2_:=(Option.bind_some _ _).symm.trans H;rw[Y0];with_reducible exact H2_)|(have H2_:=(Option.bind_some _ _).symm.trans H;with_reducible exact H2_)|with_reducible exact H|(rw[Y0];exact H)|exact H
        have Y1:=Aside0.mk Y0;clear Y0;have H':=Aside0.mk H;clear H
        go_wp2_with (first|((with_reducible refine gate_callee (f:=59) rfl ?_);refine cLV (some 23) Try.func59 #[.string a0,.int .i64 x2] (h:=?_);(with_reducible refine(lsa_Get.calls j0 a0 x2 t0 t1 t2 t3 t4 t5 _ A6.out).mono ?_);rintro e w9 ⟨v336,rfl,ho0,hb⟩;refine⟨_,rfl,?_⟩;replace O0:=Aside0.mk (Kd.S_elder' mAF (Kd.R_base ho0) hb);have O1:=Aside0.mk (Kd.R_lower ho0 (below_size mA));replace HB:=Aside0.mk (below_step mA hb);(try clear hb);(try clear ho0))|((with_reducible refine gate_dst (N:=6) rfl ?_);(try (refine gate_guard mBV ?_;dsimp only));refine bxV (N:=6) (cs:=#[.int .i64 0,.int .i64 0,.int .i64 0,.slice none 0 0]) (t:=45) (h:=?_);intro g0 hg w3 hbox hb;replace O0:=Aside0.mk (Kd.S_below (Kd.S_elderB mAF g0 (Nat.le_of_eq hg.symm)) hb);replace O1:=Aside0.mk (Kd.R_below mX hb);have B0:=Aside0.mk (hbox);have G0:=Aside0.mk ((mJ:w.heap.size<=g0));have G1:=Aside0.mk ((mJ:w.heap.size<=g0));replace HB:=Aside0.mk (below_step mA hb);clear hb hbox hg;obtain⟨z0,z1,z2,z3⟩:=bc4 B0.out;have z4:=blk_frozen B0.out;obtain⟨s3,s4,s5⟩:=Kd.R_slice O1.out;subst s5)|((with_reducible refine gate_store (t:=45) (p:=6) rfl ?_);refine stV (t:=45) (p:=6) (w1:=((((w3.setCell ⟨g0,0,none⟩ (.int .i64 t0)).setCell ⟨g0,1,none⟩ (.int .i64 t1)).setCell ⟨g0,2,none⟩ (.int .i64 t2)).setCell ⟨g0,3,none⟩ (.slice s3 t3.length s4))) (h:=?_);intro w5 hw;replace O0:Aside0 (Kd.S k45 45 w5 w.heap.size (λk_=>some k_≠(.slice s3 t3.length s4:Value).ownBlock /\k_≠g0) u4 x1):=⟨mBK⟩;replace O1:Aside0 (Kd.R k109 109 w5 w.heap.size (λ_=>True) (.slice s3 t3.length s4) t3):=⟨mBN⟩;replace B0:Aside0 (w5.heap[g0]? =some (.cells #[.int .i64 t0,.int .i64 t1,.int .i64 t2,.slice s3 t3.length s4] 45 (0,0))):=⟨mW⟩;replace HB:Aside0 (Below w.heap.size w w5):=⟨mBI⟩;clear hw;obtain⟨z5,z6,z7,z8⟩:=bc4 B0.out;have z9:=blk_frozen B0.out)|((with_reducible refine gate_builtin (b:= .append) (xs:=#[.tmp 29,.tmp 31]) rfl ?_);(try (refine gate_guard mBV ?_;dsimp only));at_builtin;refine Kd.S_append k45 (w0:=w) w.heap.size rfl (.tmp 29) (.tmp 31) 23 45 (.agg #[(.int .i64 0),(.int .i64 0),(.int .i64 0),(.slice none 0 0)]) 48 rfl Try.underlying23 info45 rfl mAQ mBQ u4 x1 (⟨t0,t1,t2,t3⟩:S45) [.int .i64 t0,.int .i64 t1,.int .i64 t2,.slice s3 t3.length s4] (λk_=>k_≠g0) (λk_=>some k_=(.slice s3 t3.length s4:Value).ownBlock) rfl rfl ?aP (λk_ hk_=>((Kd.R_mono (ok':=λk_=>((λk_=>k_≠g0)) k_/\some k_≠(u4:Value).ownBlock) (Kd.R_types (Kd.R_apart' (O1.out) (Kd.S_typed O0.out) mAQ) B0.out mAQ) (λk_ hk=>⟨hk.2,hk.1.2⟩))).1 k_ hk_.symm) ?aF ?aO ?aB ?aS ?aL ?_;(case aP=>exact k45_mkM _ _ _ (⟨t0,t1,t2,t3⟩:S45) (Kd.R_mono (Kd.R_tight rfl (Kd.R_mono (ok':=λk_=>((λk_=>k_≠g0)) k_/\some k_≠(u4:Value).ownBlock) (Kd.R_types (Kd.R_apart' (O1.out) (Kd.S_typed O0.out) mAQ) B0.out mAQ) (λk_ hk=>⟨hk.2,hk.1.2⟩))) (λ_ h_=>h_)));(case aB=>exact mC);(case aF=>exact(λk_ hk=>Kd.freshB (g:=g0) (o:= .cells #[.int .i64 t0,.int .i64 t1,.int .i64 t2,.slice s3 t3.length s4] 45 (0,0)) mB k_ hk));(case aO=>exact mCM);(case aS=>exact(below_size mC));(case aL=>have:=L0.out;omega);intro v342 w7 ho hb hg hat;rw[<-Y1.out]at ho;replace B0:=Aside0.mk (blk_grown (g:=g0) (o:= .cells #[.int .i64 t0,.int .i64 t1,.int .i64 t2,.slice s3 t3.length s4] 45 (0,0)) mB hg (Kd.S_away O0.out (λ_ hk=>hk.2)));replace HB:=Aside0.mk (hb);have O2:=Aside0.mk (ho);clear O0 O1;clear ho hb hg hat))
        go_roundg j0
        case measure=>have:=HK1.out;have:=HJ1.out;omega
        case rel=>exact⟨(y4),(t4),mK,H',⟨by have:=HK1.out;have:=HJ1.out;omega⟩,⟨by(with_reducible repeat (first|apply Kd.S_alloc|apply Kd.S_drewN|apply Kd.S_drew));exact Kd.S_mono O2.out (λ_ hk=>trivial)⟩,⟨by repeat (first|(with_reducible first|exact HB.out|apply below_alloc|apply pw_below_drewN|apply below_drew1|refine below_set ?_ G1.out)|exact HB.out)⟩⟩
       ·rw[if_neg c8]at H
        exact absurd H mAM
      ·rw[if_neg c7]at H
       have ci:=beq_eq_false_iff_ne.mpr c7;have ck:=bne_iff_ne.mpr c7;simp only[Option.some.injEq,Prod.mk.injEq]at H;obtain⟨rfl,rfl⟩:=H
       go_wp2_with (first|((with_reducible refine gate_callee (f:=59) rfl ?_);refine cLV (some 23) Try.func59 #[.string a0,.int .i64 x2] (h:=?_);(with_reducible refine(lsa_Get.calls j0 a0 x2 t0 t1 t2 t3 t4 t5 _ A6.out).mono ?_);rintro e w8 ⟨v336,rfl,ho0,hb⟩;refine⟨_,rfl,?_⟩;replace O0:=Aside0.mk (Kd.S_elder' mAF (Kd.R_base ho0) hb);have O1:=Aside0.mk (Kd.R_lower ho0 (below_size mA));replace HB:=Aside0.mk (below_step mA hb);(try clear hb);(try clear ho0))|((with_reducible refine gate_dst (N:=6) rfl ?_);(try (refine gate_guard mBV ?_;dsimp only));refine bxV (N:=6) (cs:=#[.int .i64 0,.int .i64 0,.int .i64 0,.slice none 0 0]) (t:=45) (h:=?_);intro g0 hg wa hbox hb;replace O0:=Aside0.mk (Kd.S_below (Kd.S_elderB mAF g0 (Nat.le_of_eq hg.symm)) hb);replace O1:=Aside0.mk (Kd.R_below mX hb);have B0:=Aside0.mk (hbox);have G0:=Aside0.mk ((mJ:w.heap.size<=g0));have G1:=Aside0.mk ((mJ:w.heap.size<=g0));replace HB:=Aside0.mk (below_step mA hb);clear hb hbox hg;obtain⟨za,zb,zc,zd⟩:=bc4 B0.out;have ze:=blk_frozen B0.out;obtain⟨s6,s7,s8⟩:=Kd.R_slice O1.out;subst s8)|((with_reducible refine gate_store (t:=45) (p:=6) rfl ?_);refine stV (t:=45) (p:=6) (w1:=((((wa.setCell ⟨g0,0,none⟩ (.int .i64 t0)).setCell ⟨g0,1,none⟩ (.int .i64 t1)).setCell ⟨g0,2,none⟩ (.int .i64 t2)).setCell ⟨g0,3,none⟩ (.slice s6 t3.length s7))) (h:=?_);intro wd hw;replace O0:Aside0 (Kd.S k45 45 wd w.heap.size (λk_=>some k_≠(.slice s6 t3.length s7:Value).ownBlock /\k_≠g0) u4 x1):=⟨mBJ⟩;replace O1:Aside0 (Kd.R k109 109 wd w.heap.size (λ_=>True) (.slice s6 t3.length s7) t3):=⟨mBM⟩;replace B0:Aside0 (wd.heap[g0]? =some (.cells #[.int .i64 t0,.int .i64 t1,.int .i64 t2,.slice s6 t3.length s7] 45 (0,0))):=⟨mW⟩;replace HB:Aside0 (Below w.heap.size w wd):=⟨mBI⟩;clear hw))
       go_ret2
       exact⟨_,by first|rfl|(simp[errW_none,errW_some] <;> rfl)|(simp[*,errW_none,errW_some] <;> rfl),by first|exact Kd.S_nil _ _ _ _ _|exact Kd.N_nil _ _ _ _ _|exact Kd.V_nil _ _ _ _ _|exact Kd.Q_nil _ _ _ _ _|exact Kd.R_nil _ _ _ _ _,by repeat (first|(with_reducible first|exact HB.out|apply below_alloc|apply pw_below_drewN|apply below_drew1|refine below_set ?_ G1.out)|exact HB.out)⟩
     ·replace c5:=Bool.eq_false_iff.mpr c5
      subst c5;rw[if_neg (show ¬(false=true)by decide)]at H;obtain⟨⟨t6,t7⟩,A4,H⟩:=bsE H;(try dsimp only at H);have A5:=Aside0.mk A4;clear A4
      by_cases cz:t7=0
      ·rw[if_pos cz]at H
       have c00:=beq_iff_eq.mpr cz;have c01:=bne_eq_false_iff_eq.mpr cz;clear cz
       by_cases c23:t6.toList=a0.toList
       ·rw[if_pos c23]at H
        have c04:=beq_iff_eq.mpr c23;have c06:=bne_eq_false_iff_eq.mpr c23;clear c23;simp only[Option.some.injEq,Prod.mk.injEq]at H;obtain⟨rfl,rfl⟩:=H;obtain⟨s9,sa,sb⟩:=Kd.S_slice O0.out;subst sb
        go_wp2_with (first|((with_reducible refine gate_callee (f:=47) rfl ?_);refine cLV (some 36) Try.func47 #[.slice s9 x1.length sa] (h:=?_);(with_reducible refine(update_Put.calls j0 _ _ x1 t6 t7 _ ?side1 ?side2 A5.out).mono ?_);(case side1=>repeat (first|exact(Kd.S_reads' O0.out).2.2 |(with_reducible refine Kd.C_alloc ?_ _)|(with_reducible refine Kd.C_drewN ?_ _)|(with_reducible refine Kd.C_drew ?_)));(case side2=>exact(Kd.S_reads' O0.out).2.1);rintro e we ⟨rfl,hb⟩;refine⟨_,rfl,?_⟩;replace O0:=Aside0.mk (Kd.S_below mAF hb);replace HB:=Aside0.mk (below_step mA hb);(try clear hb)))
        go_ret2
        exact⟨_,by first|rfl|(simp[errW_none,errW_some] <;> rfl)|(simp[*,errW_none,errW_some] <;> rfl),by(with_reducible repeat (first|apply Kd.S_alloc|apply Kd.S_drewN|apply Kd.S_drew));exact O0.out,by repeat (first|(with_reducible first|exact HB.out|apply below_alloc|apply pw_below_drewN|apply below_drew1)|exact HB.out)⟩
       ·rw[if_neg c23]at H
        have c04:=beq_eq_false_iff_ne.mpr c23;have c06:=bne_iff_ne.mpr c23;simp only[Option.some.injEq,Prod.mk.injEq]at H;obtain⟨rfl,rfl⟩:=H;obtain⟨sc,sd,se⟩:=Kd.S_slice O0.out;subst se
        go_wp2_with (first|((with_reducible refine gate_callee (f:=47) rfl ?_);refine cLV (some 36) Try.func47 #[.slice sc x1.length sd] (h:=?_);(with_reducible refine(update_Put.calls j0 _ _ x1 t6 t7 _ ?side1 ?side2 A5.out).mono ?_);(case side1=>repeat (first|exact(Kd.S_reads' O0.out).2.2 |(with_reducible refine Kd.C_alloc ?_ _)|(with_reducible refine Kd.C_drewN ?_ _)|(with_reducible refine Kd.C_drew ?_)));(case side2=>exact(Kd.S_reads' O0.out).2.1);rintro e wf ⟨rfl,hb⟩;refine⟨_,rfl,?_⟩;replace O0:=Aside0.mk (Kd.S_below mAF hb);replace HB:=Aside0.mk (below_step mA hb);(try clear hb)))
        go_ret2
        exact⟨_,by first|rfl|(simp[errW_none,errW_some] <;> rfl)|(simp[*,errW_none,errW_some] <;> rfl),by first|exact Kd.S_nil _ _ _ _ _|exact Kd.N_nil _ _ _ _ _|exact Kd.V_nil _ _ _ _ _|exact Kd.Q_nil _ _ _ _ _|exact Kd.R_nil _ _ _ _ _,by repeat (first|(with_reducible first|exact HB.out|apply below_alloc|apply pw_below_drewN|apply below_drew1)|exact HB.out)⟩
      ·rw[if_neg cz]at H
       have c00:=beq_eq_false_iff_ne.mpr cz;have c01:=bne_iff_ne.mpr cz;simp only[Option.some.injEq,Prod.mk.injEq]at H;obtain⟨rfl,rfl⟩:=H;obtain⟨sf,sg,sh⟩:=Kd.S_slice O0.out;subst sh
       go_wp2_with (first|((with_reducible refine gate_callee (f:=47) rfl ?_);refine cLV (some 36) Try.func47 #[.slice sf x1.length sg] (h:=?_);(with_reducible refine(update_Put.calls j0 _ _ x1 t6 t7 _ ?side1 ?side2 A5.out).mono ?_);(case side1=>repeat (first|exact(Kd.S_reads' O0.out).2.2 |(with_reducible refine Kd.C_alloc ?_ _)|(with_reducible refine Kd.C_drewN ?_ _)|(with_reducible refine Kd.C_drew ?_)));(case side2=>exact(Kd.S_reads' O0.out).2.1);rintro e wg ⟨rfl,hb⟩;refine⟨_,rfl,?_⟩;replace O0:=Aside0.mk (Kd.S_below mAF hb);replace HB:=Aside0.mk (below_step mA hb);(try clear hb)))
       go_ret2
       exact⟨_,by first|rfl|(simp[errW_none,errW_some] <;> rfl)|(simp[*,errW_none,errW_some] <;> rfl),by first|exact Kd.S_nil _ _ _ _ _|exact Kd.N_nil _ _ _ _ _|exact Kd.V_nil _ _ _ _ _|exact Kd.Q_nil _ _ _ _ _|exact Kd.R_nil _ _ _ _ _,by repeat (first|(with_reducible first|exact HB.out|apply below_alloc|apply pw_below_drewN|apply below_drew1)|exact HB.out)⟩
mutual
def ack_Get.l0:Nat->ByteArray->List (S47)->Int->Option ((List (S47)) × Int)
 |0,_,_,_=>none
 |k+1,x0,x4,x5=>if(wrap64 (x5+8))<=(x0.size:Int)then(ack_Get.j1 k x0 x4 x5 (decide ((x4.length:Int)<=4)))else(ack_Get.j1 k x0 x4 x5 false)
def ack_Get.j1:Nat->ByteArray->List (S47)->Int->Bool->Option ((List (S47)) × Int)
 |0,_,_,_,_=>none
 |k+1,x0,x4,x5,x17=>if x17=true then(if 0<=x5 then(if x5<(x0.size:Int)then(if 0<=(wrap64 (x5+1))then(if(wrap64 (x5+1))<(x0.size:Int)then(if 0<=(wrap64 (x5+2))then(if(wrap64 (x5+2))<=(wrap64 (x5+6))then(if(wrap64 (x5+6))<=(x0.size:Int)then((lsa_Number.f k (x0.extract ((wrap64 (x5+2)):Int).toNat ((wrap64 (x5+6)):Int).toNat)).bind λt346=>(if 0<=(wrap64 (x5+6))then(if(wrap64 (x5+6))<=(wrap64 (x5+8))then(if(wrap64 (x5+8))<=(x0.size:Int)then((lsa_Number.f k (x0.extract ((wrap64 (x5+6)):Int).toNat ((wrap64 (x5+8)):Int).toNat)).bind λt347=>(if x4.length<4398046511104 then(ack_Get.l0 k x0 (x4++[(⟨wrap64 (bt x0 x5),t346,wrap64 (bt x0 (wrap64 (x5+1))),t347⟩:S47)]) (wrap64 (x5+8)))else(none)))else(none))else(none))else(none)))else(none))else(none))else(none))else(none))else(none))else(none))else(none))else((ack_Put.f k x4).bind λbt351=>(if bt351.2=0 then(if bt351.1.toList=x0.toList then(some (x4,0))else(some (([]:List (S47)),1100)))else(some (([]:List (S47)),1100))))
end
def ack_Get.f (k:Nat) (a0:ByteArray):Option ((List (S47)) × Int):=ack_Get.l0 k a0 ([]:List (S47)) 1
theorem ack_Get.mono_l:∀k,(∀y0 y1 y2,LeO (ack_Get.l0 k y0 y1 y2) (ack_Get.l0 (k+1) y0 y1 y2))/\(∀y0 y1 y2 y3,LeO (ack_Get.j1 k y0 y1 y2 y3) (ack_Get.j1 (k+1) y0 y1 y2 y3))
 |0=>⟨λ_ _ _ r h=>by simp[ack_Get.l0]at h,λ_ _ _ _ r h=>by simp[ack_Get.j1]at h⟩
 |k+1=>by
  obtain⟨ih0,ih1⟩:=ack_Get.mono_l k;refine⟨?_,?_⟩
  ·intro y0 y1 y2
   unfold ack_Get.l0
   repeat' (with_reducible first|exact ih0 _ _ _|exact ih1 _ _ _ _|exact ack_Put.mono _ _|exact lsa_Number.mono _ _|exact LeO.refl _|exact LeO.none _|refine LeO.ite ?_ ?_ |refine LeO.bind ?_ (λ_=>?_))
  ·intro y0 y1 y2 y3
   unfold ack_Get.j1
   repeat' (with_reducible first|exact ih0 _ _ _|exact ih1 _ _ _ _|exact ack_Put.mono _ _|exact lsa_Number.mono _ _|exact LeO.refl _|exact LeO.none _|refine LeO.ite ?_ ?_ |refine LeO.bind ?_ (λ_=>?_))
theorem ack_Get.mono:∀a0 k,LeO (ack_Get.f k a0) (ack_Get.f (k+1) a0):=by
 intro a0 k;obtain⟨ih0,ih1⟩:=ack_Get.mono_l k;unfold ack_Get.f
 repeat' (with_reducible first|exact ih0 _ _ _|exact ih1 _ _ _ _|exact ack_Put.mono _ _|exact lsa_Number.mono _ _|exact LeO.refl _|exact LeO.none _|refine LeO.ite ?_ ?_ |refine LeO.bind ?_ (λ_=>?_))
def ack_Get.T5:Bool × List (List Nat × List Nat):=(true,[([],[]),([],[]),([],[]),([1,2],[1,2]),([3],[3]),([],[]),([],[]),([6],[6]),([5,7],[5,7]),([8],[8]),([],[]),([],[]),([11],[11]),([],[]),([13],[13]),([10,12,14],[10,12,14]),([15],[15]),([],[]),([],[]),([18],[18]),([],[]),([20],[20]),([17,19,21],[17,19,21]),([22,16],[22]),([4,9,16,23],[4,9,16,23]),([24],[24]),([0,25,23],[0,25]),([26,26,0,1,2,3,4,5,6,7,8,9,10,11,12,13,14,15,16,17,18,19,20,21,22,23,24,25,26],[0,26])])
def ack_Get.B5:List Nat:=[0,0,0,6,14,0,0,64,224,480,0,0,2048,0,8192,31744,64512,0,0,262144,0,1048576,4063232,8387584,16777214,33554430,67108863,134217727]
theorem ack_Get.tab5:rtab .any (opsOf Try.f29 5)=ack_Get.T5:=by kernel_rfl
theorem ack_Get.bits5:waitsOk ack_Get.T5.2 ack_Get.B5=true:=by kernel_rfl
set_option maxHeartbeats 8000000 in
set_option maxRecDepth 100000 in
theorem ack_Get.calls (k:Nat) (a0:ByteArray) (r1:List (S47)) (r2:Int) (w:World) (h:ack_Get.f k a0=some (r1,r2)):
  Calls Try.prog 29 #[.string a0] w λe w'=>∃v0_:Value,e= .returned (.tuple #[v0_,.int .i64 r2])/\Kd.R k47 47 w' w.heap.size (λ_=>True) v0_ r1/\Below w.heap.size w w':=by
 have hu47:=Try.underlying47;have HB:=Aside0.mk (Below.refl w.heap.size w);have H:(ack_Get.l0 k a0 ([]:List (S47)) 1)=some (r1,r2):=h;clear h;have H':=Aside0.mk H;clear H
 go_enter Try.func29,Try.ntmps29
 go_wp2
 go_loopg [4,5] k (λkq v4 v5 w'=>∃(x1:List (S47)) (x2:Int),v5= .int .i64 x2/\Aside0 (ack_Get.l0 kq a0 x1 x2=some (r1,r2))/\Aside0 (kq<=k)/\Aside0 (Kd.R k47 47 w' w.heap.size (λ_=>True) v4 x1)/\Aside0 (Below w.heap.size w w'))
 case atStart=>exact⟨(([]:List (S47))),(1),mK,H',⟨Nat.le_refl _⟩,⟨by first|exact Kd.R_nil _ _ _ _ _|exact Kd.N_nil _ _ _ _ _|exact Kd.V_nil _ _ _ _ _|exact Kd.Q_nil _ _ _ _ _|exact Kd.S_nil _ _ _ _ _⟩,⟨by repeat (first|(with_reducible first|exact HB.out|apply below_alloc|apply pw_below_drewN|apply below_drew1)|exact HB.out)⟩⟩
 case round=>
  clear H';obtain⟨x1,x2,rfl,HA,HK1,O0,HB⟩:=hrel;cases gk with
  |zero=>exact absurd HA.out (by simp[ack_Get.l0])
  |succ k1=>
   have H:=HA.out;clear HA;simp only[ack_Get.l0]at H;have K0:=Aside0.mk H;clear H
   go_upto_region 3 with(fail)
   go_cut [17] (λv17 wc=>∃(kq:Nat) (x3:Bool),v17= .bool x3/\Aside0 (ack_Get.j1 kq a0 x1 x2 x3=some (r1,r2))/\Aside0 (kq<=k1)/\Aside0 (Kd.R k47 47 wc w.heap.size (λ_=>True) u4 x1)/\Aside0 (Below w.heap.size w wc))
   case first=>
    have H:=K0.out;clear K0
    by_cases c3:(wrap64 (x2+8))<=(a0.size:Int)
    ·rw[if_pos c3]at H
     have c4:=decide_eq_true c3;clear c3
     (first|rw[c4]|(simp only[i64_w,i32_w];rw[c4])|skip)
     have H':=Aside0.mk H;clear H;obtain⟨s0,s1,s2⟩:=Kd.R_slice O0.out;subst s2;go_wp2;go_meet
     case rel=>exact⟨_,(decide ((x1.length:Int)<=4)),mK,H',⟨by have:=HK1.out;first|omega|exact Nat.le_refl _⟩,⟨by(with_reducible repeat (first|apply Kd.R_alloc|apply Kd.R_drewN|apply Kd.R_drew));exact O0.out⟩,⟨by repeat (first|(with_reducible first|exact HB.out|apply below_alloc|apply pw_below_drewN|apply below_drew1)|exact HB.out)⟩⟩
    ·rw[if_neg c3]at H
     have c4:=decide_eq_false c3;clear c3
     (first|rw[c4]|(simp only[i64_w,i32_w];rw[c4])|skip)
     have H':=Aside0.mk H;clear H;go_wp2;go_meet
     case rel=>exact⟨_,(false),mK,H',⟨by have:=HK1.out;first|omega|exact Nat.le_refl _⟩,⟨by(with_reducible repeat (first|apply Kd.R_alloc|apply Kd.R_drewN|apply Kd.R_drew));exact O0.out⟩,⟨by repeat (first|(with_reducible first|exact HB.out|apply below_alloc|apply pw_below_drewN|apply below_drew1)|exact HB.out)⟩⟩
   case rest=>
    clear K0;(try clear c2);(try clear p2);(try clear c3);(try clear c4);obtain⟨kq,x3,rfl,HA,HJ1,O0,HB⟩:=hcut;cases kq with
    |zero=>exact absurd HA.out (by simp[ack_Get.j1])
    |succ j0=>
     have H:=HA.out;clear HA;simp only[ack_Get.j1]at H
     by_cases c5:x3=true
     ·subst c5
      rw[if_pos rfl]at H
      by_cases c6:0<=x2
      ·rw[if_pos c6]at H
       have ci:=decide_eq_true c6;clear c6
       by_cases c7:x2<(a0.size:Int)
       ·rw[if_pos c7]at H
        have cn:=decide_eq_true c7;clear c7;obtain⟨j2,j3⟩:∃j_:Int,(wrap64 (x2+1))=j_:=⟨_,rfl⟩
        replace H:(if 0<=(j2)then(if(j2)<(a0.size:Int)then(if 0<=(wrap64 (x2+2))then(if(wrap64 (x2+2))<=(wrap64 (x2+6))then(if(wrap64 (x2+6))<=(a0.size:Int)then((lsa_Number.f j0 (a0.extract ((wrap64 (x2+2)):Int).toNat ((wrap64 (x2+6)):Int).toNat)).bind λt0=>(if 0<=(wrap64 (x2+6))then(if(wrap64 (x2+6))<=(wrap64 (x2+8))then(if(wrap64 (x2+8))<=(a0.size:Int)then((lsa_Number.f j0 (a0.extract ((wrap64 (x2+6)):Int).toNat ((wrap64 (x2+8)):Int).toNat)).bind λt1=>(if x1.length<4398046511104 then(ack_Get.l0 j0 a0 (x1++[(⟨wrap64 (bt a0 x2),t0,wrap64 (bt a0 (j2)),t1⟩:S47)]) (wrap64 (x2+8)))else(none)))else(none))else(none))else(none)))else(none))else(none))else(none))else(none))else(none))=some (r1,r2):=by first|(rw[j3]at H;exact H)|(simp only[j3]at H |-;exact H)
        have j4:(IntKind.i64.wrap (x2+1))=j2:=(i64_w _).trans j3
        by_cases cq:0<=(j2)
        ·rw[if_pos cq]at H
         have cr:=decide_eq_true cq;clear cq
         by_cases cs:(j2)<(a0.size:Int)
         ·rw[if_pos cs]at H
          have ct:=decide_eq_true cs;clear cs;obtain⟨j5,j6⟩:∃j_:Int,(wrap64 (x2+2))=j_:=⟨_,rfl⟩
          replace H:(if 0<=(j5)then(if(j5)<=(wrap64 (x2+6))then(if(wrap64 (x2+6))<=(a0.size:Int)then((lsa_Number.f j0 (a0.extract ((j5):Int).toNat ((wrap64 (x2+6)):Int).toNat)).bind λt0=>(if 0<=(wrap64 (x2+6))then(if(wrap64 (x2+6))<=(wrap64 (x2+8))then(if(wrap64 (x2+8))<=(a0.size:Int)then((lsa_Number.f j0 (a0.extract ((wrap64 (x2+6)):Int).toNat ((wrap64 (x2+8)):Int).toNat)).bind λt1=>(if x1.length<4398046511104 then(ack_Get.l0 j0 a0 (x1++[(⟨wrap64 (bt a0 x2),t0,wrap64 (bt a0 (j2)),t1⟩:S47)]) (wrap64 (x2+8)))else(none)))else(none))else(none))else(none)))else(none))else(none))else(none))=some (r1,r2):=by first|(rw[j6]at H;exact H)|(simp only[j6]at H |-;exact H)
          have j7:(IntKind.i64.wrap (x2+2))=j5:=(i64_w _).trans j6
          by_cases cu:0<=(j5)
          ·rw[if_pos cu]at H
           have cv:=eq_true cu;have cw:=decide_eq_true cu;clear cu
           by_cases cx:(j5)<=(wrap64 (x2+6))
           ·rw[if_pos cx]at H
            have cy:=eq_true cx;have cz:=decide_eq_true cx
            by_cases c16:(wrap64 (x2+6))<=(a0.size:Int)
            ·rw[if_pos c16]at H
             have c02:=eq_true c16;have c04:=decide_eq_true c16;obtain⟨t0,A0,H⟩:=bsE H;(try dsimp only at H);have A1:=Aside0.mk A0;clear A0;obtain⟨j8,j9⟩:∃j_:Int,(wrap64 (x2+6))=j_:=⟨_,rfl⟩
             replace H:(if 0<=(j8)then(if(j8)<=(wrap64 (x2+8))then(if(wrap64 (x2+8))<=(a0.size:Int)then((lsa_Number.f j0 (a0.extract ((j8):Int).toNat ((wrap64 (x2+8)):Int).toNat)).bind λt1=>(if x1.length<4398046511104 then(ack_Get.l0 j0 a0 (x1++[(⟨wrap64 (bt a0 x2),t0,wrap64 (bt a0 (j2)),t1⟩:S47)]) (wrap64 (x2+8)))else(none)))else(none))else(none))else(none))=some (r1,r2):=by first|(rw[j9]at H;exact H)|(simp only[j9]at H |-;exact H)
             (try rw[j9]at cy)
             (try rw[j9]at cz)
             (try rw[j9]at cx)
             (try rw[j9]at c02)
             (try rw[j9]at c04)
             (try rw[j9]at c16)
             (try rw[j9]at A1)
             have ja:(IntKind.i64.wrap (x2+6))=j8:=(i64_w _).trans j9
             by_cases c19:0<=(j8)
             ·rw[if_pos c19]at H
              have c09:=eq_true c19;have c0b:=decide_eq_true c19;clear c19
              by_cases c20:(j8)<=(wrap64 (x2+8))
              ·rw[if_pos c20]at H
               have c0g:=eq_true c20;have c0i:=decide_eq_true c20
               by_cases c21:(wrap64 (x2+8))<=(a0.size:Int)
               ·rw[if_pos c21]at H
                have c0m:=eq_true c21;have c0o:=decide_eq_true c21;obtain⟨t1,A2,H⟩:=bsE H;(try dsimp only at H);have A3:=Aside0.mk A2;clear A2
                by_cases c23:x1.length<4398046511104
                ·rw[if_pos c23]at H
                 have L0:=Aside0.mk c23;clear c23;obtain⟨y4,Y0⟩:∃y_:List (S47),y_=(x1++[(⟨wrap64 (bt a0 x2),t0,wrap64 (bt a0 (j2)),t1⟩:S47)]):=⟨_,rfl⟩
                 replace H:(ack_Get.l0 j0 a0 y4 (wrap64 (x2+8)))=some (r1,r2):=by first|(rw[Y0];with_reducible exact H)|(have H2_:=(Option.bind_some _ _).symm.trans H;rw[Y0];with_reducible exact H2_)|(have H2_:=(Option.bind_some _ _).symm.trans H;with_reducible exact H2_)|with_reducible exact H|(rw[Y0];exact H)|exact H
                 have Y1:=Aside0.mk Y0;clear Y0;have H':=Aside0.mk H;clear H;(try go_wp2);replace O0:=Aside0.mk (Kd.R_drew O0.out);replace HB:=Aside0.mk (below_drew1 HB.out);have p8:0<=(x2:Int):=of_decide_eq_true mE;have q8:x2<(a0.size:Int):=of_decide_eq_true mE;have hx8:=bt_at a0 x2;replace p8:=eq_true p8;replace q8:=eq_true q8;have p4:0<=((j2):Int):=of_decide_eq_true mE;have q3:(j2)<(a0.size:Int):=of_decide_eq_true mE;have hx12:=bt_at a0 (j2);replace p4:=eq_true p4;replace q3:=eq_true q3;refine start_ (n:=28) (S:=λw'=>True) (ds:=[]) mk_28_0 mAD rfl rfl trivial (λhHeld=>?_);refine with_tabW ack_Get.tab5 ack_Get.bits5 (λHT_ HW_=>?_);generalize wc.drew=w2 at O0 HB hHeld |-;refine pV 0 20 mk_28_1 ?_;refine pV 1 21 mk_28_2 ?_;refine pV 2 22 mk_28_3 ?_;refine pV 5 25 #[true,true,true,false,false,true,false,false,false,false,false,false,false,false,false,false,false,false,false,false,false,false,false,false,false,false,false,false] ?_;refine pV 6 26 #[true,true,true,false,false,true,true,false,false,false,false,false,false,false,false,false,false,false,false,false,false,false,false,false,false,false,false,false] ?_;refine pV 7 27 #[true,true,true,false,false,true,true,true,false,false,false,false,false,false,false,false,false,false,false,false,false,false,false,false,false,false,false,false] ?_;refine pV 10 30 #[true,true,true,false,false,true,true,true,false,false,true,false,false,false,false,false,false,false,false,false,false,false,false,false,false,false,false,false] ?_;refine pV 11 31 #[true,true,true,false,false,true,true,true,false,false,true,true,false,false,false,false,false,false,false,false,false,false,false,false,false,false,false,false] ?_;refine pV 12 32 #[true,true,true,false,false,true,true,true,false,false,true,true,true,false,false,false,false,false,false,false,false,false,false,false,false,false,false,false] ?_;refine pV 13 33 #[true,true,true,false,false,true,true,true,false,false,true,true,true,true,false,false,false,false,false,false,false,false,false,false,false,false,false,false] ?_;refine pV 14 34 #[true,true,true,false,false,true,true,true,false,false,true,true,true,true,true,false,false,false,false,false,false,false,false,false,false,false,false,false] ?_;refine pV 15 35 #[true,true,true,false,false,true,true,true,false,false,true,true,true,true,true,true,false,false,false,false,false,false,false,false,false,false,false,false] ?_;refine pV 17 37 #[true,true,true,false,false,true,true,true,false,false,true,true,true,true,true,true,false,true,false,false,false,false,false,false,false,false,false,false] ?_;refine pV 18 38 #[true,true,true,false,false,true,true,true,false,false,true,true,true,true,true,true,false,true,true,false,false,false,false,false,false,false,false,false] ?_;refine pV 19 39 #[true,true,true,false,false,true,true,true,false,false,true,true,true,true,true,true,false,true,true,true,false,false,false,false,false,false,false,false] ?_;refine pV 20 40 #[true,true,true,false,false,true,true,true,false,false,true,true,true,true,true,true,false,true,true,true,true,false,false,false,false,false,false,false] ?_;refine pV 21 41 #[true,true,true,false,false,true,true,true,false,false,true,true,true,true,true,true,false,true,true,true,true,true,false,false,false,false,false,false] ?_;refine pV 22 42 #[true,true,true,false,false,true,true,true,false,false,true,true,true,true,true,true,false,true,true,true,true,true,true,false,false,false,false,false] ?_;refine take_ (i:=3) (N:=some 23) (v:=?_) (a':=?_) #[true,true,true,true,false,true,true,true,false,false,true,true,true,true,true,true,false,true,true,true,true,true,true,false,false,false,false,false] rfl rfl (take_ofW HT_.out HW_.out mAD) (λ_ _ _ h=>h) (Or.inl ⟨by rfl,?_⟩) hHeld ?_ ?_;rotate_left;(·intro w' _;go_simp;with_reducible rfl);rotate_left;(·simp only[Act.put,List.setIfInBounds_toArray,List.set_cons_zero,List.set_cons_succ,i64_w,i32_w];rfl);refine pV 4 24 #[true,true,true,true,true,true,true,true,false,false,true,true,true,true,true,true,false,true,true,true,true,true,true,false,false,false,false,false] ?_;refine take_ (i:=8) (N:=some 28) (v:=?_) (a':=?_) #[true,true,true,true,true,true,true,true,true,false,true,true,true,true,true,true,false,true,true,true,true,true,true,false,false,false,false,false] rfl rfl (take_ofW HT_.out HW_.out mAD) (λ_ _ _ h=>h) (Or.inl ⟨by rfl,?_⟩) hHeld ?_ ?_;rotate_left;(·intro w' _;go_simp;with_reducible rfl);rotate_left;(·simp only[Act.put,List.setIfInBounds_toArray,List.set_cons_zero,List.set_cons_succ,i64_w,i32_w];rfl);refine pV 9 29 #[true,true,true,true,true,true,true,true,true,true,true,true,true,true,true,true,false,true,true,true,true,true,true,false,false,false,false,false] ?_
                 refine oV 16 (some 36) mk_28_23 (h:=λK hK=>?_);refine goes_ Try.func58 mAD rfl #[.string (a0.extract ((j5):Int).toNat ((j8):Int).toNat)] mBV rfl rfl mCK ?_
                 with_reducible refine(lsa_Number.calls j0 (a0.extract ((j5):Int).toNat ((j8):Int).toNat) t0 _ A1.out).mono ?_
                 rintro e w' ⟨rfl,⟨nd,rfl⟩⟩;refine⟨_,rfl,?_⟩;refine hK.out _ _ trivial (λhHeld=>?_);clear hK K;refine nV 36 (h:=?_);refine oV 23 (some 43) mk_28_24 (h:=λK hK=>?_);refine goes_ Try.func58 mAD rfl #[.string (a0.extract ((j8):Int).toNat ((wrap64 (x2+8)):Int).toNat)] mBV rfl rfl mBO ?_
                 with_reducible refine(lsa_Number.calls j0 (a0.extract ((j8):Int).toNat ((wrap64 (x2+8)):Int).toNat) t1 _ A3.out).mono ?_
                 rintro e w' ⟨rfl,⟨nd,rfl⟩⟩;refine⟨_,rfl,?_⟩;refine hK.out _ _ trivial (λhHeld=>?_);clear hK K;refine nV 43 (h:=?_);refine pV 24 44 mk_28_25 ?_;refine oV 25 (some 45) mk_28_26 (h:=λK hK=>?_);refine value_ (w1:=?_) (v:=?_) mBV rfl ?_ ?_;rotate_left 2
                 ·go_simp
                  constructor
                  ·rfl
                  ·rfl
                 refine hK.out _ _ trivial (λhHeld=>?_);clear hK K;refine nV 45 (h:=?_);refine oV 26 (some 46) mk_28_27 (h:=λK hK=>?_);refine Kd.R_append_step k47 (w0:=w) w.heap.size mBV (.tmp 20) (.tmp 45) 24 47 (.agg #[(.int .i64 0),(.int .i64 0),(.int .i64 0),(.int .i64 0)]) 32 rfl Try.underlying24 info47 rfl mAQ mBQ u4 x1 (⟨wrap64 (bt a0 x2),t0,wrap64 (bt a0 (j2)),t1⟩:S47) [.int .i64 (wrap64 (bt a0 x2)),.int .i64 t0,.int .i64 (wrap64 (bt a0 (j2))),.int .i64 t1] (λ_=>True) (λ_=>False) rfl rfl ?aP (λ_ hk=>hk.elim) ?aF ?aO ?aB ?aS ?aL ?_
                 (case aP=>exact k47_mkM _ _ _ (⟨wrap64 (bt a0 x2),t0,wrap64 (bt a0 (j2)),t1⟩:S47))
                 (case aB=>exact mA)
                 (case aF=>exact(λ_ _=>trivial))
                 (case aO=>exact mN)
                 (case aS=>exact(below_size mA))
                 (case aL=>have:=L0.out;omega)
                 intro v349 w3 ho hb hg hat;rw[<-Y1.out]at ho;replace HB:=Aside0.mk (hb);have O1:=Aside0.mk (ho);clear O0;clear ho hb hg hat;refine hK.out _ _ trivial (λhHeld=>?_);clear hK K;refine nV 46 (h:=?_);refine pV 27 4 mk_28_28 ?_;refine done_ (done_of HT_.out mAD) ?_;(try go_wp2)
                 go_roundg j0
                 case measure=>have:=HK1.out;have:=HJ1.out;omega
                 case rel=>exact⟨(y4),(wrap64 (x2+8)),mK,H',⟨by have:=HK1.out;have:=HJ1.out;omega⟩,⟨by(with_reducible repeat (first|apply Kd.R_alloc|apply Kd.R_drewN|apply Kd.R_drew));exact O1.out⟩,⟨by repeat (first|(with_reducible first|exact HB.out|apply below_alloc|apply pw_below_drewN|apply below_drew1)|exact HB.out)⟩⟩
                ·rw[if_neg c23]at H
                 exact absurd H mAM
               ·rw[if_neg c21]at H
                exact absurd H mAM
              ·rw[if_neg c20]at H
               exact absurd H mAM
             ·rw[if_neg c19]at H
              exact absurd H mAM
            ·rw[if_neg c16]at H
             exact absurd H mAM
           ·rw[if_neg cx]at H
            exact absurd H mAM
          ·rw[if_neg cu]at H
           exact absurd H mAM
         ·rw[if_neg cs]at H
          exact absurd H mAM
        ·rw[if_neg cq]at H
         exact absurd H mAM
       ·rw[if_neg c7]at H
        exact absurd H mAM
      ·rw[if_neg c6]at H
       exact absurd H mAM
     ·replace c5:=Bool.eq_false_iff.mpr c5
      subst c5;rw[if_neg (show ¬(false=true)by decide)]at H;obtain⟨⟨t2,t3⟩,A4,H⟩:=bsE H;(try dsimp only at H);have A5:=Aside0.mk A4;clear A4
      by_cases c27:t3=0
      ·rw[if_pos c27]at H
       have c1c:=beq_iff_eq.mpr c27;have c1e:=bne_eq_false_iff_eq.mpr c27;clear c27
       by_cases c28:t2.toList=a0.toList
       ·rw[if_pos c28]at H
        have c1j:=beq_iff_eq.mpr c28;have c1l:=bne_eq_false_iff_eq.mpr c28;clear c28;simp only[Option.some.injEq,Prod.mk.injEq]at H;obtain⟨rfl,rfl⟩:=H;obtain⟨s3,s4,s5⟩:=Kd.R_slice O0.out;subst s5
        go_wp2_with (first|((with_reducible refine gate_callee (f:=48) rfl ?_);refine cLV (some 49) Try.func48 #[.slice s3 x1.length s4] (h:=?_);(with_reducible refine(ack_Put.calls j0 _ _ x1 t2 t3 _ ?side1 ?side2 A5.out).mono ?_);(case side1=>repeat (first|exact(Kd.R_reads' O0.out).2.2 |(with_reducible refine Kd.C_alloc ?_ _)|(with_reducible refine Kd.C_drewN ?_ _)|(with_reducible refine Kd.C_drew ?_)));(case side2=>exact(Kd.R_reads' O0.out).2.1);rintro e w4 ⟨rfl,hb⟩;refine⟨_,rfl,?_⟩;replace O0:=Aside0.mk (Kd.R_below mN hb);replace HB:=Aside0.mk (below_step mA hb);(try clear hb)))
        go_ret2
        exact⟨_,by first|rfl|(simp[errW_none,errW_some] <;> rfl)|(simp[*,errW_none,errW_some] <;> rfl),by(with_reducible repeat (first|apply Kd.R_alloc|apply Kd.R_drewN|apply Kd.R_drew));exact O0.out,by repeat (first|(with_reducible first|exact HB.out|apply below_alloc|apply pw_below_drewN|apply below_drew1)|exact HB.out)⟩
       ·rw[if_neg c28]at H
        have c1j:=beq_eq_false_iff_ne.mpr c28;have c1l:=bne_iff_ne.mpr c28;simp only[Option.some.injEq,Prod.mk.injEq]at H;obtain⟨rfl,rfl⟩:=H;obtain⟨s6,s7,s8⟩:=Kd.R_slice O0.out;subst s8
        go_wp2_with (first|((with_reducible refine gate_callee (f:=48) rfl ?_);refine cLV (some 49) Try.func48 #[.slice s6 x1.length s7] (h:=?_);(with_reducible refine(ack_Put.calls j0 _ _ x1 t2 t3 _ ?side1 ?side2 A5.out).mono ?_);(case side1=>repeat (first|exact(Kd.R_reads' O0.out).2.2 |(with_reducible refine Kd.C_alloc ?_ _)|(with_reducible refine Kd.C_drewN ?_ _)|(with_reducible refine Kd.C_drew ?_)));(case side2=>exact(Kd.R_reads' O0.out).2.1);rintro e w5 ⟨rfl,hb⟩;refine⟨_,rfl,?_⟩;replace O0:=Aside0.mk (Kd.R_below mN hb);replace HB:=Aside0.mk (below_step mA hb);(try clear hb)))
        go_ret2
        exact⟨_,by first|rfl|(simp[errW_none,errW_some] <;> rfl)|(simp[*,errW_none,errW_some] <;> rfl),by first|exact Kd.R_nil _ _ _ _ _|exact Kd.N_nil _ _ _ _ _|exact Kd.V_nil _ _ _ _ _|exact Kd.Q_nil _ _ _ _ _|exact Kd.S_nil _ _ _ _ _,by repeat (first|(with_reducible first|exact HB.out|apply below_alloc|apply pw_below_drewN|apply below_drew1)|exact HB.out)⟩
      ·rw[if_neg c27]at H
       have c1c:=beq_eq_false_iff_ne.mpr c27;have c1e:=bne_iff_ne.mpr c27;simp only[Option.some.injEq,Prod.mk.injEq]at H;obtain⟨rfl,rfl⟩:=H;obtain⟨s9,sa,sb⟩:=Kd.R_slice O0.out;subst sb
       go_wp2_with (first|((with_reducible refine gate_callee (f:=48) rfl ?_);refine cLV (some 49) Try.func48 #[.slice s9 x1.length sa] (h:=?_);(with_reducible refine(ack_Put.calls j0 _ _ x1 t2 t3 _ ?side1 ?side2 A5.out).mono ?_);(case side1=>repeat (first|exact(Kd.R_reads' O0.out).2.2 |(with_reducible refine Kd.C_alloc ?_ _)|(with_reducible refine Kd.C_drewN ?_ _)|(with_reducible refine Kd.C_drew ?_)));(case side2=>exact(Kd.R_reads' O0.out).2.1);rintro e w6 ⟨rfl,hb⟩;refine⟨_,rfl,?_⟩;replace O0:=Aside0.mk (Kd.R_below mN hb);replace HB:=Aside0.mk (below_step mA hb);(try clear hb)))
       go_ret2
       exact⟨_,by first|rfl|(simp[errW_none,errW_some] <;> rfl)|(simp[*,errW_none,errW_some] <;> rfl),by first|exact Kd.R_nil _ _ _ _ _|exact Kd.N_nil _ _ _ _ _|exact Kd.V_nil _ _ _ _ _|exact Kd.Q_nil _ _ _ _ _|exact Kd.S_nil _ _ _ _ _,by repeat (first|(with_reducible first|exact HB.out|apply below_alloc|apply pw_below_drewN|apply below_drew1)|exact HB.out)⟩
def packet_Get.j0:Nat->ByteArray->Int->Int->Bool->Option (Int × Int × List Int × (List (S45)) × (List (S47)) × Int)
 |0,_,_,_,_=>none
 |k+1,x0,x4,x5,x23=>if x23=true then(some (0,0,([]:List Int),([]:List (S45)),([]:List (S47)),1200))else(if 12<=(x0.size:Int)then(if x4=1 then((hello_Get.f k (x0.extract 12 x0.size)).bind λbt359=>(if bt359.2=0 then(some (x4,x5,bt359.1,([]:List (S45)),([]:List (S47)),0))else(some (0,0,([]:List Int),([]:List (S45)),([]:List (S47)),1200))))else(if x4=4 then((update_Get.f k (x0.extract 12 x0.size)).bind λbt363=>(if bt363.2=0 then(some (x4,x5,([]:List Int),bt363.1,([]:List (S47)),0))else(some (0,0,([]:List Int),([]:List (S45)),([]:List (S47)),1200))))else((ack_Get.f k (x0.extract 12 x0.size)).bind λbt367=>(if bt367.2=0 then(some (x4,x5,([]:List Int),([]:List (S45)),bt367.1,0))else(some (0,0,([]:List Int),([]:List (S45)),([]:List (S47)),1200))))))else(none))
def packet_Get.f (k:Nat) (a0:ByteArray):Option (Int × Int × List Int × (List (S45)) × (List (S47)) × Int):=(head_Get.f k a0).bind λbt354=>(if bt354.2.2.2=0 then(packet_Get.j0 k a0 bt354.1 bt354.2.1 (bt354.2.2.1 !=(a0.size:Int)))else(packet_Get.j0 k a0 bt354.1 bt354.2.1 true))
theorem packet_Get.mono_l:∀k,(∀y0 y1 y2 y3,LeO (packet_Get.j0 k y0 y1 y2 y3) (packet_Get.j0 (k+1) y0 y1 y2 y3))
 |0=>λ_ _ _ _ r h=>by simp[packet_Get.j0]at h
 |k+1=>by
  have ih0:=packet_Get.mono_l k
  ·intro y0 y1 y2 y3
   unfold packet_Get.j0
   repeat' (with_reducible first|exact ih0 _ _ _ _|exact ack_Get.mono _ _|exact head_Get.mono _ _|exact hello_Get.mono _ _|exact update_Get.mono _ _|exact LeO.refl _|exact LeO.none _|refine LeO.ite ?_ ?_ |refine LeO.bind ?_ (λ_=>?_))
theorem packet_Get.mono:∀a0 k,LeO (packet_Get.f k a0) (packet_Get.f (k+1) a0):=by
 intro a0 k;have ih0:=packet_Get.mono_l k;unfold packet_Get.f
 repeat' (with_reducible first|exact ih0 _ _ _ _|exact ack_Get.mono _ _|exact head_Get.mono _ _|exact hello_Get.mono _ _|exact update_Get.mono _ _|exact LeO.refl _|exact LeO.none _|refine LeO.ite ?_ ?_ |refine LeO.bind ?_ (λ_=>?_))
set_option maxHeartbeats 8000000 in
set_option maxRecDepth 100000 in
theorem packet_Get.calls (k:Nat) (a0:ByteArray) (r1:Int) (r2:Int) (r3:List Int) (r4:List (S45)) (r5:List (S47)) (r6:Int) (w:World) (h:packet_Get.f k a0=some (r1,r2,r3,r4,r5,r6)):
  Calls Try.prog 11 #[.string a0] w λe w'=>∃v2_ v3_ v4_:Value,e= .returned (.tuple #[.agg #[.int .i64 r1,.int .i64 r2,v2_,v3_,v4_],.int .i64 r6])/\Kd.R (Kd.int .i64) 3 w' w.heap.size (λ_=>True) v2_ r3/\Kd.S k45 45 w' w.heap.size (λ_=>True) v3_ r4/\Kd.R k47 47 w' w.heap.size (λ_=>True) v4_ r5/\Below w.heap.size w w':=by
 have hu26:=Try.underlying26;have HB:=Aside0.mk (Below.refl w.heap.size w);have H:((head_Get.f k a0).bind λbt354=>(if bt354.2.2.2=0 then(packet_Get.j0 k a0 bt354.1 bt354.2.1 (bt354.2.2.1 !=(a0.size:Int)))else(packet_Get.j0 k a0 bt354.1 bt354.2.1 true)))=some (r1,r2,r3,r4,r5,r6):=h;clear h;obtain⟨⟨t0,t1,t2,t3⟩,A0,H⟩:=bsE H;(try dsimp only at H);have A2:=Aside0.mk A0;clear A0;have K0:=Aside0.mk H;clear H
 go_enter Try.func11,Try.ntmps11
 go_upto_region 2 with(first|((with_reducible refine gate_dst (N:=2) rfl ?_);(try (refine gate_guard mBV ?_;dsimp only));refine bxV (N:=2) (cs:=#[.int .i64 0,.int .i64 0,.slice none 0 0,.slice none 0 0,.slice none 0 0]) (t:=26) (h:=?_);intro g0 hg w4 hbox hb;have B0:=Aside0.mk (hbox);have G0:=Aside0.mk ((mJ:w.heap.size<=g0));have G1:=Aside0.mk ((mJ:w.heap.size<=g0));replace HB:=Aside0.mk (below_step mA hb);clear hb hbox hg)|((with_reducible refine gate_callee (f:=26) rfl ?_);refine cLV (some 11) Try.func26 #[.string a0] (h:=?_);(with_reducible refine(head_Get.calls k a0 t0 t1 t2 t3 _ A2.out).mono ?_);rintro e w5 ⟨rfl,hb⟩;refine⟨_,rfl,?_⟩;replace B0:=Aside0.mk (blk_below mB hb);replace HB:=Aside0.mk (below_step mC hb);(try clear hb)))
 (try simp only[Act.put,List.setIfInBounds_toArray,List.set_cons_zero,List.set_cons_succ])
 go_cut [23] (λv23 wc=>∃(kq:Nat) (x1:Bool),v23= .bool x1/\Aside0 (packet_Get.j0 kq a0 t0 t1 x1=some (r1,r2,r3,r4,r5,r6))/\Aside0 (kq<=k)/\Aside0 (wc.heap[g0]? =some (.cells #[.int .i64 0,.int .i64 0,(.slice none 0 0),(.slice none 0 0),(.slice none 0 0)] 26 (0,0)))/\Aside0 (Below w.heap.size w wc))
 case first=>
  have H:=K0.out;clear K0
  by_cases c6:t3=0
  ·rw[if_pos c6]at H
   have c4:=beq_iff_eq.mpr c6;have c8:=bne_eq_false_iff_eq.mpr c6;clear c6
   (first|rw[c4]|(simp only[i64_w,i32_w];rw[c4])|skip)
   have H':=Aside0.mk H;clear H;go_wp2;go_meet
   case rel=>exact⟨_,((t2 !=(a0.size:Int))),mK,H',⟨by first|omega|exact Nat.le_refl _⟩,⟨by(with_reducible repeat (first|refine blk_drewN ?_ _|refine blk_drew ?_ |refine blk_alloc ?_ _));exact B0.out⟩,⟨by repeat (first|(with_reducible first|exact HB.out|apply below_alloc|apply pw_below_drewN|apply below_drew1|refine below_set ?_ G1.out)|exact HB.out)⟩⟩
  ·rw[if_neg c6]at H
   have c4:=beq_eq_false_iff_ne.mpr c6;have c8:=bne_iff_ne.mpr c6
   (first|rw[c4]|(simp only[i64_w,i32_w];rw[c4])|skip)
   have H':=Aside0.mk H;clear H;go_wp2;go_meet
   case rel=>exact⟨_,(true),mK,H',⟨by first|omega|exact Nat.le_refl _⟩,⟨by(with_reducible repeat (first|refine blk_drewN ?_ _|refine blk_drew ?_ |refine blk_alloc ?_ _));exact B0.out⟩,⟨by repeat (first|(with_reducible first|exact HB.out|apply below_alloc|apply pw_below_drewN|apply below_drew1|refine below_set ?_ G1.out)|exact HB.out)⟩⟩
 case rest=>
  clear K0;(try clear c1);(try clear c2);(try clear p2);(try clear c6);(try clear c4);(try clear c8);obtain⟨kq,x1,rfl,HA,HJ2,B0,HB⟩:=hcut;cases kq with
  |zero=>exact absurd HA.out (by simp[packet_Get.j0])
  |succ j1=>
   have H:=HA.out;clear HA;simp only[packet_Get.j0]at H
   by_cases c7:x1=true
   ·subst c7
    rw[if_pos rfl]at H;simp only[Option.some.injEq,Prod.mk.injEq]at H;obtain⟨rfl,rfl,rfl,rfl,rfl,rfl⟩:=H;obtain⟨z0,z1,z2,z3,z4⟩:=bc5 B0.out;have z5:=blk_frozen B0.out
    go_wp2_with (first|((with_reducible refine gate_store (t:=26) (p:=2) rfl ?_);refine stV (t:=26) (p:=2) (w1:=(((((wc.setCell ⟨g0,0,none⟩ (.int .i64 0)).setCell ⟨g0,1,none⟩ (.int .i64 0)).setCell ⟨g0,2,none⟩ (.slice none 0 0)).setCell ⟨g0,3,none⟩ (.slice none 0 0)).setCell ⟨g0,4,none⟩ (.slice none 0 0))) (h:=?_);intro w9 hw;replace B0:Aside0 (w9.heap[g0]? =some (.cells #[.int .i64 0,.int .i64 0,.slice none 0 0,.slice none 0 0,.slice none 0 0] 26 (0,0))):=⟨mI⟩;replace HB:Aside0 (Below w.heap.size w w9):=⟨mBI⟩;clear hw))
    refine bodyPost_ret (results_ct rfl _ _ g0 26 #[.int .i64 0,.int .i64 0,.slice none 0 0,.slice none 0 0,.slice none 0 0] (0,0) _ rfl mB Try.underlying26 rfl mAD) rfl ?_;exact⟨_,_,_,by first|rfl|(simp[errW_none,errW_some] <;> rfl)|(simp[*,errW_none,errW_some] <;> rfl),by first|exact Kd.R_nil _ _ _ _ _|exact Kd.N_nil _ _ _ _ _|exact Kd.V_nil _ _ _ _ _|exact Kd.Q_nil _ _ _ _ _|exact Kd.S_nil _ _ _ _ _,by first|exact Kd.S_nil _ _ _ _ _|exact Kd.N_nil _ _ _ _ _|exact Kd.V_nil _ _ _ _ _|exact Kd.Q_nil _ _ _ _ _|exact Kd.R_nil _ _ _ _ _,by first|exact Kd.R_nil _ _ _ _ _|exact Kd.N_nil _ _ _ _ _|exact Kd.V_nil _ _ _ _ _|exact Kd.Q_nil _ _ _ _ _|exact Kd.S_nil _ _ _ _ _,by repeat (first|(with_reducible first|exact HB.out|apply below_alloc|apply pw_below_drewN|apply below_drew1|refine below_set ?_ G1.out)|exact HB.out)⟩
   ·replace c7:=Bool.eq_false_iff.mpr c7
    subst c7;rw[if_neg (show ¬(false=true)by decide)]at H
    by_cases ck:12<=(a0.size:Int)
    ·rw[if_pos ck]at H
     have c10p:12<=a0.size:=by omega
     have cl:=eq_true ck;have cm:=decide_eq_true ck;clear ck
     by_cases cn:t0=1
     ·rw[if_pos cn]at H
      have co:=beq_iff_eq.mpr cn;have cp:=bne_eq_false_iff_eq.mpr cn;clear cn;obtain⟨⟨t4,t5⟩,A3,H⟩:=bsE H;(try dsimp only at H);have A4:=Aside0.mk A3;clear A3
      by_cases cq:t5=0
      ·rw[if_pos cq]at H
       have cr:=beq_iff_eq.mpr cq;have ct:=bne_eq_false_iff_eq.mpr cq;clear cq;simp only[Option.some.injEq,Prod.mk.injEq]at H;obtain⟨rfl,rfl,rfl,rfl,rfl,rfl⟩:=H
       go_wp2_with (first|((with_reducible refine gate_dst (N:=8) rfl ?_);(try (refine gate_guard mBV ?_;dsimp only));refine bxV (N:=8) (cs:=#[.int .i64 0,.int .i64 0,.slice none 0 0,.slice none 0 0,.slice none 0 0]) (t:=26) (h:=?_);intro g1 hg wa hbox hb;have B1:=Aside0.mk (hbox);have G2:=Aside0.mk ((mT:w.heap.size<=g1));have G3:=Aside0.mk ((mT:w.heap.size<=g1));replace HB:=Aside0.mk (below_step mC hb);have N0:=Aside0.mk ((mAB:g0≠g1));have N1:=Aside0.mk ((mAC:g1≠g0));replace B0:=Aside0.mk (blk_below mB hb);clear hb hbox hg;have n0:=N1.out;have n1:=N0.out;obtain⟨z6,z7,z8,z9,za⟩:=bc5 B1.out;have zb:=blk_frozen B1.out)|((with_reducible refine gate_store (t:=26) (p:=8) rfl ?_);refine stV (t:=26) (p:=8) (w1:=(((((wa.setCell ⟨g1,0,none⟩ (.int .i64 t0)).setCell ⟨g1,1,none⟩ (.int .i64 t1)).setCell ⟨g1,2,none⟩ (.slice none 0 0)).setCell ⟨g1,3,none⟩ (.slice none 0 0)).setCell ⟨g1,4,none⟩ (.slice none 0 0))) (h:=?_);intro wd hw;replace B0:Aside0 (wd.heap[g0]? =some (.cells #[.int .i64 0,.int .i64 0,.slice none 0 0,.slice none 0 0,.slice none 0 0] 26 (0,0))):=⟨mG⟩;replace B1:Aside0 (wd.heap[g1]? =some (.cells #[.int .i64 t0,.int .i64 t1,.slice none 0 0,.slice none 0 0,.slice none 0 0] 26 (0,0))):=⟨mF⟩;replace HB:Aside0 (Below w.heap.size w wd):=⟨mAR⟩;clear hw)|((with_reducible refine gate_callee (f:=27) rfl ?_);refine cLV (some 41) Try.func27 #[.string (a0.extract 12 a0.size)] (h:=?_);(with_reducible refine(hello_Get.calls j1 (a0.extract 12 a0.size) t4 t5 _ A4.out).mono ?_);rintro e we ⟨v361,rfl,ho0,hb⟩;refine⟨_,rfl,?_⟩;have O0:=Aside0.mk (Kd.R_lower ho0 (below_size mD));replace B0:=Aside0.mk (blk_below mB hb);replace B1:=Aside0.mk (blk_below mL hb);replace HB:=Aside0.mk (below_step mD hb);(try clear hb);(try clear ho0);obtain⟨s0,s1,s2⟩:=Kd.R_slice O0.out;subst s2;obtain⟨zc,zd,ze,zf,zg⟩:=bc5 B1.out;have zh:=blk_frozen B1.out)|((with_reducible refine gate_store (t:=22) (p:=44) rfl ?_);refine stV (t:=22) (p:=44) (w1:=(we.setCell ⟨g1,2,none⟩ (.slice s0 t4.length s1))) (h:=?_);intro wg hw;replace O0:Aside0 (Kd.R (Kd.int .i64) 3 wg w.heap.size (λ_=>True) (.slice s0 t4.length s1) t4):=⟨mCC⟩;replace B0:Aside0 (wg.heap[g0]? =some (.cells #[.int .i64 0,.int .i64 0,.slice none 0 0,.slice none 0 0,.slice none 0 0] 26 (0,0))):=⟨mU⟩;replace B1:Aside0 (wg.heap[g1]? =some (.cells #[.int .i64 t0,.int .i64 t1,.slice s0 t4.length s1,.slice none 0 0,.slice none 0 0] 26 (0,0))):=⟨mAP⟩;replace HB:Aside0 (Below w.heap.size w wg):=⟨mAR⟩;clear hw;obtain⟨zi,zj,zk,zl,zm⟩:=bc5 B1.out;have zn:=blk_frozen B1.out;obtain⟨zo,zp,zq,zr,zs⟩:=bc5 B0.out;have zt:=blk_frozen B0.out)|((with_reducible refine gate_store (t:=26) (p:=2) rfl ?_);refine stV (t:=26) (p:=2) (w1:=(((((wg.setCell ⟨g0,0,none⟩ (.int .i64 t0)).setCell ⟨g0,1,none⟩ (.int .i64 t1)).setCell ⟨g0,2,none⟩ (.slice s0 t4.length s1)).setCell ⟨g0,3,none⟩ (.slice none 0 0)).setCell ⟨g0,4,none⟩ (.slice none 0 0))) (h:=?_);intro wi hw;replace O0:Aside0 (Kd.R (Kd.int .i64) 3 wi w.heap.size (λ_=>True) (.slice s0 t4.length s1) t4):=⟨mBE⟩;replace B0:Aside0 (wi.heap[g0]? =some (.cells #[.int .i64 t0,.int .i64 t1,.slice s0 t4.length s1,.slice none 0 0,.slice none 0 0] 26 (0,0))):=⟨mAI⟩;replace B1:Aside0 (wi.heap[g1]? =some (.cells #[.int .i64 t0,.int .i64 t1,.slice s0 t4.length s1,.slice none 0 0,.slice none 0 0] 26 (0,0))):=⟨mH⟩;replace HB:Aside0 (Below w.heap.size w wi):=⟨mAR⟩;clear hw))
       refine bodyPost_ret (results_ct rfl _ _ g0 26 #[.int .i64 t0,.int .i64 t1,.slice s0 t4.length s1,.slice none 0 0,.slice none 0 0] (0,0) _ rfl mB Try.underlying26 rfl mAD) rfl ?_;exact⟨_,_,_,by first|rfl|(simp[errW_none,errW_some] <;> rfl)|(simp[*,errW_none,errW_some] <;> rfl),by(with_reducible repeat (first|apply Kd.R_alloc|apply Kd.R_drewN|apply Kd.R_drew));exact O0.out,by first|exact Kd.S_nil _ _ _ _ _|exact Kd.N_nil _ _ _ _ _|exact Kd.V_nil _ _ _ _ _|exact Kd.Q_nil _ _ _ _ _|exact Kd.R_nil _ _ _ _ _,by first|exact Kd.R_nil _ _ _ _ _|exact Kd.N_nil _ _ _ _ _|exact Kd.V_nil _ _ _ _ _|exact Kd.Q_nil _ _ _ _ _|exact Kd.S_nil _ _ _ _ _,by repeat (first|(with_reducible first|exact HB.out|apply below_alloc|apply pw_below_drewN|apply below_drew1|refine below_set ?_ G1.out|refine below_set ?_ G3.out)|exact HB.out)⟩
      ·rw[if_neg cq]at H
       have cr:=beq_eq_false_iff_ne.mpr cq;have ct:=bne_iff_ne.mpr cq;simp only[Option.some.injEq,Prod.mk.injEq]at H;obtain⟨rfl,rfl,rfl,rfl,rfl,rfl⟩:=H
       go_wp2_with (first|((with_reducible refine gate_dst (N:=8) rfl ?_);(try (refine gate_guard mBV ?_;dsimp only));refine bxV (N:=8) (cs:=#[.int .i64 0,.int .i64 0,.slice none 0 0,.slice none 0 0,.slice none 0 0]) (t:=26) (h:=?_);intro g1 hg wj hbox hb;have B1:=Aside0.mk (hbox);have G2:=Aside0.mk ((mT:w.heap.size<=g1));have G3:=Aside0.mk ((mT:w.heap.size<=g1));replace HB:=Aside0.mk (below_step mC hb);have N0:=Aside0.mk ((mAB:g0≠g1));have N1:=Aside0.mk ((mAC:g1≠g0));replace B0:=Aside0.mk (blk_below mB hb);clear hb hbox hg;have n2:=N1.out;have n3:=N0.out;obtain⟨zu,zv,zw,zx,zy⟩:=bc5 B1.out;have zz:=blk_frozen B1.out)|((with_reducible refine gate_store (t:=26) (p:=8) rfl ?_);refine stV (t:=26) (p:=8) (w1:=(((((wj.setCell ⟨g1,0,none⟩ (.int .i64 t0)).setCell ⟨g1,1,none⟩ (.int .i64 t1)).setCell ⟨g1,2,none⟩ (.slice none 0 0)).setCell ⟨g1,3,none⟩ (.slice none 0 0)).setCell ⟨g1,4,none⟩ (.slice none 0 0))) (h:=?_);intro wl hw;replace B0:Aside0 (wl.heap[g0]? =some (.cells #[.int .i64 0,.int .i64 0,.slice none 0 0,.slice none 0 0,.slice none 0 0] 26 (0,0))):=⟨mG⟩;replace B1:Aside0 (wl.heap[g1]? =some (.cells #[.int .i64 t0,.int .i64 t1,.slice none 0 0,.slice none 0 0,.slice none 0 0] 26 (0,0))):=⟨mF⟩;replace HB:Aside0 (Below w.heap.size w wl):=⟨mAR⟩;clear hw)|((with_reducible refine gate_callee (f:=27) rfl ?_);refine cLV (some 41) Try.func27 #[.string (a0.extract 12 a0.size)] (h:=?_);(with_reducible refine(hello_Get.calls j1 (a0.extract 12 a0.size) t4 t5 _ A4.out).mono ?_);rintro e wm ⟨v361,rfl,ho0,hb⟩;refine⟨_,rfl,?_⟩;have O0:=Aside0.mk (Kd.R_lower ho0 (below_size mD));replace B0:=Aside0.mk (blk_below mB hb);replace B1:=Aside0.mk (blk_below mL hb);replace HB:=Aside0.mk (below_step mD hb);(try clear hb);(try clear ho0);obtain⟨s3,s4,s5⟩:=Kd.R_slice O0.out;subst s5;obtain⟨z00,z01,z02,z03,z04⟩:=bc5 B1.out;have z05:=blk_frozen B1.out)|((with_reducible refine gate_store (t:=22) (p:=44) rfl ?_);refine stV (t:=22) (p:=44) (w1:=(wm.setCell ⟨g1,2,none⟩ (.slice s3 t4.length s4))) (h:=?_);intro wo hw;replace O0:Aside0 (Kd.R (Kd.int .i64) 3 wo w.heap.size (λ_=>True) (.slice s3 t4.length s4) t4):=⟨mCB⟩;replace B0:Aside0 (wo.heap[g0]? =some (.cells #[.int .i64 0,.int .i64 0,.slice none 0 0,.slice none 0 0,.slice none 0 0] 26 (0,0))):=⟨mU⟩;replace B1:Aside0 (wo.heap[g1]? =some (.cells #[.int .i64 t0,.int .i64 t1,.slice s3 t4.length s4,.slice none 0 0,.slice none 0 0] 26 (0,0))):=⟨mAP⟩;replace HB:Aside0 (Below w.heap.size w wo):=⟨mAR⟩;clear hw;obtain⟨z06,z07,z08,z09,z0a⟩:=bc5 B0.out;have z0b:=blk_frozen B0.out)|((with_reducible refine gate_store (t:=26) (p:=2) rfl ?_);refine stV (t:=26) (p:=2) (w1:=(((((wo.setCell ⟨g0,0,none⟩ (.int .i64 0)).setCell ⟨g0,1,none⟩ (.int .i64 0)).setCell ⟨g0,2,none⟩ (.slice none 0 0)).setCell ⟨g0,3,none⟩ (.slice none 0 0)).setCell ⟨g0,4,none⟩ (.slice none 0 0))) (h:=?_);intro wq hw;replace O0:Aside0 (Kd.R (Kd.int .i64) 3 wq w.heap.size (λ_=>True) (.slice s3 t4.length s4) t4):=⟨mBH⟩;replace B0:Aside0 (wq.heap[g0]? =some (.cells #[.int .i64 0,.int .i64 0,.slice none 0 0,.slice none 0 0,.slice none 0 0] 26 (0,0))):=⟨mI⟩;replace B1:Aside0 (wq.heap[g1]? =some (.cells #[.int .i64 t0,.int .i64 t1,.slice s3 t4.length s4,.slice none 0 0,.slice none 0 0] 26 (0,0))):=⟨mH⟩;replace HB:Aside0 (Below w.heap.size w wq):=⟨mAR⟩;clear hw))
       refine bodyPost_ret (results_ct rfl _ _ g0 26 #[.int .i64 0,.int .i64 0,.slice none 0 0,.slice none 0 0,.slice none 0 0] (0,0) _ rfl mB Try.underlying26 rfl mAD) rfl ?_;exact⟨_,_,_,by first|rfl|(simp[errW_none,errW_some] <;> rfl)|(simp[*,errW_none,errW_some] <;> rfl),by first|exact Kd.R_nil _ _ _ _ _|exact Kd.N_nil _ _ _ _ _|exact Kd.V_nil _ _ _ _ _|exact Kd.Q_nil _ _ _ _ _|exact Kd.S_nil _ _ _ _ _,by first|exact Kd.S_nil _ _ _ _ _|exact Kd.N_nil _ _ _ _ _|exact Kd.V_nil _ _ _ _ _|exact Kd.Q_nil _ _ _ _ _|exact Kd.R_nil _ _ _ _ _,by first|exact Kd.R_nil _ _ _ _ _|exact Kd.N_nil _ _ _ _ _|exact Kd.V_nil _ _ _ _ _|exact Kd.Q_nil _ _ _ _ _|exact Kd.S_nil _ _ _ _ _,by repeat (first|(with_reducible first|exact HB.out|apply below_alloc|apply pw_below_drewN|apply below_drew1|refine below_set ?_ G1.out|refine below_set ?_ G3.out)|exact HB.out)⟩
     ·rw[if_neg cn]at H
      have co:=beq_eq_false_iff_ne.mpr cn;have cp:=bne_iff_ne.mpr cn
      by_cases cu:t0=4
      ·rw[if_pos cu]at H
       have cv:=beq_iff_eq.mpr cu;have cw:=bne_eq_false_iff_eq.mpr cu;clear cu;obtain⟨⟨t6,t7⟩,A5,H⟩:=bsE H;(try dsimp only at H);have A6:=Aside0.mk A5;clear A5
       by_cases cx:t7=0
       ·rw[if_pos cx]at H
        have cy:=beq_iff_eq.mpr cx;have cz:=bne_eq_false_iff_eq.mpr cx;clear cx;simp only[Option.some.injEq,Prod.mk.injEq]at H;obtain⟨rfl,rfl,rfl,rfl,rfl,rfl⟩:=H
        go_wp2_with (first|((with_reducible refine gate_dst (N:=8) rfl ?_);(try (refine gate_guard mBV ?_;dsimp only));refine bxV (N:=8) (cs:=#[.int .i64 0,.int .i64 0,.slice none 0 0,.slice none 0 0,.slice none 0 0]) (t:=26) (h:=?_);intro g1 hg wr hbox hb;have B1:=Aside0.mk (hbox);have G2:=Aside0.mk ((mT:w.heap.size<=g1));have G3:=Aside0.mk ((mT:w.heap.size<=g1));replace HB:=Aside0.mk (below_step mC hb);have N0:=Aside0.mk ((mAB:g0≠g1));have N1:=Aside0.mk ((mAC:g1≠g0));replace B0:=Aside0.mk (blk_below mB hb);clear hb hbox hg;have n4:=N1.out;have n5:=N0.out;obtain⟨z0c,z0d,z0e,z0f,z0g⟩:=bc5 B1.out;have z0h:=blk_frozen B1.out)|((with_reducible refine gate_store (t:=26) (p:=8) rfl ?_);refine stV (t:=26) (p:=8) (w1:=(((((wr.setCell ⟨g1,0,none⟩ (.int .i64 t0)).setCell ⟨g1,1,none⟩ (.int .i64 t1)).setCell ⟨g1,2,none⟩ (.slice none 0 0)).setCell ⟨g1,3,none⟩ (.slice none 0 0)).setCell ⟨g1,4,none⟩ (.slice none 0 0))) (h:=?_);intro wt hw;replace B0:Aside0 (wt.heap[g0]? =some (.cells #[.int .i64 0,.int .i64 0,.slice none 0 0,.slice none 0 0,.slice none 0 0] 26 (0,0))):=⟨mG⟩;replace B1:Aside0 (wt.heap[g1]? =some (.cells #[.int .i64 t0,.int .i64 t1,.slice none 0 0,.slice none 0 0,.slice none 0 0] 26 (0,0))):=⟨mF⟩;replace HB:Aside0 (Below w.heap.size w wt):=⟨mAR⟩;clear hw)|((with_reducible refine gate_callee (f:=28) rfl ?_);refine cLV (some 49) Try.func28 #[.string (a0.extract 12 a0.size)] (h:=?_);(with_reducible refine(update_Get.calls j1 (a0.extract 12 a0.size) t6 t7 _ A6.out).mono ?_);rintro e wu ⟨v365,rfl,ho0,hb⟩;refine⟨_,rfl,?_⟩;have O1:=Aside0.mk (Kd.S_lower ho0 (below_size mD));replace B0:=Aside0.mk (blk_below mB hb);replace B1:=Aside0.mk (blk_below mL hb);replace HB:=Aside0.mk (below_step mD hb);(try clear hb);(try clear ho0);obtain⟨s6,s7,s8⟩:=Kd.S_slice O1.out;subst s8;obtain⟨z0i,z0j,z0k,z0l,z0m⟩:=bc5 B1.out;have z0n:=blk_frozen B1.out)|((with_reducible refine gate_store (t:=23) (p:=52) rfl ?_);refine stV (t:=23) (p:=52) (w1:=(wu.setCell ⟨g1,3,none⟩ (.slice s6 t6.length s7))) (h:=?_);intro ww hw;replace O1:Aside0 (Kd.S k45 45 ww w.heap.size (λ_=>True) (.slice s6 t6.length s7) t6):=⟨mBY⟩;replace B0:Aside0 (ww.heap[g0]? =some (.cells #[.int .i64 0,.int .i64 0,.slice none 0 0,.slice none 0 0,.slice none 0 0] 26 (0,0))):=⟨mU⟩;replace B1:Aside0 (ww.heap[g1]? =some (.cells #[.int .i64 t0,.int .i64 t1,.slice none 0 0,.slice s6 t6.length s7,.slice none 0 0] 26 (0,0))):=⟨mAO⟩;replace HB:Aside0 (Below w.heap.size w ww):=⟨mAR⟩;clear hw;obtain⟨z0o,z0p,z0q,z0r,z0s⟩:=bc5 B1.out;have z0t:=blk_frozen B1.out;obtain⟨z0u,z0v,z0w,z0x,z0y⟩:=bc5 B0.out;have z0z:=blk_frozen B0.out)|((with_reducible refine gate_store (t:=26) (p:=2) rfl ?_);refine stV (t:=26) (p:=2) (w1:=(((((ww.setCell ⟨g0,0,none⟩ (.int .i64 t0)).setCell ⟨g0,1,none⟩ (.int .i64 t1)).setCell ⟨g0,2,none⟩ (.slice none 0 0)).setCell ⟨g0,3,none⟩ (.slice s6 t6.length s7)).setCell ⟨g0,4,none⟩ (.slice none 0 0))) (h:=?_);intro wy hw;replace O1:Aside0 (Kd.S k45 45 wy w.heap.size (λ_=>True) (.slice s6 t6.length s7) t6):=⟨mBC⟩;replace B0:Aside0 (wy.heap[g0]? =some (.cells #[.int .i64 t0,.int .i64 t1,.slice none 0 0,.slice s6 t6.length s7,.slice none 0 0] 26 (0,0))):=⟨mAK⟩;replace B1:Aside0 (wy.heap[g1]? =some (.cells #[.int .i64 t0,.int .i64 t1,.slice none 0 0,.slice s6 t6.length s7,.slice none 0 0] 26 (0,0))):=⟨mH⟩;replace HB:Aside0 (Below w.heap.size w wy):=⟨mAR⟩;clear hw))
        refine bodyPost_ret (results_ct rfl _ _ g0 26 #[.int .i64 t0,.int .i64 t1,.slice none 0 0,.slice s6 t6.length s7,.slice none 0 0] (0,0) _ rfl mB Try.underlying26 rfl mAD) rfl ?_;exact⟨_,_,_,by first|rfl|(simp[errW_none,errW_some] <;> rfl)|(simp[*,errW_none,errW_some] <;> rfl),by first|exact Kd.R_nil _ _ _ _ _|exact Kd.N_nil _ _ _ _ _|exact Kd.V_nil _ _ _ _ _|exact Kd.Q_nil _ _ _ _ _|exact Kd.S_nil _ _ _ _ _,by(with_reducible repeat (first|apply Kd.S_alloc|apply Kd.S_drewN|apply Kd.S_drew));exact O1.out,by first|exact Kd.R_nil _ _ _ _ _|exact Kd.N_nil _ _ _ _ _|exact Kd.V_nil _ _ _ _ _|exact Kd.Q_nil _ _ _ _ _|exact Kd.S_nil _ _ _ _ _,by repeat (first|(with_reducible first|exact HB.out|apply below_alloc|apply pw_below_drewN|apply below_drew1|refine below_set ?_ G1.out|refine below_set ?_ G3.out)|exact HB.out)⟩
       ·rw[if_neg cx]at H
        have cy:=beq_eq_false_iff_ne.mpr cx;have cz:=bne_iff_ne.mpr cx;simp only[Option.some.injEq,Prod.mk.injEq]at H;obtain⟨rfl,rfl,rfl,rfl,rfl,rfl⟩:=H
        go_wp2_with (first|((with_reducible refine gate_dst (N:=8) rfl ?_);(try (refine gate_guard mBV ?_;dsimp only));refine bxV (N:=8) (cs:=#[.int .i64 0,.int .i64 0,.slice none 0 0,.slice none 0 0,.slice none 0 0]) (t:=26) (h:=?_);intro g1 hg wz hbox hb;have B1:=Aside0.mk (hbox);have G2:=Aside0.mk ((mT:w.heap.size<=g1));have G3:=Aside0.mk ((mT:w.heap.size<=g1));replace HB:=Aside0.mk (below_step mC hb);have N0:=Aside0.mk ((mAB:g0≠g1));have N1:=Aside0.mk ((mAC:g1≠g0));replace B0:=Aside0.mk (blk_below mB hb);clear hb hbox hg;have n6:=N1.out;have n7:=N0.out;obtain⟨z10,z11,z12,z13,z14⟩:=bc5 B1.out;have z15:=blk_frozen B1.out)|((with_reducible refine gate_store (t:=26) (p:=8) rfl ?_);refine stV (t:=26) (p:=8) (w1:=(((((wz.setCell ⟨g1,0,none⟩ (.int .i64 t0)).setCell ⟨g1,1,none⟩ (.int .i64 t1)).setCell ⟨g1,2,none⟩ (.slice none 0 0)).setCell ⟨g1,3,none⟩ (.slice none 0 0)).setCell ⟨g1,4,none⟩ (.slice none 0 0))) (h:=?_);intro w52 hw;replace B0:Aside0 (w52.heap[g0]? =some (.cells #[.int .i64 0,.int .i64 0,.slice none 0 0,.slice none 0 0,.slice none 0 0] 26 (0,0))):=⟨mG⟩;replace B1:Aside0 (w52.heap[g1]? =some (.cells #[.int .i64 t0,.int .i64 t1,.slice none 0 0,.slice none 0 0,.slice none 0 0] 26 (0,0))):=⟨mF⟩;replace HB:Aside0 (Below w.heap.size w w52):=⟨mAR⟩;clear hw)|((with_reducible refine gate_callee (f:=28) rfl ?_);refine cLV (some 49) Try.func28 #[.string (a0.extract 12 a0.size)] (h:=?_);(with_reducible refine(update_Get.calls j1 (a0.extract 12 a0.size) t6 t7 _ A6.out).mono ?_);rintro e w53 ⟨v365,rfl,ho0,hb⟩;refine⟨_,rfl,?_⟩;have O1:=Aside0.mk (Kd.S_lower ho0 (below_size mD));replace B0:=Aside0.mk (blk_below mB hb);replace B1:=Aside0.mk (blk_below mL hb);replace HB:=Aside0.mk (below_step mD hb);(try clear hb);(try clear ho0);obtain⟨s9,sa,sb⟩:=Kd.S_slice O1.out;subst sb;obtain⟨z16,z17,z18,z19,z1a⟩:=bc5 B1.out;have z1b:=blk_frozen B1.out)|((with_reducible refine gate_store (t:=23) (p:=52) rfl ?_);refine stV (t:=23) (p:=52) (w1:=(w53.setCell ⟨g1,3,none⟩ (.slice s9 t6.length sa))) (h:=?_);intro w56 hw;replace O1:Aside0 (Kd.S k45 45 w56 w.heap.size (λ_=>True) (.slice s9 t6.length sa) t6):=⟨mBX⟩;replace B0:Aside0 (w56.heap[g0]? =some (.cells #[.int .i64 0,.int .i64 0,.slice none 0 0,.slice none 0 0,.slice none 0 0] 26 (0,0))):=⟨mU⟩;replace B1:Aside0 (w56.heap[g1]? =some (.cells #[.int .i64 t0,.int .i64 t1,.slice none 0 0,.slice s9 t6.length sa,.slice none 0 0] 26 (0,0))):=⟨mAO⟩;replace HB:Aside0 (Below w.heap.size w w56):=⟨mAR⟩;clear hw;obtain⟨z1c,z1d,z1e,z1f,z1g⟩:=bc5 B0.out;have z1h:=blk_frozen B0.out)|((with_reducible refine gate_store (t:=26) (p:=2) rfl ?_);refine stV (t:=26) (p:=2) (w1:=(((((w56.setCell ⟨g0,0,none⟩ (.int .i64 0)).setCell ⟨g0,1,none⟩ (.int .i64 0)).setCell ⟨g0,2,none⟩ (.slice none 0 0)).setCell ⟨g0,3,none⟩ (.slice none 0 0)).setCell ⟨g0,4,none⟩ (.slice none 0 0))) (h:=?_);intro w58 hw;replace O1:Aside0 (Kd.S k45 45 w58 w.heap.size (λ_=>True) (.slice s9 t6.length sa) t6):=⟨mBF⟩;replace B0:Aside0 (w58.heap[g0]? =some (.cells #[.int .i64 0,.int .i64 0,.slice none 0 0,.slice none 0 0,.slice none 0 0] 26 (0,0))):=⟨mI⟩;replace B1:Aside0 (w58.heap[g1]? =some (.cells #[.int .i64 t0,.int .i64 t1,.slice none 0 0,.slice s9 t6.length sa,.slice none 0 0] 26 (0,0))):=⟨mH⟩;replace HB:Aside0 (Below w.heap.size w w58):=⟨mAR⟩;clear hw))
        refine bodyPost_ret (results_ct rfl _ _ g0 26 #[.int .i64 0,.int .i64 0,.slice none 0 0,.slice none 0 0,.slice none 0 0] (0,0) _ rfl mB Try.underlying26 rfl mAD) rfl ?_;exact⟨_,_,_,by first|rfl|(simp[errW_none,errW_some] <;> rfl)|(simp[*,errW_none,errW_some] <;> rfl),by first|exact Kd.R_nil _ _ _ _ _|exact Kd.N_nil _ _ _ _ _|exact Kd.V_nil _ _ _ _ _|exact Kd.Q_nil _ _ _ _ _|exact Kd.S_nil _ _ _ _ _,by first|exact Kd.S_nil _ _ _ _ _|exact Kd.N_nil _ _ _ _ _|exact Kd.V_nil _ _ _ _ _|exact Kd.Q_nil _ _ _ _ _|exact Kd.R_nil _ _ _ _ _,by first|exact Kd.R_nil _ _ _ _ _|exact Kd.N_nil _ _ _ _ _|exact Kd.V_nil _ _ _ _ _|exact Kd.Q_nil _ _ _ _ _|exact Kd.S_nil _ _ _ _ _,by repeat (first|(with_reducible first|exact HB.out|apply below_alloc|apply pw_below_drewN|apply below_drew1|refine below_set ?_ G1.out|refine below_set ?_ G3.out)|exact HB.out)⟩
      ·rw[if_neg cu]at H
       have cv:=beq_eq_false_iff_ne.mpr cu;have cw:=bne_iff_ne.mpr cu;obtain⟨⟨t8,t9⟩,A7,H⟩:=bsE H;(try dsimp only at H);have A8:=Aside0.mk A7;clear A7
       by_cases c60:t9=0
       ·rw[if_pos c60]at H
        have c02:=beq_iff_eq.mpr c60;have c04:=bne_eq_false_iff_eq.mpr c60;clear c60;simp only[Option.some.injEq,Prod.mk.injEq]at H;obtain⟨rfl,rfl,rfl,rfl,rfl,rfl⟩:=H
        go_wp2_with (first|((with_reducible refine gate_dst (N:=8) rfl ?_);(try (refine gate_guard mBV ?_;dsimp only));refine bxV (N:=8) (cs:=#[.int .i64 0,.int .i64 0,.slice none 0 0,.slice none 0 0,.slice none 0 0]) (t:=26) (h:=?_);intro g1 hg w61 hbox hb;have B1:=Aside0.mk (hbox);have G2:=Aside0.mk ((mT:w.heap.size<=g1));have G3:=Aside0.mk ((mT:w.heap.size<=g1));replace HB:=Aside0.mk (below_step mC hb);have N0:=Aside0.mk ((mAB:g0≠g1));have N1:=Aside0.mk ((mAC:g1≠g0));replace B0:=Aside0.mk (blk_below mB hb);clear hb hbox hg;have n8:=N1.out;have n9:=N0.out;obtain⟨z1i,z1j,z1k,z1l,z1m⟩:=bc5 B1.out;have z1n:=blk_frozen B1.out)|((with_reducible refine gate_store (t:=26) (p:=8) rfl ?_);refine stV (t:=26) (p:=8) (w1:=(((((w61.setCell ⟨g1,0,none⟩ (.int .i64 t0)).setCell ⟨g1,1,none⟩ (.int .i64 t1)).setCell ⟨g1,2,none⟩ (.slice none 0 0)).setCell ⟨g1,3,none⟩ (.slice none 0 0)).setCell ⟨g1,4,none⟩ (.slice none 0 0))) (h:=?_);intro w64 hw;replace B0:Aside0 (w64.heap[g0]? =some (.cells #[.int .i64 0,.int .i64 0,.slice none 0 0,.slice none 0 0,.slice none 0 0] 26 (0,0))):=⟨mG⟩;replace B1:Aside0 (w64.heap[g1]? =some (.cells #[.int .i64 t0,.int .i64 t1,.slice none 0 0,.slice none 0 0,.slice none 0 0] 26 (0,0))):=⟨mF⟩;replace HB:Aside0 (Below w.heap.size w w64):=⟨mAR⟩;clear hw)|((with_reducible refine gate_callee (f:=29) rfl ?_);refine cLV (some 33) Try.func29 #[.string (a0.extract 12 a0.size)] (h:=?_);(with_reducible refine(ack_Get.calls j1 (a0.extract 12 a0.size) t8 t9 _ A8.out).mono ?_);rintro e w65 ⟨v369,rfl,ho0,hb⟩;refine⟨_,rfl,?_⟩;have O2:=Aside0.mk (Kd.R_lower ho0 (below_size mD));replace B0:=Aside0.mk (blk_below mB hb);replace B1:=Aside0.mk (blk_below mL hb);replace HB:=Aside0.mk (below_step mD hb);(try clear hb);(try clear ho0);obtain⟨sc,sd,se⟩:=Kd.R_slice O2.out;subst se;obtain⟨z1o,z1p,z1q,z1r,z1s⟩:=bc5 B1.out;have z1t:=blk_frozen B1.out)|((with_reducible refine gate_store (t:=24) (p:=36) rfl ?_);refine stV (t:=24) (p:=36) (w1:=(w65.setCell ⟨g1,4,none⟩ (.slice sc t8.length sd))) (h:=?_);intro w68 hw;replace O2:Aside0 (Kd.R k47 47 w68 w.heap.size (λ_=>True) (.slice sc t8.length sd) t8):=⟨mCA⟩;replace B0:Aside0 (w68.heap[g0]? =some (.cells #[.int .i64 0,.int .i64 0,.slice none 0 0,.slice none 0 0,.slice none 0 0] 26 (0,0))):=⟨mU⟩;replace B1:Aside0 (w68.heap[g1]? =some (.cells #[.int .i64 t0,.int .i64 t1,.slice none 0 0,.slice none 0 0,.slice sc t8.length sd] 26 (0,0))):=⟨mAN⟩;replace HB:Aside0 (Below w.heap.size w w68):=⟨mAR⟩;clear hw;obtain⟨z1u,z1v,z1w,z1x,z1y⟩:=bc5 B1.out;have z1z:=blk_frozen B1.out;obtain⟨z20,z21,z22,z23,z24⟩:=bc5 B0.out;have z25:=blk_frozen B0.out)|((with_reducible refine gate_store (t:=26) (p:=2) rfl ?_);refine stV (t:=26) (p:=2) (w1:=(((((w68.setCell ⟨g0,0,none⟩ (.int .i64 t0)).setCell ⟨g0,1,none⟩ (.int .i64 t1)).setCell ⟨g0,2,none⟩ (.slice none 0 0)).setCell ⟨g0,3,none⟩ (.slice none 0 0)).setCell ⟨g0,4,none⟩ (.slice sc t8.length sd))) (h:=?_);intro w71 hw;replace O2:Aside0 (Kd.R k47 47 w71 w.heap.size (λ_=>True) (.slice sc t8.length sd) t8):=⟨mBD⟩;replace B0:Aside0 (w71.heap[g0]? =some (.cells #[.int .i64 t0,.int .i64 t1,.slice none 0 0,.slice none 0 0,.slice sc t8.length sd] 26 (0,0))):=⟨mAL⟩;replace B1:Aside0 (w71.heap[g1]? =some (.cells #[.int .i64 t0,.int .i64 t1,.slice none 0 0,.slice none 0 0,.slice sc t8.length sd] 26 (0,0))):=⟨mH⟩;replace HB:Aside0 (Below w.heap.size w w71):=⟨mAR⟩;clear hw))
        refine bodyPost_ret (results_ct rfl _ _ g0 26 #[.int .i64 t0,.int .i64 t1,.slice none 0 0,.slice none 0 0,.slice sc t8.length sd] (0,0) _ rfl mB Try.underlying26 rfl mAD) rfl ?_;exact⟨_,_,_,by first|rfl|(simp[errW_none,errW_some] <;> rfl)|(simp[*,errW_none,errW_some] <;> rfl),by first|exact Kd.R_nil _ _ _ _ _|exact Kd.N_nil _ _ _ _ _|exact Kd.V_nil _ _ _ _ _|exact Kd.Q_nil _ _ _ _ _|exact Kd.S_nil _ _ _ _ _,by first|exact Kd.S_nil _ _ _ _ _|exact Kd.N_nil _ _ _ _ _|exact Kd.V_nil _ _ _ _ _|exact Kd.Q_nil _ _ _ _ _|exact Kd.R_nil _ _ _ _ _,by(with_reducible repeat (first|apply Kd.R_alloc|apply Kd.R_drewN|apply Kd.R_drew));exact O2.out,by repeat (first|(with_reducible first|exact HB.out|apply below_alloc|apply pw_below_drewN|apply below_drew1|refine below_set ?_ G1.out|refine below_set ?_ G3.out)|exact HB.out)⟩
       ·rw[if_neg c60]at H
        have c02:=beq_eq_false_iff_ne.mpr c60;have c04:=bne_iff_ne.mpr c60;simp only[Option.some.injEq,Prod.mk.injEq]at H;obtain⟨rfl,rfl,rfl,rfl,rfl,rfl⟩:=H
        go_wp2_with (first|((with_reducible refine gate_dst (N:=8) rfl ?_);(try (refine gate_guard mBV ?_;dsimp only));refine bxV (N:=8) (cs:=#[.int .i64 0,.int .i64 0,.slice none 0 0,.slice none 0 0,.slice none 0 0]) (t:=26) (h:=?_);intro g1 hg w72 hbox hb;have B1:=Aside0.mk (hbox);have G2:=Aside0.mk ((mT:w.heap.size<=g1));have G3:=Aside0.mk ((mT:w.heap.size<=g1));replace HB:=Aside0.mk (below_step mC hb);have N0:=Aside0.mk ((mAB:g0≠g1));have N1:=Aside0.mk ((mAC:g1≠g0));replace B0:=Aside0.mk (blk_below mB hb);clear hb hbox hg;have na:=N1.out;have nb:=N0.out;obtain⟨z26,z27,z28,z29,z2a⟩:=bc5 B1.out;have z2b:=blk_frozen B1.out)|((with_reducible refine gate_store (t:=26) (p:=8) rfl ?_);refine stV (t:=26) (p:=8) (w1:=(((((w72.setCell ⟨g1,0,none⟩ (.int .i64 t0)).setCell ⟨g1,1,none⟩ (.int .i64 t1)).setCell ⟨g1,2,none⟩ (.slice none 0 0)).setCell ⟨g1,3,none⟩ (.slice none 0 0)).setCell ⟨g1,4,none⟩ (.slice none 0 0))) (h:=?_);intro w75 hw;replace B0:Aside0 (w75.heap[g0]? =some (.cells #[.int .i64 0,.int .i64 0,.slice none 0 0,.slice none 0 0,.slice none 0 0] 26 (0,0))):=⟨mG⟩;replace B1:Aside0 (w75.heap[g1]? =some (.cells #[.int .i64 t0,.int .i64 t1,.slice none 0 0,.slice none 0 0,.slice none 0 0] 26 (0,0))):=⟨mF⟩;replace HB:Aside0 (Below w.heap.size w w75):=⟨mAR⟩;clear hw)|((with_reducible refine gate_callee (f:=29) rfl ?_);refine cLV (some 33) Try.func29 #[.string (a0.extract 12 a0.size)] (h:=?_);(with_reducible refine(ack_Get.calls j1 (a0.extract 12 a0.size) t8 t9 _ A8.out).mono ?_);rintro e w76 ⟨v369,rfl,ho0,hb⟩;refine⟨_,rfl,?_⟩;have O2:=Aside0.mk (Kd.R_lower ho0 (below_size mD));replace B0:=Aside0.mk (blk_below mB hb);replace B1:=Aside0.mk (blk_below mL hb);replace HB:=Aside0.mk (below_step mD hb);(try clear hb);(try clear ho0);obtain⟨sf,sg,sh⟩:=Kd.R_slice O2.out;subst sh;obtain⟨z2c,z2d,z2e,z2f,z2g⟩:=bc5 B1.out;have z2h:=blk_frozen B1.out)|((with_reducible refine gate_store (t:=24) (p:=36) rfl ?_);refine stV (t:=24) (p:=36) (w1:=(w76.setCell ⟨g1,4,none⟩ (.slice sf t8.length sg))) (h:=?_);intro w79 hw;replace O2:Aside0 (Kd.R k47 47 w79 w.heap.size (λ_=>True) (.slice sf t8.length sg) t8):=⟨mBZ⟩;replace B0:Aside0 (w79.heap[g0]? =some (.cells #[.int .i64 0,.int .i64 0,.slice none 0 0,.slice none 0 0,.slice none 0 0] 26 (0,0))):=⟨mU⟩;replace B1:Aside0 (w79.heap[g1]? =some (.cells #[.int .i64 t0,.int .i64 t1,.slice none 0 0,.slice none 0 0,.slice sf t8.length sg] 26 (0,0))):=⟨mAN⟩;replace HB:Aside0 (Below w.heap.size w w79):=⟨mAR⟩;clear hw;obtain⟨z2i,z2j,z2k,z2l,z2m⟩:=bc5 B0.out;have z2n:=blk_frozen B0.out)|((with_reducible refine gate_store (t:=26) (p:=2) rfl ?_);refine stV (t:=26) (p:=2) (w1:=(((((w79.setCell ⟨g0,0,none⟩ (.int .i64 0)).setCell ⟨g0,1,none⟩ (.int .i64 0)).setCell ⟨g0,2,none⟩ (.slice none 0 0)).setCell ⟨g0,3,none⟩ (.slice none 0 0)).setCell ⟨g0,4,none⟩ (.slice none 0 0))) (h:=?_);intro w81 hw;replace O2:Aside0 (Kd.R k47 47 w81 w.heap.size (λ_=>True) (.slice sf t8.length sg) t8):=⟨mBG⟩;replace B0:Aside0 (w81.heap[g0]? =some (.cells #[.int .i64 0,.int .i64 0,.slice none 0 0,.slice none 0 0,.slice none 0 0] 26 (0,0))):=⟨mI⟩;replace B1:Aside0 (w81.heap[g1]? =some (.cells #[.int .i64 t0,.int .i64 t1,.slice none 0 0,.slice none 0 0,.slice sf t8.length sg] 26 (0,0))):=⟨mH⟩;replace HB:Aside0 (Below w.heap.size w w81):=⟨mAR⟩;clear hw))
        refine bodyPost_ret (results_ct rfl _ _ g0 26 #[.int .i64 0,.int .i64 0,.slice none 0 0,.slice none 0 0,.slice none 0 0] (0,0) _ rfl mB Try.underlying26 rfl mAD) rfl ?_;exact⟨_,_,_,by first|rfl|(simp[errW_none,errW_some] <;> rfl)|(simp[*,errW_none,errW_some] <;> rfl),by first|exact Kd.R_nil _ _ _ _ _|exact Kd.N_nil _ _ _ _ _|exact Kd.V_nil _ _ _ _ _|exact Kd.Q_nil _ _ _ _ _|exact Kd.S_nil _ _ _ _ _,by first|exact Kd.S_nil _ _ _ _ _|exact Kd.N_nil _ _ _ _ _|exact Kd.V_nil _ _ _ _ _|exact Kd.Q_nil _ _ _ _ _|exact Kd.R_nil _ _ _ _ _,by first|exact Kd.R_nil _ _ _ _ _|exact Kd.N_nil _ _ _ _ _|exact Kd.V_nil _ _ _ _ _|exact Kd.Q_nil _ _ _ _ _|exact Kd.S_nil _ _ _ _ _,by repeat (first|(with_reducible first|exact HB.out|apply below_alloc|apply pw_below_drewN|apply below_drew1|refine below_set ?_ G1.out|refine below_set ?_ G3.out)|exact HB.out)⟩
    ·rw[if_neg ck]at H
     exact absurd H mAM
end Go.Proofs.Ytbajimbccbckkaa.Q12k
namespace Go.Proofs.Ytbajimbccbckkaa.Q12k
open Go.RowKit Go.Proofs.YtbajimbccbckkaaW.PrintWords Go.Proofs.YtbajimbccbckkaaW.PrintLast Go.Proofs.YtbajimbccbckkaaW.PrintMore
attribute [local go_sem] max2_int min2_int max_two min_two max_three min_three max_four min_four
set_option linter.unusedVariables false
set_option linter.unusedSimpArgs false
theorem eqA109 (d:Nat) (w:World) (x0 y0:Int) (x1 y1:Int):
    (Op.equalIn (d+2) 109 (.agg #[.int .i64 x0,.int .i64 x1]) (.agg #[.int .i64 y0,.int .i64 y1])).run Try.prog w= .ok (x0==y0&&(x1==y1)) w:=by
  refine eqA_of Try.underlying109 (by kernel_rfl) ?_
  refine eqf_cons (by rfl) (by go_simp;rfl) (by go_simp;rfl) (by go_simp) ?_
  exact eqf_last (by rfl) (by go_simp;rfl) (by go_simp;rfl) (by go_simp)
end Go.Proofs.Ytbajimbccbckkaa.Q12k
