/- Written by a program of this session (out of what the print wrote for this seat): the functions' walks, packed. -/
import Derived.Test.YtbajimbccbckkaaZ12kx3
namespace Go.Proofs.Ytbajimbccbckkaa.Q12k
open Go.RowKit Go.Proofs.Ytbajimbccbckkaa.Stp Go.Proofs.YtbajimbccbckkaaW.PrintWords Go.Proofs.YtbajimbccbckkaaW.PrintLast Go.Proofs.YtbajimbccbckkaaW.PrintMore
attribute [local go_sem] max2_int min2_int max_two min_two max_three min_three max_four min_four
set_option linter.unusedVariables false
set_option linter.unusedSimpArgs false
def watchwordlaw12_awake.f (k:Nat):Option (Bool):=(some (([1,3]:List Int):List Int)).bind λy455=>((packet_Put.f k 1 2 y455 ([]:List (S45)) ([]:List (S47))).bind λbt459=>((packet_Get.f k bt459.1).bind λbt461=>((packet_Put.f k 0 0 ([]:List Int) ([]:List (S45)) ([]:List (S47))).bind λbt474=>((packet_Get.f k (⟨#[]⟩:ByteArray)).bind λbt476=>(if bt459.1.toList=([2,1,0,15,0,0,0,2,0,0,0,0,2,1,3]:List UInt8)then((watchwordlaw0_Num.f bt459.2).bind λt489=>(if t489=0 then((watchwordlaw0_SamePacket.f k 1 2 y455 ([]:List (S45)) ([]:List (S47)) bt461.1 bt461.2.1 bt461.2.2.1 bt461.2.2.2.1 bt461.2.2.2.2.1).bind λt490=>(if t490=true then((watchwordlaw0_Num.f bt461.2.2.2.2.2).bind λt491=>(if t491=0 then((watchwordlaw0_Num.f bt474.2).bind λt492=>(if t492=1200 then((watchwordlaw0_Num.f bt476.2.2.2.2.2).bind λt493=>(if t493=1200 then((packet_May.f k 1 2 y455 ([]:List (S45)) ([]:List (S47))).bind λt494=>(some t494))else(some false)))else(some false)))else(some false)))else(some false)))else(some false)))else(some false))))))
theorem watchwordlaw12_awake.mono:∀k,LeO (watchwordlaw12_awake.f k) (watchwordlaw12_awake.f (k+1)):=by
 intro k;unfold watchwordlaw12_awake.f
 repeat' (with_reducible first|exact packet_Get.mono _ _|exact packet_May.mono _ _ _ _ _ _|exact packet_Put.mono _ _ _ _ _ _|exact watchwordlaw0_SamePacket.mono _ _ _ _ _ _ _ _ _ _ _|exact LeO.refl _|exact LeO.none _|refine LeO.ite ?_ ?_ |refine LeO.bind ?_ (λ_=>?_))
set_option maxHeartbeats 8000000 in
set_option maxRecDepth 100000 in
theorem watchwordlaw12_awake.calls (k:Nat) (r:Bool) (w:World) (h:watchwordlaw12_awake.f k=some r) (hT:r=true):
  Calls Try.prog 18 #[] w λe w'=>e= .returned (.bool r)/\Below w.heap.size w w':=by
 have hu26:=Try.underlying26;have HB:=Aside0.mk (Below.refl w.heap.size w);have HT:=Aside0.mk hT;clear hT;have H:((some (([1,3]:List Int):List Int)).bind λy0=>((packet_Put.f k 1 2 y0 ([]:List (S45)) ([]:List (S47))).bind λbt459=>((packet_Get.f k bt459.1).bind λbt461=>((packet_Put.f k 0 0 ([]:List Int) ([]:List (S45)) ([]:List (S47))).bind λbt474=>((packet_Get.f k (⟨#[]⟩:ByteArray)).bind λbt476=>(if bt459.1.toList=([2,1,0,15,0,0,0,2,0,0,0,0,2,1,3]:List UInt8)then((watchwordlaw0_Num.f bt459.2).bind λt0=>(if t0=0 then((watchwordlaw0_SamePacket.f k 1 2 y0 ([]:List (S45)) ([]:List (S47)) bt461.1 bt461.2.1 bt461.2.2.1 bt461.2.2.2.1 bt461.2.2.2.2.1).bind λt1=>(if t1=true then((watchwordlaw0_Num.f bt461.2.2.2.2.2).bind λt2=>(if t2=0 then((watchwordlaw0_Num.f bt474.2).bind λt3=>(if t3=1200 then((watchwordlaw0_Num.f bt476.2.2.2.2.2).bind λt4=>(if t4=1200 then((packet_May.f k 1 2 y0 ([]:List (S45)) ([]:List (S47))).bind λt5=>(some t5))else(some false)))else(some false)))else(some false)))else(some false)))else(some false)))else(some false)))))))=some r:=h;clear h;obtain⟨y0,Y0⟩:∃y_:List Int,y_=(([1,3]:List Int)):=⟨_,rfl⟩
 replace H:((packet_Put.f k 1 2 y0 ([]:List (S45)) ([]:List (S47))).bind λbt459=>((packet_Get.f k bt459.1).bind λbt461=>((packet_Put.f k 0 0 ([]:List Int) ([]:List (S45)) ([]:List (S47))).bind λbt474=>((packet_Get.f k (⟨#[]⟩:ByteArray)).bind λbt476=>(if bt459.1.toList=([2,1,0,15,0,0,0,2,0,0,0,0,2,1,3]:List UInt8)then((watchwordlaw0_Num.f bt459.2).bind λt0=>(if t0=0 then((watchwordlaw0_SamePacket.f k 1 2 y0 ([]:List (S45)) ([]:List (S47)) bt461.1 bt461.2.1 bt461.2.2.1 bt461.2.2.2.1 bt461.2.2.2.2.1).bind λt1=>(if t1=true then((watchwordlaw0_Num.f bt461.2.2.2.2.2).bind λt2=>(if t2=0 then((watchwordlaw0_Num.f bt474.2).bind λt3=>(if t3=1200 then((watchwordlaw0_Num.f bt476.2.2.2.2.2).bind λt4=>(if t4=1200 then((packet_May.f k 1 2 y0 ([]:List (S45)) ([]:List (S47))).bind λt5=>(some t5))else(some false)))else(some false)))else(some false)))else(some false)))else(some false)))else(some false))))))=some r:=by first|(rw[Y0];with_reducible exact H)|(have H2_:=(Option.bind_some _ _).symm.trans H;rw[Y0];with_reducible exact H2_)|(have H2_:=(Option.bind_some _ _).symm.trans H;with_reducible exact H2_)|with_reducible exact H|(rw[Y0];exact H)|exact H
 have Y1:=Aside0.mk Y0;clear Y0;obtain⟨⟨t6,t7⟩,A0,H⟩:=bsE H;(try dsimp only at H);have A1:=Aside0.mk A0;clear A0;obtain⟨⟨t8,t9,ta,tb,tc,td⟩,A5,H⟩:=bsE H;(try dsimp only at H);have A2:=Aside0.mk A5;clear A5;obtain⟨⟨te,tf⟩,A9,H⟩:=bsE H;(try dsimp only at H);have A3:=Aside0.mk A9;clear A9;obtain⟨⟨tg,th,ti,tj,tk,tl⟩,Ab,H⟩:=bsE H;(try dsimp only at H);have A4:=Aside0.mk Ab;clear Ab
 by_cases c5:t6.toList=([2,1,0,15,0,0,0,2,0,0,0,0,2,1,3]:List UInt8)
 ·rw[if_pos c5]at H
  have c2:=beq_iff_eq.mpr c5;have c4:=bne_eq_false_iff_eq.mpr c5;clear c5;obtain⟨t0,Ad,H⟩:=bsE H;(try dsimp only at H);have A6:=Aside0.mk Ad;clear Ad
  by_cases c7:t0=0
  ·rw[if_pos c7]at H
   have ca:=beq_iff_eq.mpr c7;have cc:=bne_eq_false_iff_eq.mpr c7;clear c7;obtain⟨t1,Af,H⟩:=bsE H;(try dsimp only at H);have A8:=Aside0.mk Af;clear Af
   by_cases c9:t1=true
   ·subst c9
    rw[if_pos rfl]at H;obtain⟨t2,Ah,H⟩:=bsE H;(try dsimp only at H);have A0:=Aside0.mk Ah;clear Ah
    by_cases ch:t2=0
    ·rw[if_pos ch]at H
     have ci:=beq_iff_eq.mpr ch;have cj:=bne_eq_false_iff_eq.mpr ch;clear ch;obtain⟨t3,Ai,H⟩:=bsE H;(try dsimp only at H);have Aj:=Aside0.mk Ai;clear Ai
     by_cases ck:t3=1200
     ·rw[if_pos ck]at H
      have cl:=beq_iff_eq.mpr ck;have cm:=bne_eq_false_iff_eq.mpr ck;clear ck;obtain⟨t4,Ak,H⟩:=bsE H;(try dsimp only at H);have Al:=Aside0.mk Ak;clear Ak
      by_cases cn:t4=1200
      ·rw[if_pos cn]at H
       have co:=beq_iff_eq.mpr cn;have cp:=bne_eq_false_iff_eq.mpr cn;clear cn;obtain⟨t5,Am,H⟩:=bsE H;(try dsimp only at H);have An:=Aside0.mk Am;clear Am;obtain rfl:=Option.some.inj H
       go_enter Try.func18,Try.ntmps18
       go_wp2_with (first|((with_reducible refine gate_dst (N:=10) rfl ?_);refine Kd.R_lit (Kd.int .i64) _ 3 ?hg (N:=10) ?hd (xs:=([1,3]:List Int)) (inner:=[.int .i64 1,.int .i64 3]) (ok:=λ_=>True) (okp:=λ_=>True) ?hr ?hp (λ_ hk=>hk) trivial (Below.refl _ _) (Nat.le_refl _) mAM ?_;(case hd=>rfl);(case hg=>rfl);(case hr=>first|(go_simp;done)|(go_simp;rfl));(case hp=>exact(Reps.one (show Kd.M (Kd.int .i64) _ _ _ 1 [.int .i64 1]from rfl) (Reps.one (show Kd.M (Kd.int .i64) _ _ _ 3 [.int .i64 3]from rfl) (Reps.none _ _))));intro v456 w0 ho18 hb hg_ hnew_;clear hg_ hnew_;(first|rw[<-Y1.out]at ho18|(simp only[Int.reduceToNat]at ho18;rw[<-Y1.out]at ho18));have O0:=Aside0.mk (Kd.R_lower ho18 (below_size mA));replace HB:=Aside0.mk (below_step mA hb);clear hb ho18;obtain⟨s0,s1,s2⟩:=Kd.R_slice O0.out;subst s2)|((with_reducible refine gate_dst (N:=1) rfl ?_);refine bxV (N:=1) (cs:=#[.int .i64 0,.int .i64 0,.slice none 0 0,.slice none 0 0,.slice none 0 0]) (t:=26) (h:=?_);intro g0 hg w2 hbox hb;replace O0:=Aside0.mk (Kd.R_below mN hb);have B0:=Aside0.mk (hbox);have G0:=Aside0.mk ((mJ:w.heap.size<=g0));have G1:=Aside0.mk ((mJ:w.heap.size<=g0));replace HB:=Aside0.mk (below_step mA hb);clear hb hbox hg;obtain⟨z0,z1,z2,z3,z4⟩:=bc5 B0.out;have z5:=blk_frozen B0.out)|((with_reducible refine gate_store (t:=26) (p:=1) rfl ?_);refine stV (t:=26) (p:=1) (w1:=(((((w2.setCell ⟨g0,0,none⟩ (.int .i64 1)).setCell ⟨g0,1,none⟩ (.int .i64 2)).setCell ⟨g0,2,none⟩ (.slice s0 y0.length s1)).setCell ⟨g0,3,none⟩ (.slice none 0 0)).setCell ⟨g0,4,none⟩ (.slice none 0 0))) (h:=?_);intro w4 hw;replace O0:Aside0 (Kd.R (Kd.int .i64) 3 w4 w.heap.size (λ_=>True) (.slice s0 y0.length s1) y0):=⟨(by rw[hw];exact(by(with_reducible repeat (first|apply Kd.R_alloc|apply Kd.R_drewN|apply Kd.R_drew));exact Kd.R_mono (Kd.R_far (p:=⟨g0,4,none⟩) (Kd.R_far (p:=⟨g0,3,none⟩) (Kd.R_far (p:=⟨g0,2,none⟩) (Kd.R_far (p:=⟨g0,1,none⟩) (Kd.R_far (p:=⟨g0,0,none⟩) (Kd.R_types O0.out B0.out mAQ) (λ_ hk=>hk.2) (.int .i64 1)) (λ_ hk=>hk.2) (.int .i64 2)) (λ_ hk=>hk.2) (.slice s0 y0.length s1)) (λ_ hk=>hk.2) (.slice none 0 0)) (λ_ hk=>hk.2) (.slice none 0 0)) (λ_ hk=>trivial)))⟩;replace B0:Aside0 (w4.heap[g0]? =some (.cells #[.int .i64 1,.int .i64 2,.slice s0 y0.length s1,.slice none 0 0,.slice none 0 0] 26 (0,0))):=⟨(by rw[hw];exact(by(with_reducible repeat (first|refine blk_drewN ?_ _|refine blk_drew ?_ |refine blk_alloc ?_ _));refine blk_put (cs:=#[.int .i64 1,.int .i64 2,.slice s0 y0.length s1,.slice none 0 0,.slice none 0 0]) ?_ 4 _ rfl;(with_reducible repeat (first|refine blk_drewN ?_ _|refine blk_drew ?_ |refine blk_alloc ?_ _));refine blk_put (cs:=#[.int .i64 1,.int .i64 2,.slice s0 y0.length s1,.slice none 0 0,.slice none 0 0]) ?_ 3 _ rfl;(with_reducible repeat (first|refine blk_drewN ?_ _|refine blk_drew ?_ |refine blk_alloc ?_ _));refine blk_put (cs:=#[.int .i64 1,.int .i64 2,.slice none 0 0,.slice none 0 0,.slice none 0 0]) ?_ 2 _ rfl;(with_reducible repeat (first|refine blk_drewN ?_ _|refine blk_drew ?_ |refine blk_alloc ?_ _));refine blk_put (cs:=#[.int .i64 1,.int .i64 0,.slice none 0 0,.slice none 0 0,.slice none 0 0]) ?_ 1 _ rfl;(with_reducible repeat (first|refine blk_drewN ?_ _|refine blk_drew ?_ |refine blk_alloc ?_ _));refine blk_put (cs:=#[.int .i64 0,.int .i64 0,.slice none 0 0,.slice none 0 0,.slice none 0 0]) ?_ 0 _ rfl;(with_reducible repeat (first|refine blk_drewN ?_ _|refine blk_drew ?_ |refine blk_alloc ?_ _));exact B0.out))⟩;replace HB:Aside0 (Below w.heap.size w w4):=⟨mBI⟩;clear hw;obtain⟨z6,z7,z8,z9,za⟩:=bc5 B0.out;have zb:=blk_frozen B0.out)|((with_reducible refine gate_callee (f:=9) rfl ?_);refine cLV (some 14) Try.func9 #[.agg #[.int .i64 1,.int .i64 2,.slice s0 y0.length s1,.slice none 0 0,.slice none 0 0]] (h:=?_);(refine(packet_Put.calls k 1 2 _ _ y0 _ _ ([]:List (S45)) _ _ ([]:List (S47)) t6 t7 _ ?side1 ?side2 ?side3 ?side4 ?side5 ?side6 A1.out).mono ?_);(case side1=>repeat (first|exact(Kd.R_reads' O0.out).2.2 |(with_reducible refine Kd.C_alloc ?_ _)|(with_reducible refine Kd.C_drewN ?_ _)|(with_reducible refine Kd.C_drew ?_)));(case side2=>exact(Kd.R_reads' O0.out).2.1);(case side3=>exact Kd.C_nil _ _);(case side4=>exact Nat.le_refl _);(case side5=>exact Kd.C_nil _ _);(case side6=>exact Nat.le_refl _);rintro e w5 ⟨rfl,hb⟩;refine⟨_,rfl,?_⟩;replace O0:=Aside0.mk (Kd.R_below mN hb);replace B0:=Aside0.mk (blk_below mB hb);replace HB:=Aside0.mk (below_step mC hb);(try clear hb))|((with_reducible refine gate_callee (f:=11) rfl ?_);refine cLV (some 19) Try.func11 #[.string t6] (h:=?_);(with_reducible refine(packet_Get.calls k t6 t8 t9 ta tb tc td _ A2.out).mono ?_);rintro e w6 ⟨v464,v467,v470,rfl,ho0,ho1,ho2,hb⟩;refine⟨_,rfl,?_⟩;have O1:=Aside0.mk (Kd.R_lower (Kd.R_new' ho0 (Kd.R_lt mN)) (below_size mC));replace O0:=Aside0.mk (Kd.R_elder' mN (Kd.R_base ho0) hb);have O2:=Aside0.mk (Kd.S_lower ho1 (below_size mC));have O3:=Aside0.mk (Kd.R_lower ho2 (below_size mC));replace B0:=Aside0.mk (blk_below mB hb);replace HB:=Aside0.mk (below_step mC hb);(try clear hb);(try clear ho0);(try clear ho1);(try clear ho2))|((with_reducible refine gate_dst (N:=4) rfl ?_);refine bxV (N:=4) (cs:=#[.int .i64 0,.int .i64 0,.slice none 0 0,.slice none 0 0,.slice none 0 0]) (t:=26) (h:=?_);intro g1 hg w7 hbox hb;replace O0:=Aside0.mk (Kd.R_below mN hb);replace O1:=Aside0.mk (Kd.R_below mX hb);replace O2:=Aside0.mk (Kd.S_below mAJ hb);replace O3:=Aside0.mk (Kd.R_below mY hb);have B1:=Aside0.mk (hbox);have G2:=Aside0.mk ((mT:w.heap.size<=g1));have G3:=Aside0.mk ((mT:w.heap.size<=g1));replace HB:=Aside0.mk (below_step mC hb);have N0:=Aside0.mk ((by rw[hg];exact Nat.ne_of_lt (blk_lt (g:=g0) (o:= .cells #[.int .i64 1,.int .i64 2,.slice s0 y0.length s1,.slice none 0 0,.slice none 0 0] 26 (0,0)) mB):g0≠g1));have N1:=Aside0.mk ((by rw[hg];exact Nat.ne_of_gt (blk_lt (g:=g0) (o:= .cells #[.int .i64 1,.int .i64 2,.slice s0 y0.length s1,.slice none 0 0,.slice none 0 0] 26 (0,0)) mB):g1≠g0));replace B0:=Aside0.mk (blk_below mB hb);clear hb hbox hg;have n0:=N1.out;have n1:=N0.out;obtain⟨zc,zd,ze,zf,zg⟩:=bc5 B1.out;have zh:=blk_frozen B1.out;obtain⟨s3,s4,s5⟩:=Kd.R_slice O1.out;subst s5;obtain⟨s6,s7,s8⟩:=Kd.S_slice O2.out;subst s8;obtain⟨s9,sa,sb⟩:=Kd.R_slice O3.out;subst sb)|((with_reducible refine gate_store (t:=26) (p:=4) rfl ?_);refine stV (t:=26) (p:=4) (w1:=(((((w7.setCell ⟨g1,0,none⟩ (.int .i64 t8)).setCell ⟨g1,1,none⟩ (.int .i64 t9)).setCell ⟨g1,2,none⟩ (.slice s3 ta.length s4)).setCell ⟨g1,3,none⟩ (.slice s6 tb.length s7)).setCell ⟨g1,4,none⟩ (.slice s9 tc.length sa))) (h:=?_);intro w9 hw;replace O0:Aside0 (Kd.R (Kd.int .i64) 3 w9 w.heap.size (λk_=>some k_≠(.slice s3 ta.length s4:Value).ownBlock) (.slice s0 y0.length s1) y0):=⟨(by rw[hw];exact(by(with_reducible repeat (first|apply Kd.R_alloc|apply Kd.R_drewN|apply Kd.R_drew));exact Kd.R_mono (Kd.R_far (p:=⟨g1,4,none⟩) (Kd.R_far (p:=⟨g1,3,none⟩) (Kd.R_far (p:=⟨g1,2,none⟩) (Kd.R_far (p:=⟨g1,1,none⟩) (Kd.R_far (p:=⟨g1,0,none⟩) (Kd.R_types O0.out B1.out mAQ) (λ_ hk=>hk.2) (.int .i64 t8)) (λ_ hk=>hk.2) (.int .i64 t9)) (λ_ hk=>hk.2) (.slice s3 ta.length s4)) (λ_ hk=>hk.2) (.slice s6 tb.length s7)) (λ_ hk=>hk.2) (.slice s9 tc.length sa)) (λ_ hk=>hk.1.2)))⟩;replace O1:Aside0 (Kd.R (Kd.int .i64) 3 w9 w.heap.size (λk_=>some k_≠(.slice s0 y0.length s1:Value).ownBlock) (.slice s3 ta.length s4) ta):=⟨(by rw[hw];exact(by(with_reducible repeat (first|apply Kd.R_alloc|apply Kd.R_drewN|apply Kd.R_drew));exact Kd.R_mono (Kd.R_far (p:=⟨g1,4,none⟩) (Kd.R_far (p:=⟨g1,3,none⟩) (Kd.R_far (p:=⟨g1,2,none⟩) (Kd.R_far (p:=⟨g1,1,none⟩) (Kd.R_far (p:=⟨g1,0,none⟩) (Kd.R_types O1.out B1.out mAQ) (λ_ hk=>hk.2) (.int .i64 t8)) (λ_ hk=>hk.2) (.int .i64 t9)) (λ_ hk=>hk.2) (.slice s3 ta.length s4)) (λ_ hk=>hk.2) (.slice s6 tb.length s7)) (λ_ hk=>hk.2) (.slice s9 tc.length sa)) (λ_ hk=>hk.1.2)))⟩;replace O2:Aside0 (Kd.S k45 45 w9 w.heap.size (λ_=>True) (.slice s6 tb.length s7) tb):=⟨(by rw[hw];exact(by(with_reducible repeat (first|apply Kd.S_alloc|apply Kd.S_drewN|apply Kd.S_drew));exact Kd.S_mono (Kd.S_far (p:=⟨g1,4,none⟩) (Kd.S_far (p:=⟨g1,3,none⟩) (Kd.S_far (p:=⟨g1,2,none⟩) (Kd.S_far (p:=⟨g1,1,none⟩) (Kd.S_far (p:=⟨g1,0,none⟩) (Kd.S_types O2.out B1.out mAQ) (λ_ hk=>hk.2) (.int .i64 t8)) (λ_ hk=>hk.2) (.int .i64 t9)) (λ_ hk=>hk.2) (.slice s3 ta.length s4)) (λ_ hk=>hk.2) (.slice s6 tb.length s7)) (λ_ hk=>hk.2) (.slice s9 tc.length sa)) (λ_ hk=>trivial)))⟩;replace O3:Aside0 (Kd.R k47 47 w9 w.heap.size (λ_=>True) (.slice s9 tc.length sa) tc):=⟨(by rw[hw];exact(by(with_reducible repeat (first|apply Kd.R_alloc|apply Kd.R_drewN|apply Kd.R_drew));exact Kd.R_mono (Kd.R_far (p:=⟨g1,4,none⟩) (Kd.R_far (p:=⟨g1,3,none⟩) (Kd.R_far (p:=⟨g1,2,none⟩) (Kd.R_far (p:=⟨g1,1,none⟩) (Kd.R_far (p:=⟨g1,0,none⟩) (Kd.R_types O3.out B1.out mAQ) (λ_ hk=>hk.2) (.int .i64 t8)) (λ_ hk=>hk.2) (.int .i64 t9)) (λ_ hk=>hk.2) (.slice s3 ta.length s4)) (λ_ hk=>hk.2) (.slice s6 tb.length s7)) (λ_ hk=>hk.2) (.slice s9 tc.length sa)) (λ_ hk=>trivial)))⟩;replace B0:Aside0 (w9.heap[g0]? =some (.cells #[.int .i64 1,.int .i64 2,.slice s0 y0.length s1,.slice none 0 0,.slice none 0 0] 26 (0,0))):=⟨mG⟩;replace B1:Aside0 (w9.heap[g1]? =some (.cells #[.int .i64 t8,.int .i64 t9,.slice s3 ta.length s4,.slice s6 tb.length s7,.slice s9 tc.length sa] 26 (0,0))):=⟨(by rw[hw];exact(by(with_reducible repeat (first|refine blk_drewN ?_ _|refine blk_drew ?_ |refine blk_alloc ?_ _));refine blk_put (cs:=#[.int .i64 t8,.int .i64 t9,.slice s3 ta.length s4,.slice s6 tb.length s7,.slice none 0 0]) ?_ 4 _ rfl;(with_reducible repeat (first|refine blk_drewN ?_ _|refine blk_drew ?_ |refine blk_alloc ?_ _));refine blk_put (cs:=#[.int .i64 t8,.int .i64 t9,.slice s3 ta.length s4,.slice none 0 0,.slice none 0 0]) ?_ 3 _ rfl;(with_reducible repeat (first|refine blk_drewN ?_ _|refine blk_drew ?_ |refine blk_alloc ?_ _));refine blk_put (cs:=#[.int .i64 t8,.int .i64 t9,.slice none 0 0,.slice none 0 0,.slice none 0 0]) ?_ 2 _ rfl;(with_reducible repeat (first|refine blk_drewN ?_ _|refine blk_drew ?_ |refine blk_alloc ?_ _));refine blk_put (cs:=#[.int .i64 t8,.int .i64 0,.slice none 0 0,.slice none 0 0,.slice none 0 0]) ?_ 1 _ rfl;(with_reducible repeat (first|refine blk_drewN ?_ _|refine blk_drew ?_ |refine blk_alloc ?_ _));refine blk_put (cs:=#[.int .i64 0,.int .i64 0,.slice none 0 0,.slice none 0 0,.slice none 0 0]) ?_ 0 _ rfl;(with_reducible repeat (first|refine blk_drewN ?_ _|refine blk_drew ?_ |refine blk_alloc ?_ _));exact B1.out))⟩;replace HB:Aside0 (Below w.heap.size w w9):=⟨mAR⟩;clear hw)|((with_reducible refine gate_callee (f:=9) rfl ?_);refine cLV (some 24) Try.func9 #[.agg #[.int .i64 0,.int .i64 0,.slice none 0 0,.slice none 0 0,.slice none 0 0]] (h:=?_);(refine(packet_Put.calls k 0 0 _ _ ([]:List Int) _ _ ([]:List (S45)) _ _ ([]:List (S47)) te tf _ ?side1 ?side2 ?side3 ?side4 ?side5 ?side6 A3.out).mono ?_);(case side1=>exact Kd.C_nil _ _);(case side2=>exact Nat.le_refl _);(case side3=>exact Kd.C_nil _ _);(case side4=>exact Nat.le_refl _);(case side5=>exact Kd.C_nil _ _);(case side6=>exact Nat.le_refl _);rintro e wa ⟨rfl,hb⟩;refine⟨_,rfl,?_⟩;replace O0:=Aside0.mk (Kd.R_below mN hb);replace O1:=Aside0.mk (Kd.R_below mX hb);replace O2:=Aside0.mk (Kd.S_below mAJ hb);replace O3:=Aside0.mk (Kd.R_below mY hb);replace B0:=Aside0.mk (blk_below mB hb);replace B1:=Aside0.mk (blk_below mL hb);replace HB:=Aside0.mk (below_step mD hb);(try clear hb))|((with_reducible refine gate_callee (f:=11) rfl ?_);refine cLV (some 28) Try.func11 #[.string (⟨#[]⟩:ByteArray)] (h:=?_);(with_reducible refine(packet_Get.calls k (⟨#[]⟩:ByteArray) tg th ti tj tk tl _ A4.out).mono ?_);rintro e wb ⟨v479,v482,v485,rfl,ho0,ho1,ho2,hb⟩;refine⟨_,rfl,?_⟩;have O4:=Aside0.mk (Kd.R_lower (Kd.R_new' (Kd.R_new' ho0 (Kd.R_lt mN)) (Kd.R_lt mX)) (below_size mD));replace O0:=Aside0.mk (Kd.R_elder' mN (Kd.R_base ho0) hb);replace O1:=Aside0.mk (Kd.R_elder' mX (Kd.R_base ho0) hb);have O5:=Aside0.mk (Kd.S_lower (Kd.S_new' ho1 (Kd.S_lt mAJ)) (below_size mD));replace O2:=Aside0.mk (Kd.S_elder' mAJ (Kd.S_base ho1) hb);have O6:=Aside0.mk (Kd.R_lower (Kd.R_new' ho2 (Kd.R_lt mY)) (below_size mD));replace O3:=Aside0.mk (Kd.R_elder' mY (Kd.R_base ho2) hb);replace B0:=Aside0.mk (blk_below mB hb);replace B1:=Aside0.mk (blk_below mL hb);replace HB:=Aside0.mk (below_step mD hb);(try clear hb);(try clear ho0);(try clear ho1);(try clear ho2))|((with_reducible refine gate_dst (N:=8) rfl ?_);refine bxV (N:=8) (cs:=#[.int .i64 0,.int .i64 0,.slice none 0 0,.slice none 0 0,.slice none 0 0]) (t:=26) (h:=?_);intro g2 hg wc hbox hb;replace O0:=Aside0.mk (Kd.R_below mN hb);replace O1:=Aside0.mk (Kd.R_below mX hb);replace O2:=Aside0.mk (Kd.S_below mAJ hb);replace O3:=Aside0.mk (Kd.R_below mY hb);replace O4:=Aside0.mk (Kd.R_below mCH hb);replace O5:=Aside0.mk (Kd.S_below mCG hb);replace O6:=Aside0.mk (Kd.R_below mBT hb);have B2:=Aside0.mk (hbox);have G4:=Aside0.mk ((by rw[hg];exact(below_size mD):w.heap.size<=g2));have G5:=Aside0.mk ((by rw[hg];exact(below_size mD):w.heap.size<=g2));replace HB:=Aside0.mk (below_step mD hb);have N2:=Aside0.mk ((by rw[hg];exact Nat.ne_of_lt (blk_lt (g:=g0) (o:= .cells #[.int .i64 1,.int .i64 2,.slice s0 y0.length s1,.slice none 0 0,.slice none 0 0] 26 (0,0)) mB):g0≠g2));have N3:=Aside0.mk ((by rw[hg];exact Nat.ne_of_gt (blk_lt (g:=g0) (o:= .cells #[.int .i64 1,.int .i64 2,.slice s0 y0.length s1,.slice none 0 0,.slice none 0 0] 26 (0,0)) mB):g2≠g0));replace B0:=Aside0.mk (blk_below mB hb);have N4:=Aside0.mk ((by rw[hg];exact Nat.ne_of_lt (blk_lt (g:=g1) (o:= .cells #[.int .i64 t8,.int .i64 t9,.slice s3 ta.length s4,.slice s6 tb.length s7,.slice s9 tc.length sa] 26 (0,0)) mL):g1≠g2));have N5:=Aside0.mk ((by rw[hg];exact Nat.ne_of_gt (blk_lt (g:=g1) (o:= .cells #[.int .i64 t8,.int .i64 t9,.slice s3 ta.length s4,.slice s6 tb.length s7,.slice s9 tc.length sa] 26 (0,0)) mL):g2≠g1));replace B1:=Aside0.mk (blk_below mL hb);clear hb hbox hg;have n2:=N3.out;have n3:=N2.out;have n4:=N5.out;have n5:=N4.out;obtain⟨zi,zj,zk,zl,zm⟩:=bc5 B2.out;have zn:=blk_frozen B2.out;obtain⟨sc,sd,se⟩:=Kd.R_slice O4.out;subst se;obtain⟨sf,sg,sh⟩:=Kd.S_slice O5.out;subst sh;obtain⟨si,sj,sk⟩:=Kd.R_slice O6.out;subst sk)|((with_reducible refine gate_store (t:=26) (p:=8) rfl ?_);refine stV (t:=26) (p:=8) (w1:=(((((wc.setCell ⟨g2,0,none⟩ (.int .i64 tg)).setCell ⟨g2,1,none⟩ (.int .i64 th)).setCell ⟨g2,2,none⟩ (.slice sc ti.length sd)).setCell ⟨g2,3,none⟩ (.slice sf tj.length sg)).setCell ⟨g2,4,none⟩ (.slice si tk.length sj))) (h:=?_);intro we hw;replace O0:Aside0 (Kd.R (Kd.int .i64) 3 we w.heap.size (λk_=>some k_≠(.slice s3 ta.length s4:Value).ownBlock /\some k_≠(.slice sc ti.length sd:Value).ownBlock) (.slice s0 y0.length s1) y0):=⟨(by rw[hw];exact(by(with_reducible repeat (first|apply Kd.R_alloc|apply Kd.R_drewN|apply Kd.R_drew));exact Kd.R_mono (Kd.R_far (p:=⟨g2,4,none⟩) (Kd.R_far (p:=⟨g2,3,none⟩) (Kd.R_far (p:=⟨g2,2,none⟩) (Kd.R_far (p:=⟨g2,1,none⟩) (Kd.R_far (p:=⟨g2,0,none⟩) (Kd.R_types O0.out B2.out mAQ) (λ_ hk=>hk.2) (.int .i64 tg)) (λ_ hk=>hk.2) (.int .i64 th)) (λ_ hk=>hk.2) (.slice sc ti.length sd)) (λ_ hk=>hk.2) (.slice sf tj.length sg)) (λ_ hk=>hk.2) (.slice si tk.length sj)) (λ_ hk=>⟨hk.1.1,hk.1.2⟩)))⟩;replace O1:Aside0 (Kd.R (Kd.int .i64) 3 we w.heap.size (λk_=>some k_≠(.slice s0 y0.length s1:Value).ownBlock /\some k_≠(.slice sc ti.length sd:Value).ownBlock) (.slice s3 ta.length s4) ta):=⟨(by rw[hw];exact(by(with_reducible repeat (first|apply Kd.R_alloc|apply Kd.R_drewN|apply Kd.R_drew));exact Kd.R_mono (Kd.R_far (p:=⟨g2,4,none⟩) (Kd.R_far (p:=⟨g2,3,none⟩) (Kd.R_far (p:=⟨g2,2,none⟩) (Kd.R_far (p:=⟨g2,1,none⟩) (Kd.R_far (p:=⟨g2,0,none⟩) (Kd.R_types O1.out B2.out mAQ) (λ_ hk=>hk.2) (.int .i64 tg)) (λ_ hk=>hk.2) (.int .i64 th)) (λ_ hk=>hk.2) (.slice sc ti.length sd)) (λ_ hk=>hk.2) (.slice sf tj.length sg)) (λ_ hk=>hk.2) (.slice si tk.length sj)) (λ_ hk=>⟨hk.1.1,hk.1.2⟩)))⟩;replace O2:Aside0 (Kd.S k45 45 we w.heap.size (λk_=>some k_≠(.slice sf tj.length sg:Value).ownBlock) (.slice s6 tb.length s7) tb):=⟨(by rw[hw];exact(by(with_reducible repeat (first|apply Kd.S_alloc|apply Kd.S_drewN|apply Kd.S_drew));exact Kd.S_mono (Kd.S_far (p:=⟨g2,4,none⟩) (Kd.S_far (p:=⟨g2,3,none⟩) (Kd.S_far (p:=⟨g2,2,none⟩) (Kd.S_far (p:=⟨g2,1,none⟩) (Kd.S_far (p:=⟨g2,0,none⟩) (Kd.S_types O2.out B2.out mAQ) (λ_ hk=>hk.2) (.int .i64 tg)) (λ_ hk=>hk.2) (.int .i64 th)) (λ_ hk=>hk.2) (.slice sc ti.length sd)) (λ_ hk=>hk.2) (.slice sf tj.length sg)) (λ_ hk=>hk.2) (.slice si tk.length sj)) (λ_ hk=>hk.1.2)))⟩;replace O3:Aside0 (Kd.R k47 47 we w.heap.size (λk_=>some k_≠(.slice si tk.length sj:Value).ownBlock) (.slice s9 tc.length sa) tc):=⟨(by rw[hw];exact(by(with_reducible repeat (first|apply Kd.R_alloc|apply Kd.R_drewN|apply Kd.R_drew));exact Kd.R_mono (Kd.R_far (p:=⟨g2,4,none⟩) (Kd.R_far (p:=⟨g2,3,none⟩) (Kd.R_far (p:=⟨g2,2,none⟩) (Kd.R_far (p:=⟨g2,1,none⟩) (Kd.R_far (p:=⟨g2,0,none⟩) (Kd.R_types O3.out B2.out mAQ) (λ_ hk=>hk.2) (.int .i64 tg)) (λ_ hk=>hk.2) (.int .i64 th)) (λ_ hk=>hk.2) (.slice sc ti.length sd)) (λ_ hk=>hk.2) (.slice sf tj.length sg)) (λ_ hk=>hk.2) (.slice si tk.length sj)) (λ_ hk=>hk.1.2)))⟩;replace O4:Aside0 (Kd.R (Kd.int .i64) 3 we w.heap.size (λk_=>some k_≠(.slice s0 y0.length s1:Value).ownBlock /\some k_≠(.slice s3 ta.length s4:Value).ownBlock) (.slice sc ti.length sd) ti):=⟨(by rw[hw];exact(by(with_reducible repeat (first|apply Kd.R_alloc|apply Kd.R_drewN|apply Kd.R_drew));exact Kd.R_mono (Kd.R_far (p:=⟨g2,4,none⟩) (Kd.R_far (p:=⟨g2,3,none⟩) (Kd.R_far (p:=⟨g2,2,none⟩) (Kd.R_far (p:=⟨g2,1,none⟩) (Kd.R_far (p:=⟨g2,0,none⟩) (Kd.R_types O4.out B2.out mAQ) (λ_ hk=>hk.2) (.int .i64 tg)) (λ_ hk=>hk.2) (.int .i64 th)) (λ_ hk=>hk.2) (.slice sc ti.length sd)) (λ_ hk=>hk.2) (.slice sf tj.length sg)) (λ_ hk=>hk.2) (.slice si tk.length sj)) (λ_ hk=>⟨hk.1.1.2,hk.1.2⟩)))⟩;replace O5:Aside0 (Kd.S k45 45 we w.heap.size (λk_=>some k_≠(.slice s6 tb.length s7:Value).ownBlock) (.slice sf tj.length sg) tj):=⟨(by rw[hw];exact(by(with_reducible repeat (first|apply Kd.S_alloc|apply Kd.S_drewN|apply Kd.S_drew));exact Kd.S_mono (Kd.S_far (p:=⟨g2,4,none⟩) (Kd.S_far (p:=⟨g2,3,none⟩) (Kd.S_far (p:=⟨g2,2,none⟩) (Kd.S_far (p:=⟨g2,1,none⟩) (Kd.S_far (p:=⟨g2,0,none⟩) (Kd.S_types O5.out B2.out mAQ) (λ_ hk=>hk.2) (.int .i64 tg)) (λ_ hk=>hk.2) (.int .i64 th)) (λ_ hk=>hk.2) (.slice sc ti.length sd)) (λ_ hk=>hk.2) (.slice sf tj.length sg)) (λ_ hk=>hk.2) (.slice si tk.length sj)) (λ_ hk=>hk.1.2)))⟩;replace O6:Aside0 (Kd.R k47 47 we w.heap.size (λk_=>some k_≠(.slice s9 tc.length sa:Value).ownBlock) (.slice si tk.length sj) tk):=⟨(by rw[hw];exact(by(with_reducible repeat (first|apply Kd.R_alloc|apply Kd.R_drewN|apply Kd.R_drew));exact Kd.R_mono (Kd.R_far (p:=⟨g2,4,none⟩) (Kd.R_far (p:=⟨g2,3,none⟩) (Kd.R_far (p:=⟨g2,2,none⟩) (Kd.R_far (p:=⟨g2,1,none⟩) (Kd.R_far (p:=⟨g2,0,none⟩) (Kd.R_types O6.out B2.out mAQ) (λ_ hk=>hk.2) (.int .i64 tg)) (λ_ hk=>hk.2) (.int .i64 th)) (λ_ hk=>hk.2) (.slice sc ti.length sd)) (λ_ hk=>hk.2) (.slice sf tj.length sg)) (λ_ hk=>hk.2) (.slice si tk.length sj)) (λ_ hk=>hk.1.2)))⟩;replace B0:Aside0 (we.heap[g0]? =some (.cells #[.int .i64 1,.int .i64 2,.slice s0 y0.length s1,.slice none 0 0,.slice none 0 0] 26 (0,0))):=⟨mAV⟩;replace B1:Aside0 (we.heap[g1]? =some (.cells #[.int .i64 t8,.int .i64 t9,.slice s3 ta.length s4,.slice s6 tb.length s7,.slice s9 tc.length sa] 26 (0,0))):=⟨mAU⟩;replace B2:Aside0 (we.heap[g2]? =some (.cells #[.int .i64 tg,.int .i64 th,.slice sc ti.length sd,.slice sf tj.length sg,.slice si tk.length sj] 26 (0,0))):=⟨(by rw[hw];exact(by(with_reducible repeat (first|refine blk_drewN ?_ _|refine blk_drew ?_ |refine blk_alloc ?_ _));refine blk_put (cs:=#[.int .i64 tg,.int .i64 th,.slice sc ti.length sd,.slice sf tj.length sg,.slice none 0 0]) ?_ 4 _ rfl;(with_reducible repeat (first|refine blk_drewN ?_ _|refine blk_drew ?_ |refine blk_alloc ?_ _));refine blk_put (cs:=#[.int .i64 tg,.int .i64 th,.slice sc ti.length sd,.slice none 0 0,.slice none 0 0]) ?_ 3 _ rfl;(with_reducible repeat (first|refine blk_drewN ?_ _|refine blk_drew ?_ |refine blk_alloc ?_ _));refine blk_put (cs:=#[.int .i64 tg,.int .i64 th,.slice none 0 0,.slice none 0 0,.slice none 0 0]) ?_ 2 _ rfl;(with_reducible repeat (first|refine blk_drewN ?_ _|refine blk_drew ?_ |refine blk_alloc ?_ _));refine blk_put (cs:=#[.int .i64 tg,.int .i64 0,.slice none 0 0,.slice none 0 0,.slice none 0 0]) ?_ 1 _ rfl;(with_reducible repeat (first|refine blk_drewN ?_ _|refine blk_drew ?_ |refine blk_alloc ?_ _));refine blk_put (cs:=#[.int .i64 0,.int .i64 0,.slice none 0 0,.slice none 0 0,.slice none 0 0]) ?_ 0 _ rfl;(with_reducible repeat (first|refine blk_drewN ?_ _|refine blk_drew ?_ |refine blk_alloc ?_ _));exact B2.out))⟩;replace HB:Aside0 (Below w.heap.size w we):=⟨(by rw[hw];exact mZ)⟩;clear hw)|(go_at_call 13;(with_reducible refine(watchwordlaw0_Num.calls t7 t0 _ A6.out).mono ?_);rintro e w' ⟨rfl,⟨nd,rfl⟩⟩;obtain⟨zo,zp,zq,zr,zs⟩:=bc5 B0.out;have zt:=blk_frozen B0.out;obtain⟨zu,zv,zw,zx,zy⟩:=bc5 B1.out;have zz:=blk_frozen B1.out)|(go_at_call 14;(refine(watchwordlaw0_SamePacket.calls k 1 2 _ _ y0 _ _ ([]:List (S45)) _ _ ([]:List (S47)) t8 t9 _ _ ta _ _ tb _ _ tc true _ ?side1 ?side2 ?side3 ?side4 ?side5 ?side6 ?side7 ?side8 ?side9 ?side10 ?side11 ?side12 A8.out).mono ?_);(case side1=>repeat (first|exact(Kd.R_reads' O0.out).2.2 |(with_reducible refine Kd.C_alloc ?_ _)|(with_reducible refine Kd.C_drewN ?_ _)|(with_reducible refine Kd.C_drew ?_)));(case side2=>exact(Kd.R_reads' O0.out).2.1);(case side3=>exact Kd.C_nil _ _);(case side4=>exact Nat.le_refl _);(case side5=>exact Kd.C_nil _ _);(case side6=>exact Nat.le_refl _);(case side7=>repeat (first|exact(Kd.R_reads' O1.out).2.2 |(with_reducible refine Kd.C_alloc ?_ _)|(with_reducible refine Kd.C_drewN ?_ _)|(with_reducible refine Kd.C_drew ?_)));(case side8=>exact(Kd.R_reads' O1.out).2.1);(case side9=>repeat (first|exact(Kd.S_reads' O2.out).2.2 |(with_reducible refine Kd.C_alloc ?_ _)|(with_reducible refine Kd.C_drewN ?_ _)|(with_reducible refine Kd.C_drew ?_)));(case side10=>exact(Kd.S_reads' O2.out).2.1);(case side11=>repeat (first|exact(Kd.R_reads' O3.out).2.2 |(with_reducible refine Kd.C_alloc ?_ _)|(with_reducible refine Kd.C_drewN ?_ _)|(with_reducible refine Kd.C_drew ?_)));(case side12=>exact(Kd.R_reads' O3.out).2.1);rintro e wf ⟨rfl,hb⟩;replace O0:=Aside0.mk (Kd.R_below mN hb);replace O1:=Aside0.mk (Kd.R_below mX hb);replace O2:=Aside0.mk (Kd.S_below mAJ hb);replace O3:=Aside0.mk (Kd.R_below mY hb);replace O4:=Aside0.mk (Kd.R_below mCH hb);replace O5:=Aside0.mk (Kd.S_below mCG hb);replace O6:=Aside0.mk (Kd.R_below mBT hb);replace B0:=Aside0.mk (blk_below mB hb);replace B1:=Aside0.mk (blk_below mL hb);replace B2:=Aside0.mk (blk_below mS hb);replace HB:=Aside0.mk (below_step mZ hb);(try clear hb);(try clear hb2);(try clear hk);(try clear hi))|(go_at_call 13;(with_reducible refine(watchwordlaw0_Num.calls td t2 _ A0.out).mono ?_);rintro e w' ⟨rfl,⟨nd,rfl⟩⟩)|(go_at_call 13;(with_reducible refine(watchwordlaw0_Num.calls tf t3 _ Aj.out).mono ?_);rintro e w' ⟨rfl,⟨nd,rfl⟩⟩)|(go_at_call 13;(with_reducible refine(watchwordlaw0_Num.calls tl t4 _ Al.out).mono ?_);rintro e w' ⟨rfl,⟨nd,rfl⟩⟩;obtain⟨z00,z01,z02,z03,z04⟩:=bc5 B0.out;have z05:=blk_frozen B0.out)|(go_at_call 15;(refine(packet_May.calls k 1 2 _ _ y0 _ _ ([]:List (S45)) _ _ ([]:List (S47)) t5 _ ?side1 ?side2 ?side3 ?side4 ?side5 ?side6 An.out).mono ?_);(case side1=>repeat (first|exact(Kd.R_reads' O0.out).2.2 |(with_reducible refine Kd.C_alloc ?_ _)|(with_reducible refine Kd.C_drewN ?_ _)|(with_reducible refine Kd.C_drew ?_)));(case side2=>exact(Kd.R_reads' O0.out).2.1);(case side3=>exact Kd.C_nil _ _);(case side4=>exact Nat.le_refl _);(case side5=>exact Kd.C_nil _ _);(case side6=>exact Nat.le_refl _);rintro e wg ⟨rfl,hb⟩;replace O0:=Aside0.mk (Kd.R_below mN hb);replace O1:=Aside0.mk (Kd.R_below mX hb);replace O2:=Aside0.mk (Kd.S_below mAJ hb);replace O3:=Aside0.mk (Kd.R_below mY hb);replace O4:=Aside0.mk (Kd.R_below mCH hb);replace O5:=Aside0.mk (Kd.S_below mCG hb);replace O6:=Aside0.mk (Kd.R_below mBT hb);replace B0:=Aside0.mk (blk_below mB hb);replace B1:=Aside0.mk (blk_below mL hb);replace B2:=Aside0.mk (blk_below mS hb);replace HB:=Aside0.mk (below_step mZ hb);(try clear hb);(try clear hb2);(try clear hk);(try clear hi)))
       go_ret;exact⟨by first|rfl|(simp[errW_none,errW_some] <;> rfl)|(simp[*,errW_none,errW_some] <;> rfl),by repeat (first|(with_reducible first|exact HB.out|apply below_alloc|apply pw_below_drewN|apply below_drew1|refine below_set ?_ G1.out|refine below_set ?_ G3.out|refine below_set ?_ G5.out)|exact HB.out)⟩
      ·rw[if_neg cn]at H
       have co:=beq_eq_false_iff_ne.mpr cn;have cp:=bne_iff_ne.mpr cn;exact absurd (Option.some.inj H) mCF
     ·rw[if_neg ck]at H
      have cl:=beq_eq_false_iff_ne.mpr ck;have cm:=bne_iff_ne.mpr ck;exact absurd (Option.some.inj H) mCF
    ·rw[if_neg ch]at H
     have ci:=beq_eq_false_iff_ne.mpr ch;have cj:=bne_iff_ne.mpr ch;exact absurd (Option.some.inj H) mCF
   ·replace c9:=Bool.eq_false_iff.mpr c9
    subst c9;rw[if_neg (show ¬(false=true)by decide)]at H;exact absurd (Option.some.inj H) mCF
  ·rw[if_neg c7]at H
   have ca:=beq_eq_false_iff_ne.mpr c7;have cc:=bne_iff_ne.mpr c7;exact absurd (Option.some.inj H) mCF
 ·rw[if_neg c5]at H
  have c2:=beq_eq_false_iff_ne.mpr c5;have c4:=bne_iff_ne.mpr c5;exact absurd (Option.some.inj H) mCF
def watchwordlaw12_Packets.j0:Nat->Bool->Int->Int->List Int->List (S45)->List (S47)->Int->Int->List Int->List (S45)->List (S47)->Int->Int->List Int->List (S45)->List (S47)->Option (Bool)
 |0,_,_,_,_,_,_,_,_,_,_,_,_,_,_,_,_=>none
 |k+1,x63,x493000,x493001,x493002,x493003,x493004,x494000,x494001,x494002,x494003,x494004,x511000,x511001,x511002,x511003,x511004=>if x63=true then(some false)else((watchwordlaw0_SamePacket.f k x511000 x511001 x511002 x511003 x511004 x511000 x511001 x511002 x511003 x511004).bind λt529=>((watchwordlaw0_SamePacket.f k x494000 x494001 x494002 x494003 x494004 x493000 x493001 x493002 x493003 x493004).bind λt530=>(if t530=true then((watchwordlaw12_awake.f k).bind λt531=>(some t531))else(some false))))
def watchwordlaw12_Packets.g (k:Nat) (a0_0:Int) (a0_1:Int) (l0_2:List Int) (l0_3:List (S45)) (l0_4:List (S47)) (a1:ByteArray) (a2_0:Int) (a2_1:Int) (l2_2:List Int) (l2_3:List (S45)) (l2_4:List (S47)):Option (Bool):=(packet_Put.f k a2_0 a2_1 l2_2 l2_3 l2_4).bind λbt494=>((watchwordref9_PutPacket.f k a0_0 a0_1 l0_2 l0_3 l0_4).bind λbt496=>((packet_Get.f k a1).bind λbt498=>((watchwordref9_GetPacket.f k a1).bind λbt511=>(if bt494.1.toList=bt496.1.toList then((watchwordlaw0_Num.f bt494.2).bind λt524=>(if t524=bt496.2 then((watchwordlaw0_SamePacket.f k bt498.1 bt498.2.1 bt498.2.2.1 bt498.2.2.2.1 bt498.2.2.2.2.1 bt511.1 bt511.2.1 bt511.2.2.1 bt511.2.2.2.1 bt511.2.2.2.2.1).bind λt525=>(if t525=true then((watchwordlaw0_Num.f bt498.2.2.2.2.2).bind λt526=>(if t526=bt511.2.2.2.2.2 then((packet_May.f k a2_0 a2_1 l2_2 l2_3 l2_4).bind λt527=>((watchwordref9_PacketMay.f k a0_0 a0_1 l0_2 l0_3 l0_4).bind λt528=>(watchwordlaw12_Packets.j0 k (t527 !=t528) a0_0 a0_1 l0_2 l0_3 l0_4 a2_0 a2_1 l2_2 l2_3 l2_4 bt498.1 bt498.2.1 bt498.2.2.1 bt498.2.2.2.1 bt498.2.2.2.2.1)))else(watchwordlaw12_Packets.j0 k true a0_0 a0_1 l0_2 l0_3 l0_4 a2_0 a2_1 l2_2 l2_3 l2_4 bt498.1 bt498.2.1 bt498.2.2.1 bt498.2.2.2.1 bt498.2.2.2.2.1)))else(watchwordlaw12_Packets.j0 k true a0_0 a0_1 l0_2 l0_3 l0_4 a2_0 a2_1 l2_2 l2_3 l2_4 bt498.1 bt498.2.1 bt498.2.2.1 bt498.2.2.2.1 bt498.2.2.2.2.1)))else(watchwordlaw12_Packets.j0 k true a0_0 a0_1 l0_2 l0_3 l0_4 a2_0 a2_1 l2_2 l2_3 l2_4 bt498.1 bt498.2.1 bt498.2.2.1 bt498.2.2.2.1 bt498.2.2.2.2.1)))else(watchwordlaw12_Packets.j0 k true a0_0 a0_1 l0_2 l0_3 l0_4 a2_0 a2_1 l2_2 l2_3 l2_4 bt498.1 bt498.2.1 bt498.2.2.1 bt498.2.2.2.1 bt498.2.2.2.2.1)))))
theorem watchwordlaw12_Packets.mono_l:∀k,(∀y0 y1 y2 y3 y4 y5 y6 y7 y8 y9 y10 y11 y12 y13 y14 y15,LeO (watchwordlaw12_Packets.j0 k y0 y1 y2 y3 y4 y5 y6 y7 y8 y9 y10 y11 y12 y13 y14 y15) (watchwordlaw12_Packets.j0 (k+1) y0 y1 y2 y3 y4 y5 y6 y7 y8 y9 y10 y11 y12 y13 y14 y15))
 |0=>λ_ _ _ _ _ _ _ _ _ _ _ _ _ _ _ _ r h=>by simp[watchwordlaw12_Packets.j0]at h
 |k+1=>by
  have ih0:=watchwordlaw12_Packets.mono_l k
  ·intro y0 y1 y2 y3 y4 y5 y6 y7 y8 y9 y10 y11 y12 y13 y14 y15
   unfold watchwordlaw12_Packets.j0
   repeat' (with_reducible first|exact ih0 _ _ _ _ _ _ _ _ _ _ _ _ _ _ _ _|exact packet_Get.mono _ _|exact packet_May.mono _ _ _ _ _ _|exact packet_Put.mono _ _ _ _ _ _|exact watchwordlaw0_SamePacket.mono _ _ _ _ _ _ _ _ _ _ _|exact watchwordlaw12_awake.mono _|exact watchwordref9_GetPacket.mono _ _|exact watchwordref9_PacketMay.mono _ _ _ _ _ _|exact watchwordref9_PutPacket.mono _ _ _ _ _ _|exact LeO.refl _|exact LeO.none _|refine LeO.ite ?_ ?_ |refine LeO.bind ?_ (λ_=>?_))
theorem watchwordlaw12_Packets.mono:∀a0 a1 a2 a3 a4 a5 a6 a7 a8 a9 a10 k,LeO (watchwordlaw12_Packets.g k a0 a1 a2 a3 a4 a5 a6 a7 a8 a9 a10) (watchwordlaw12_Packets.g (k+1) a0 a1 a2 a3 a4 a5 a6 a7 a8 a9 a10):=by
 intro a0 a1 a2 a3 a4 a5 a6 a7 a8 a9 a10 k;have ih0:=watchwordlaw12_Packets.mono_l k;unfold watchwordlaw12_Packets.g
 repeat' (with_reducible first|exact ih0 _ _ _ _ _ _ _ _ _ _ _ _ _ _ _ _|exact packet_Get.mono _ _|exact packet_May.mono _ _ _ _ _ _|exact packet_Put.mono _ _ _ _ _ _|exact watchwordlaw0_SamePacket.mono _ _ _ _ _ _ _ _ _ _ _|exact watchwordlaw12_awake.mono _|exact watchwordref9_GetPacket.mono _ _|exact watchwordref9_PacketMay.mono _ _ _ _ _ _|exact watchwordref9_PutPacket.mono _ _ _ _ _ _|exact LeO.refl _|exact LeO.none _|refine LeO.ite ?_ ?_ |refine LeO.bind ?_ (λ_=>?_))
def watchwordlaw12_Packets.T6:Bool × List (List Nat × List Nat):=(true,[([],[]),([],[]),([0,1],[0,1]),([2],[2]),([3],[3]),([4,3,3],[3,4]),([3],[3]),([5,6,3],[3,5,6]),([3,7],[3,7]),([8,5],[8]),([9],[9]),([9],[9]),([10,11,9,9],[9,10,11]),([12,9],[9,12]),([9,13],[9,13]),([14,12],[14]),([15],[15]),([16,15,15],[15,16]),([15],[15]),([17,18,15],[15,17,18]),([15,19],[15,19]),([20,17],[20]),([21],[21]),([22,21,21],[21,22]),([21],[21]),([24,23,21],[21,24]),([23,25,21],[21,23,25]),([21,26],[21,26])])
def watchwordlaw12_Packets.B6:List Nat:=[0,0,3,7,15,31,15,127,255,511,1023,1023,4095,8191,16383,32767,65535,131071,65535,524287,1048575,2097151,4194303,8388607,4194303,33554431,67108863,134217727]
theorem watchwordlaw12_Packets.tab6:rtab .any (opsOf Try.f3 6)=watchwordlaw12_Packets.T6:=by kernel_rfl
theorem watchwordlaw12_Packets.bits6:waitsOk watchwordlaw12_Packets.T6.2 watchwordlaw12_Packets.B6=true:=by kernel_rfl
set_option maxHeartbeats 8000000 in
set_option maxRecDepth 100000 in
theorem watchwordlaw12_Packets.walk (k:Nat) (a0_0:Int) (a0_1:Int) (A0_2:Option Addr) (c0_2:Nat) (l0_2:List Int) (A0_3:Option Addr) (c0_3:Nat) (l0_3:List (S45)) (A0_4:Option Addr) (c0_4:Nat) (l0_4:List (S47)) (a1:ByteArray) (a2_0:Int) (a2_1:Int) (l2_2:List Int) (l2_3:List (S45)) (l2_4:List (S47)) (r:Bool) (w:World) (hr0_2:Kd.C (Kd.int .i64) w A0_2 l0_2.length l0_2) (hc0_2:l0_2.length<=c0_2) (hr0_3:Kd.C k45 w A0_3 l0_3.length l0_3) (hc0_3:l0_3.length<=c0_3) (hr0_4:Kd.C k47 w A0_4 l0_4.length l0_4) (hc0_4:l0_4.length<=c0_4) (kc:Nat) (hL:watchwordlaw0_CopyPacket.f kc a0_0 a0_1 l0_2 l0_3 l0_4=some (a2_0,a2_1,l2_2,l2_3,l2_4)) (hG:∀x,packet_Get.f k a1=some x->x.2.2.1.length<=1000/\x.2.2.2.1.length<=1000000/\(∀j:Nat,j<x.2.2.2.1.length->(rd_T45 x.2.2.2.1 (j:Int)).f3.length <=1000)/\x.2.2.2.2.1.length<=1000) (h:watchwordlaw12_Packets.g k a0_0 a0_1 l0_2 l0_3 l0_4 a1 a2_0 a2_1 l2_2 l2_3 l2_4=some r) (hT:r=true):
  Calls Try.prog 3 #[.agg #[.int .i64 a0_0,.int .i64 a0_1,.slice A0_2 l0_2.length c0_2,.slice A0_3 l0_3.length c0_3,.slice A0_4 l0_4.length c0_4],.string a1] w λe w'=>e= .returned (.bool r)/\Below w.heap.size w w':=by
 have HL_:=Aside0.mk hL;have HG_:=Aside0.mk hG;clear hL hG;have hu26:=Try.underlying26;have R0:=Aside0.mk hr0_2;have K0:=Aside0.mk hc0_2;clear hr0_2 hc0_2;have R1:=Aside0.mk hr0_3;have K1:=Aside0.mk hc0_3;clear hr0_3 hc0_3;have R2:=Aside0.mk hr0_4;have K2:=Aside0.mk hc0_4;clear hr0_4 hc0_4;have HB:=Aside0.mk (Below.refl w.heap.size w);have HT:=Aside0.mk hT;clear hT;have H:((packet_Put.f k a2_0 a2_1 l2_2 l2_3 l2_4).bind λbt494=>((watchwordref9_PutPacket.f k a0_0 a0_1 l0_2 l0_3 l0_4).bind λbt496=>((packet_Get.f k a1).bind λbt498=>((watchwordref9_GetPacket.f k a1).bind λbt511=>(if bt494.1.toList=bt496.1.toList then((watchwordlaw0_Num.f bt494.2).bind λt0=>(if t0=bt496.2 then((watchwordlaw0_SamePacket.f k bt498.1 bt498.2.1 bt498.2.2.1 bt498.2.2.2.1 bt498.2.2.2.2.1 bt511.1 bt511.2.1 bt511.2.2.1 bt511.2.2.2.1 bt511.2.2.2.2.1).bind λt1=>(if t1=true then((watchwordlaw0_Num.f bt498.2.2.2.2.2).bind λt2=>(if t2=bt511.2.2.2.2.2 then((packet_May.f k a2_0 a2_1 l2_2 l2_3 l2_4).bind λt3=>((watchwordref9_PacketMay.f k a0_0 a0_1 l0_2 l0_3 l0_4).bind λt4=>(watchwordlaw12_Packets.j0 k (t3 !=t4) a0_0 a0_1 l0_2 l0_3 l0_4 a2_0 a2_1 l2_2 l2_3 l2_4 bt498.1 bt498.2.1 bt498.2.2.1 bt498.2.2.2.1 bt498.2.2.2.2.1)))else(watchwordlaw12_Packets.j0 k true a0_0 a0_1 l0_2 l0_3 l0_4 a2_0 a2_1 l2_2 l2_3 l2_4 bt498.1 bt498.2.1 bt498.2.2.1 bt498.2.2.2.1 bt498.2.2.2.2.1)))else(watchwordlaw12_Packets.j0 k true a0_0 a0_1 l0_2 l0_3 l0_4 a2_0 a2_1 l2_2 l2_3 l2_4 bt498.1 bt498.2.1 bt498.2.2.1 bt498.2.2.2.1 bt498.2.2.2.2.1)))else(watchwordlaw12_Packets.j0 k true a0_0 a0_1 l0_2 l0_3 l0_4 a2_0 a2_1 l2_2 l2_3 l2_4 bt498.1 bt498.2.1 bt498.2.2.1 bt498.2.2.2.1 bt498.2.2.2.2.1)))else(watchwordlaw12_Packets.j0 k true a0_0 a0_1 l0_2 l0_3 l0_4 a2_0 a2_1 l2_2 l2_3 l2_4 bt498.1 bt498.2.1 bt498.2.2.1 bt498.2.2.2.1 bt498.2.2.2.2.1))))))=some r:=h;clear h;obtain⟨⟨t5,t6⟩,A0,H⟩:=bsE H;(try dsimp only at H);have A4:=Aside0.mk A0;clear A0;obtain⟨⟨t7,t8⟩,A2,H⟩:=bsE H;(try dsimp only at H);have A5:=Aside0.mk A2;clear A2;obtain⟨⟨t9,ta,tb,tc,td,te⟩,A8,H⟩:=bsE H;(try dsimp only at H);have A6:=Aside0.mk A8;clear A8;obtain⟨⟨tf,tg,th,ti,tj,tk⟩,Aa,H⟩:=bsE H;(try dsimp only at H);have A7:=Aside0.mk Aa;clear Aa;have K3:=Aside0.mk H;clear H
 go_enter Try.func3,Try.ntmps3
 go_upto_region 2 with(first|((with_reducible refine gate_dst (N:=2) rfl ?_);refine bxV (N:=2) (cs:=#[.int .i64 a0_0,.int .i64 a0_1,.slice A0_2 l0_2.length c0_2,.slice A0_3 l0_3.length c0_3,.slice A0_4 l0_4.length c0_4]) (t:=26) (h:=?_);intro g0 hg w9 hbox hb;have B0:=Aside0.mk (hbox);have G0:=Aside0.mk ((mJ:w.heap.size<=g0));have G1:=Aside0.mk ((mJ:w.heap.size<=g0));replace HB:=Aside0.mk (below_step mA hb);clear hb hbox hg;obtain⟨z0,z1,z2,z3,z4⟩:=bc5 B0.out;have z5:=blk_frozen B0.out)|((with_reducible refine gate_callee (f:=8) rfl ?_);refine cLV (some 15) Try.func8 #[.agg #[.int .i64 a0_0,.int .i64 a0_1,.slice A0_2 l0_2.length c0_2,.slice A0_3 l0_3.length c0_3,.slice A0_4 l0_4.length c0_4]] (h:=?_);(with_reducible refine(watchwordlaw0_CopyPacket.calls kc a0_0 a0_1 _ _ l0_2 _ _ l0_3 _ _ l0_4 a2_0 a2_1 l2_2 l2_3 l2_4 _ ?side1 ?side2 ?side3 ?side4 ?side5 ?side6 HL_.out).mono ?_);(case side1=>repeat (first|exact(Kd.C_below R0.out HB.out)|(with_reducible refine Kd.C_alloc ?_ _)|(with_reducible refine Kd.C_drewN ?_ _)|(with_reducible refine Kd.C_drew ?_)));(case side2=>exact K0.out);(case side3=>repeat (first|exact(Kd.C_below R1.out HB.out)|(with_reducible refine Kd.C_alloc ?_ _)|(with_reducible refine Kd.C_drewN ?_ _)|(with_reducible refine Kd.C_drew ?_)));(case side4=>exact K1.out);(case side5=>repeat (first|exact(Kd.C_below R2.out HB.out)|(with_reducible refine Kd.C_alloc ?_ _)|(with_reducible refine Kd.C_drewN ?_ _)|(with_reducible refine Kd.C_drew ?_)));(case side6=>exact K2.out);rintro e wp ⟨v2_,v3_,v4_,rfl,ho0,ho1,ho2,hb⟩;refine⟨_,rfl,?_⟩;obtain⟨Ac,sa,e2_⟩:=Kd.R_slice ho0;subst e2_;obtain⟨Ad,sb,e3_⟩:=Kd.S_slice ho1;subst e3_;obtain⟨Ae,sc,e4_⟩:=Kd.R_slice ho2;subst e4_;have HX2:=Aside0.mk (Kd.R_lower ho0 (below_size mC));have HX3:=Aside0.mk (Kd.S_lower ho1 (below_size mC));have HX4:=Aside0.mk (Kd.R_lower ho2 (below_size mC));replace B0:=Aside0.mk (blk_below (g:=g0) mB hb);replace HB:=Aside0.mk (below_step mC hb);clear hb ho0 ho1 ho2)|((with_reducible refine gate_dst (N:=5) rfl ?_);refine bxV (N:=5) (cs:=#[.int .i64 0,.int .i64 0,.slice none 0 0,.slice none 0 0,.slice none 0 0]) (t:=26) (h:=?_);intro g1 hg w2 hbox hb;replace HX2:=Aside0.mk (Kd.R_below (by(with_reducible repeat (first|apply Kd.R_alloc|apply Kd.R_drewN|apply Kd.R_drew));exact HX2.out) hb);replace HX3:=Aside0.mk (Kd.S_below (by(with_reducible repeat (first|apply Kd.S_alloc|apply Kd.S_drewN|apply Kd.S_drew));exact HX3.out) hb);replace HX4:=Aside0.mk (Kd.R_below (by(with_reducible repeat (first|apply Kd.R_alloc|apply Kd.R_drewN|apply Kd.R_drew));exact HX4.out) hb);have B1:=Aside0.mk (hbox);have G2:=Aside0.mk ((mT:w.heap.size<=g1));have G3:=Aside0.mk ((mT:w.heap.size<=g1));replace HB:=Aside0.mk (below_step mC hb);have N0:=Aside0.mk ((mAG:g0≠g1));have N1:=Aside0.mk ((mAH:g1≠g0));replace B0:=Aside0.mk (blk_below mB hb);clear hb hbox hg;have n0:=N1.out;have n1:=N0.out;obtain⟨z6,z7,z8,z9,za⟩:=bc5 B1.out;have zb:=blk_frozen B1.out)|((with_reducible refine gate_store (t:=26) (p:=5) rfl ?_);refine stV (t:=26) (p:=5) (w1:=(((((w2.setCell ⟨g1,0,none⟩ (.int .i64 a2_0)).setCell ⟨g1,1,none⟩ (.int .i64 a2_1)).setCell ⟨g1,2,none⟩ (.slice Ac l2_2.length sa)).setCell ⟨g1,3,none⟩ (.slice Ad l2_3.length sb)).setCell ⟨g1,4,none⟩ (.slice Ae l2_4.length sc))) (h:=?_);intro w4 hw;have mHX2_:Aside0 (Kd.R (Kd.int .i64) 3 w4 w.heap.size (λ_=>True) (.slice Ac l2_2.length sa) l2_2):=⟨by rw[hw];exact Kd.R_mono (Kd.R_far (p:=⟨g1,4,none⟩) (Kd.R_far (p:=⟨g1,3,none⟩) (Kd.R_far (p:=⟨g1,2,none⟩) (Kd.R_far (p:=⟨g1,1,none⟩) (Kd.R_far (p:=⟨g1,0,none⟩) (Kd.R_types HX2.out B1.out mAQ) (λ_ hk=>hk.2) (.int .i64 a2_0)) (λ_ hk=>hk.2) (.int .i64 a2_1)) (λ_ hk=>hk.2) (.slice Ac l2_2.length sa)) (λ_ hk=>hk.2) (.slice Ad l2_3.length sb)) (λ_ hk=>hk.2) (.slice Ae l2_4.length sc)) (λ_ _=>trivial)⟩;clear HX2;have HX2:=mHX2_;clear mHX2_;have mHX3_:Aside0 (Kd.S k45 45 w4 w.heap.size (λ_=>True) (.slice Ad l2_3.length sb) l2_3):=⟨by rw[hw];exact Kd.S_mono (Kd.S_far (p:=⟨g1,4,none⟩) (Kd.S_far (p:=⟨g1,3,none⟩) (Kd.S_far (p:=⟨g1,2,none⟩) (Kd.S_far (p:=⟨g1,1,none⟩) (Kd.S_far (p:=⟨g1,0,none⟩) (Kd.S_types HX3.out B1.out mAQ) (λ_ hk=>hk.2) (.int .i64 a2_0)) (λ_ hk=>hk.2) (.int .i64 a2_1)) (λ_ hk=>hk.2) (.slice Ac l2_2.length sa)) (λ_ hk=>hk.2) (.slice Ad l2_3.length sb)) (λ_ hk=>hk.2) (.slice Ae l2_4.length sc)) (λ_ _=>trivial)⟩;clear HX3;have HX3:=mHX3_;clear mHX3_;have mHX4_:Aside0 (Kd.R k47 47 w4 w.heap.size (λ_=>True) (.slice Ae l2_4.length sc) l2_4):=⟨by rw[hw];exact Kd.R_mono (Kd.R_far (p:=⟨g1,4,none⟩) (Kd.R_far (p:=⟨g1,3,none⟩) (Kd.R_far (p:=⟨g1,2,none⟩) (Kd.R_far (p:=⟨g1,1,none⟩) (Kd.R_far (p:=⟨g1,0,none⟩) (Kd.R_types HX4.out B1.out mAQ) (λ_ hk=>hk.2) (.int .i64 a2_0)) (λ_ hk=>hk.2) (.int .i64 a2_1)) (λ_ hk=>hk.2) (.slice Ac l2_2.length sa)) (λ_ hk=>hk.2) (.slice Ad l2_3.length sb)) (λ_ hk=>hk.2) (.slice Ae l2_4.length sc)) (λ_ _=>trivial)⟩;clear HX4;have HX4:=mHX4_;clear mHX4_;replace B0:Aside0 (w4.heap[g0]? =some (.cells #[.int .i64 a0_0,.int .i64 a0_1,.slice A0_2 l0_2.length c0_2,.slice A0_3 l0_3.length c0_3,.slice A0_4 l0_4.length c0_4] 26 (0,0))):=⟨mG⟩;replace B1:Aside0 (w4.heap[g1]? =some (.cells #[.int .i64 a2_0,.int .i64 a2_1,.slice Ac l2_2.length sa,.slice Ad l2_3.length sb,.slice Ae l2_4.length sc] 26 (0,0))):=⟨(by rw[hw];exact(by(with_reducible repeat (first|refine blk_drewN ?_ _|refine blk_drew ?_ |refine blk_alloc ?_ _));refine blk_put (cs:=#[.int .i64 a2_0,.int .i64 a2_1,.slice Ac l2_2.length sa,.slice Ad l2_3.length sb,.slice none 0 0]) ?_ 4 _ rfl;(with_reducible repeat (first|refine blk_drewN ?_ _|refine blk_drew ?_ |refine blk_alloc ?_ _));refine blk_put (cs:=#[.int .i64 a2_0,.int .i64 a2_1,.slice Ac l2_2.length sa,.slice none 0 0,.slice none 0 0]) ?_ 3 _ rfl;(with_reducible repeat (first|refine blk_drewN ?_ _|refine blk_drew ?_ |refine blk_alloc ?_ _));refine blk_put (cs:=#[.int .i64 a2_0,.int .i64 a2_1,.slice none 0 0,.slice none 0 0,.slice none 0 0]) ?_ 2 _ rfl;(with_reducible repeat (first|refine blk_drewN ?_ _|refine blk_drew ?_ |refine blk_alloc ?_ _));refine blk_put (cs:=#[.int .i64 a2_0,.int .i64 0,.slice none 0 0,.slice none 0 0,.slice none 0 0]) ?_ 1 _ rfl;(with_reducible repeat (first|refine blk_drewN ?_ _|refine blk_drew ?_ |refine blk_alloc ?_ _));refine blk_put (cs:=#[.int .i64 0,.int .i64 0,.slice none 0 0,.slice none 0 0,.slice none 0 0]) ?_ 0 _ rfl;(with_reducible repeat (first|refine blk_drewN ?_ _|refine blk_drew ?_ |refine blk_alloc ?_ _));exact B1.out))⟩;replace HB:Aside0 (Below w.heap.size w w4):=⟨mAR⟩;clear hw;obtain⟨zc,zd,ze,zf,zg⟩:=bc5 B1.out;have zh:=blk_frozen B1.out))
 have HB0:=HB;replace R0:=Aside0.mk (Kd.C_below R0.out HB0.out);replace R1:=Aside0.mk (Kd.C_below R1.out HB0.out);replace R2:=Aside0.mk (Kd.C_below R2.out HB0.out);have R3:=Aside0.mk (Kd.R_reads' HX2.out).2.2;have K4:=Aside0.mk (Kd.R_reads' HX2.out).2.1;have R4:=Aside0.mk (Kd.S_reads' HX3.out).2.2;have K5:=Aside0.mk (Kd.S_reads' HX3.out).2.1;have R5:=Aside0.mk (Kd.R_reads' HX4.out).2.2;have K6:=Aside0.mk (Kd.R_reads' HX4.out).2.1;have BQ492:=B0;have BQ493:=B1;clear HX2 HX3 HX4 HB;have HB:=Aside0.mk (Below.refl w4.heap.size w4);have HG1_:=Aside0.mk (HG_.out (t9,ta,tb,tc,td,te) A6.out)
 go_upto_region 6 with(first|((with_reducible refine gate_callee (f:=9) rfl ?_);refine cLV (some 18) Try.func9 #[.agg #[.int .i64 a2_0,.int .i64 a2_1,.slice Ac l2_2.length sa,.slice Ad l2_3.length sb,.slice Ae l2_4.length sc]] (h:=?_);(with_reducible refine(packet_Put.calls k a2_0 a2_1 _ _ l2_2 _ _ l2_3 _ _ l2_4 t5 t6 _ ?side1 ?side2 ?side3 ?side4 ?side5 ?side6 A4.out).mono ?_);(case side1=>repeat (first|exact(Kd.C_below R3.out HB.out)|(with_reducible refine Kd.C_alloc ?_ _)|(with_reducible refine Kd.C_drewN ?_ _)|(with_reducible refine Kd.C_drew ?_)));(case side2=>exact K4.out);(case side3=>repeat (first|exact(Kd.C_below R4.out HB.out)|(with_reducible refine Kd.C_alloc ?_ _)|(with_reducible refine Kd.C_drewN ?_ _)|(with_reducible refine Kd.C_drew ?_)));(case side4=>exact K5.out);(case side5=>repeat (first|exact(Kd.C_below R5.out HB.out)|(with_reducible refine Kd.C_alloc ?_ _)|(with_reducible refine Kd.C_drewN ?_ _)|(with_reducible refine Kd.C_drew ?_)));(case side6=>exact K6.out);rintro e w5 ⟨rfl,hb⟩;refine⟨_,rfl,?_⟩;replace B0:=Aside0.mk (blk_below mB hb);replace B1:=Aside0.mk (blk_below mL hb);replace HB:=Aside0.mk (below_step mD hb);(try clear hb);obtain⟨zi,zj,zk,zl,zm⟩:=bc5 B0.out;have zn:=blk_frozen B0.out)|((with_reducible refine gate_callee (f:=10) rfl ?_);refine cLV (some 23) Try.func10 #[.agg #[.int .i64 a0_0,.int .i64 a0_1,.slice A0_2 l0_2.length c0_2,.slice A0_3 l0_3.length c0_3,.slice A0_4 l0_4.length c0_4]] (h:=?_);(with_reducible refine(watchwordref9_PutPacket.calls k a0_0 a0_1 _ _ l0_2 _ _ l0_3 _ _ l0_4 t7 t8 _ ?side1 ?side2 ?side3 ?side4 ?side5 ?side6 A5.out).mono ?_);(case side1=>repeat (first|exact(Kd.C_below R0.out HB.out)|(with_reducible refine Kd.C_alloc ?_ _)|(with_reducible refine Kd.C_drewN ?_ _)|(with_reducible refine Kd.C_drew ?_)));(case side2=>exact K0.out);(case side3=>repeat (first|exact(Kd.C_below R1.out HB.out)|(with_reducible refine Kd.C_alloc ?_ _)|(with_reducible refine Kd.C_drewN ?_ _)|(with_reducible refine Kd.C_drew ?_)));(case side4=>exact K1.out);(case side5=>repeat (first|exact(Kd.C_below R2.out HB.out)|(with_reducible refine Kd.C_alloc ?_ _)|(with_reducible refine Kd.C_drewN ?_ _)|(with_reducible refine Kd.C_drew ?_)));(case side6=>exact K2.out);rintro e w6 ⟨rfl,hb⟩;refine⟨_,rfl,?_⟩;replace B0:=Aside0.mk (blk_below mB hb);replace B1:=Aside0.mk (blk_below mL hb);replace HB:=Aside0.mk (below_step mD hb);(try clear hb))|((with_reducible refine gate_callee (f:=11) rfl ?_);refine cLV (some 28) Try.func11 #[.string a1] (h:=?_);(with_reducible refine(packet_Get.calls k a1 t9 ta tb tc td te _ A6.out).mono ?_);rintro e w7 ⟨v501,v504,v507,rfl,ho0,ho1,ho2,hb⟩;refine⟨_,rfl,?_⟩;have O0:=Aside0.mk (Kd.R_lower ho0 (below_size mD));have O1:=Aside0.mk (Kd.S_lower ho1 (below_size mD));have O2:=Aside0.mk (Kd.R_lower ho2 (below_size mD));replace B0:=Aside0.mk (blk_below mB hb);replace B1:=Aside0.mk (blk_below mL hb);replace HB:=Aside0.mk (below_step mD hb);(try clear hb);(try clear ho0);(try clear ho1);(try clear ho2))|((with_reducible refine gate_dst (N:=10) rfl ?_);refine bxV (N:=10) (cs:=#[.int .i64 0,.int .i64 0,.slice none 0 0,.slice none 0 0,.slice none 0 0]) (t:=26) (h:=?_);intro g2 hg w8 hbox hb;replace O0:=Aside0.mk (Kd.R_below mN hb);replace O1:=Aside0.mk (Kd.S_below mBA hb);replace O2:=Aside0.mk (Kd.R_below mBB hb);have B2:=Aside0.mk (hbox);have G4:=Aside0.mk ((by rw[hg];exact(below_size mD):w4.heap.size<=g2));have G5:=Aside0.mk ((by rw[hg];exact(below_size mD):w4.heap.size<=g2));replace HB:=Aside0.mk (below_step mD hb);have N2:=Aside0.mk ((by rw[hg];exact Nat.ne_of_lt (blk_lt (g:=g0) (o:= .cells #[.int .i64 a0_0,.int .i64 a0_1,.slice A0_2 l0_2.length c0_2,.slice A0_3 l0_3.length c0_3,.slice A0_4 l0_4.length c0_4] 26 (0,0)) mB):g0≠g2));have N3:=Aside0.mk ((by rw[hg];exact Nat.ne_of_gt (blk_lt (g:=g0) (o:= .cells #[.int .i64 a0_0,.int .i64 a0_1,.slice A0_2 l0_2.length c0_2,.slice A0_3 l0_3.length c0_3,.slice A0_4 l0_4.length c0_4] 26 (0,0)) mB):g2≠g0));replace B0:=Aside0.mk (blk_below mB hb);have N4:=Aside0.mk ((by rw[hg];exact Nat.ne_of_lt (blk_lt (g:=g1) (o:= .cells #[.int .i64 a2_0,.int .i64 a2_1,.slice Ac l2_2.length sa,.slice Ad l2_3.length sb,.slice Ae l2_4.length sc] 26 (0,0)) mL):g1≠g2));have N5:=Aside0.mk ((by rw[hg];exact Nat.ne_of_gt (blk_lt (g:=g1) (o:= .cells #[.int .i64 a2_0,.int .i64 a2_1,.slice Ac l2_2.length sa,.slice Ad l2_3.length sb,.slice Ae l2_4.length sc] 26 (0,0)) mL):g2≠g1));replace B1:=Aside0.mk (blk_below mL hb);clear hb hbox hg;have n2:=N3.out;have n3:=N2.out;have n4:=N5.out;have n5:=N4.out;obtain⟨zo,zp,zq,zr,zs⟩:=bc5 B2.out;have zt:=blk_frozen B2.out;obtain⟨sd,se,sf⟩:=Kd.R_slice O0.out;subst sf;obtain⟨sg,sh,si⟩:=Kd.S_slice O1.out;subst si;obtain⟨sj,sk,sl⟩:=Kd.R_slice O2.out;subst sl)|((with_reducible refine gate_store (t:=26) (p:=10) rfl ?_);refine stV (t:=26) (p:=10) (w1:=(((((w8.setCell ⟨g2,0,none⟩ (.int .i64 t9)).setCell ⟨g2,1,none⟩ (.int .i64 ta)).setCell ⟨g2,2,none⟩ (.slice sd tb.length se)).setCell ⟨g2,3,none⟩ (.slice sg tc.length sh)).setCell ⟨g2,4,none⟩ (.slice sj td.length sk))) (h:=?_);intro wb hw;replace O0:Aside0 (Kd.R (Kd.int .i64) 3 wb w4.heap.size (λ_=>True) (.slice sd tb.length se) tb):=⟨(by rw[hw];exact(by(with_reducible repeat (first|apply Kd.R_alloc|apply Kd.R_drewN|apply Kd.R_drew));exact Kd.R_mono (Kd.R_far (p:=⟨g2,4,none⟩) (Kd.R_far (p:=⟨g2,3,none⟩) (Kd.R_far (p:=⟨g2,2,none⟩) (Kd.R_far (p:=⟨g2,1,none⟩) (Kd.R_far (p:=⟨g2,0,none⟩) (Kd.R_types O0.out B2.out mAQ) (λ_ hk=>hk.2) (.int .i64 t9)) (λ_ hk=>hk.2) (.int .i64 ta)) (λ_ hk=>hk.2) (.slice sd tb.length se)) (λ_ hk=>hk.2) (.slice sg tc.length sh)) (λ_ hk=>hk.2) (.slice sj td.length sk)) (λ_ hk=>trivial)))⟩;replace O1:Aside0 (Kd.S k45 45 wb w4.heap.size (λ_=>True) (.slice sg tc.length sh) tc):=⟨(by rw[hw];exact(by(with_reducible repeat (first|apply Kd.S_alloc|apply Kd.S_drewN|apply Kd.S_drew));exact Kd.S_mono (Kd.S_far (p:=⟨g2,4,none⟩) (Kd.S_far (p:=⟨g2,3,none⟩) (Kd.S_far (p:=⟨g2,2,none⟩) (Kd.S_far (p:=⟨g2,1,none⟩) (Kd.S_far (p:=⟨g2,0,none⟩) (Kd.S_types O1.out B2.out mAQ) (λ_ hk=>hk.2) (.int .i64 t9)) (λ_ hk=>hk.2) (.int .i64 ta)) (λ_ hk=>hk.2) (.slice sd tb.length se)) (λ_ hk=>hk.2) (.slice sg tc.length sh)) (λ_ hk=>hk.2) (.slice sj td.length sk)) (λ_ hk=>trivial)))⟩;replace O2:Aside0 (Kd.R k47 47 wb w4.heap.size (λ_=>True) (.slice sj td.length sk) td):=⟨(by rw[hw];exact(by(with_reducible repeat (first|apply Kd.R_alloc|apply Kd.R_drewN|apply Kd.R_drew));exact Kd.R_mono (Kd.R_far (p:=⟨g2,4,none⟩) (Kd.R_far (p:=⟨g2,3,none⟩) (Kd.R_far (p:=⟨g2,2,none⟩) (Kd.R_far (p:=⟨g2,1,none⟩) (Kd.R_far (p:=⟨g2,0,none⟩) (Kd.R_types O2.out B2.out mAQ) (λ_ hk=>hk.2) (.int .i64 t9)) (λ_ hk=>hk.2) (.int .i64 ta)) (λ_ hk=>hk.2) (.slice sd tb.length se)) (λ_ hk=>hk.2) (.slice sg tc.length sh)) (λ_ hk=>hk.2) (.slice sj td.length sk)) (λ_ hk=>trivial)))⟩;replace B0:Aside0 (wb.heap[g0]? =some (.cells #[.int .i64 a0_0,.int .i64 a0_1,.slice A0_2 l0_2.length c0_2,.slice A0_3 l0_3.length c0_3,.slice A0_4 l0_4.length c0_4] 26 (0,0))):=⟨mAV⟩;replace B1:Aside0 (wb.heap[g1]? =some (.cells #[.int .i64 a2_0,.int .i64 a2_1,.slice Ac l2_2.length sa,.slice Ad l2_3.length sb,.slice Ae l2_4.length sc] 26 (0,0))):=⟨mAU⟩;replace B2:Aside0 (wb.heap[g2]? =some (.cells #[.int .i64 t9,.int .i64 ta,.slice sd tb.length se,.slice sg tc.length sh,.slice sj td.length sk] 26 (0,0))):=⟨(by rw[hw];exact(by(with_reducible repeat (first|refine blk_drewN ?_ _|refine blk_drew ?_ |refine blk_alloc ?_ _));refine blk_put (cs:=#[.int .i64 t9,.int .i64 ta,.slice sd tb.length se,.slice sg tc.length sh,.slice none 0 0]) ?_ 4 _ rfl;(with_reducible repeat (first|refine blk_drewN ?_ _|refine blk_drew ?_ |refine blk_alloc ?_ _));refine blk_put (cs:=#[.int .i64 t9,.int .i64 ta,.slice sd tb.length se,.slice none 0 0,.slice none 0 0]) ?_ 3 _ rfl;(with_reducible repeat (first|refine blk_drewN ?_ _|refine blk_drew ?_ |refine blk_alloc ?_ _));refine blk_put (cs:=#[.int .i64 t9,.int .i64 ta,.slice none 0 0,.slice none 0 0,.slice none 0 0]) ?_ 2 _ rfl;(with_reducible repeat (first|refine blk_drewN ?_ _|refine blk_drew ?_ |refine blk_alloc ?_ _));refine blk_put (cs:=#[.int .i64 t9,.int .i64 0,.slice none 0 0,.slice none 0 0,.slice none 0 0]) ?_ 1 _ rfl;(with_reducible repeat (first|refine blk_drewN ?_ _|refine blk_drew ?_ |refine blk_alloc ?_ _));refine blk_put (cs:=#[.int .i64 0,.int .i64 0,.slice none 0 0,.slice none 0 0,.slice none 0 0]) ?_ 0 _ rfl;(with_reducible repeat (first|refine blk_drewN ?_ _|refine blk_drew ?_ |refine blk_alloc ?_ _));exact B2.out))⟩;replace HB:Aside0 (Below w4.heap.size w4 wb):=⟨(by rw[hw];exact mZ)⟩;clear hw)|((with_reducible refine gate_callee (f:=12) rfl ?_);refine cLV (some 33) Try.func12 #[.string a1] (h:=?_);(with_reducible refine(watchwordref9_GetPacket.calls k a1 tf tg th ti tj tk _ A7.out).mono ?_);rintro e wd ⟨v514,v517,v520,rfl,ho0,ho1,ho2,hb⟩;refine⟨_,rfl,?_⟩;have O3:=Aside0.mk (Kd.R_lower (Kd.R_new' ho0 (Kd.R_lt mN)) (below_size mZ));replace O0:=Aside0.mk (Kd.R_elder' mN (Kd.R_base ho0) hb);have O4:=Aside0.mk (Kd.S_lower (Kd.S_new' ho1 (Kd.S_lt mBA)) (below_size mZ));replace O1:=Aside0.mk (Kd.S_elder' mBA (Kd.S_base ho1) hb);have O5:=Aside0.mk (Kd.R_lower (Kd.R_new' ho2 (Kd.R_lt mBB)) (below_size mZ));replace O2:=Aside0.mk (Kd.R_elder' mBB (Kd.R_base ho2) hb);replace B0:=Aside0.mk (blk_below mB hb);replace B1:=Aside0.mk (blk_below mL hb);replace B2:=Aside0.mk (blk_below mS hb);replace HB:=Aside0.mk (below_step mZ hb);(try clear hb);(try clear ho0);(try clear ho1);(try clear ho2))|((with_reducible refine gate_dst (N:=12) rfl ?_);refine bxV (N:=12) (cs:=#[.int .i64 0,.int .i64 0,.slice none 0 0,.slice none 0 0,.slice none 0 0]) (t:=26) (h:=?_);intro g3 hg we hbox hb;replace O0:=Aside0.mk (Kd.R_below mN hb);replace O1:=Aside0.mk (Kd.S_below mBA hb);replace O2:=Aside0.mk (Kd.R_below mBB hb);replace O3:=Aside0.mk (Kd.R_below mY hb);replace O4:=Aside0.mk (Kd.S_below mBS hb);replace O5:=Aside0.mk (Kd.R_below mBU hb);have B3:=Aside0.mk (hbox);have G6:=Aside0.mk ((by rw[hg];exact(below_size mZ):w4.heap.size<=g3));have G7:=Aside0.mk ((by rw[hg];exact(below_size mZ):w4.heap.size<=g3));replace HB:=Aside0.mk (below_step mZ hb);have N6:=Aside0.mk ((by rw[hg];exact Nat.ne_of_lt (blk_lt (g:=g0) (o:= .cells #[.int .i64 a0_0,.int .i64 a0_1,.slice A0_2 l0_2.length c0_2,.slice A0_3 l0_3.length c0_3,.slice A0_4 l0_4.length c0_4] 26 (0,0)) mB):g0≠g3));have N7:=Aside0.mk ((by rw[hg];exact Nat.ne_of_gt (blk_lt (g:=g0) (o:= .cells #[.int .i64 a0_0,.int .i64 a0_1,.slice A0_2 l0_2.length c0_2,.slice A0_3 l0_3.length c0_3,.slice A0_4 l0_4.length c0_4] 26 (0,0)) mB):g3≠g0));replace B0:=Aside0.mk (blk_below mB hb);have N8:=Aside0.mk ((by rw[hg];exact Nat.ne_of_lt (blk_lt (g:=g1) (o:= .cells #[.int .i64 a2_0,.int .i64 a2_1,.slice Ac l2_2.length sa,.slice Ad l2_3.length sb,.slice Ae l2_4.length sc] 26 (0,0)) mL):g1≠g3));have N9:=Aside0.mk ((by rw[hg];exact Nat.ne_of_gt (blk_lt (g:=g1) (o:= .cells #[.int .i64 a2_0,.int .i64 a2_1,.slice Ac l2_2.length sa,.slice Ad l2_3.length sb,.slice Ae l2_4.length sc] 26 (0,0)) mL):g3≠g1));replace B1:=Aside0.mk (blk_below mL hb);have Na:=Aside0.mk ((by rw[hg];exact Nat.ne_of_lt (blk_lt (g:=g2) (o:= .cells #[.int .i64 t9,.int .i64 ta,.slice sd tb.length se,.slice sg tc.length sh,.slice sj td.length sk] 26 (0,0)) mS):g2≠g3));have Nb:=Aside0.mk ((by rw[hg];exact Nat.ne_of_gt (blk_lt (g:=g2) (o:= .cells #[.int .i64 t9,.int .i64 ta,.slice sd tb.length se,.slice sg tc.length sh,.slice sj td.length sk] 26 (0,0)) mS):g3≠g2));replace B2:=Aside0.mk (blk_below mS hb);clear hb hbox hg;have n6:=N7.out;have n7:=N6.out;have n8:=N9.out;have n9:=N8.out;have na:=Nb.out;have nb:=Na.out;obtain⟨zu,zv,zw,zx,zy⟩:=bc5 B3.out;have zz:=blk_frozen B3.out;obtain⟨sm,sn,so⟩:=Kd.R_slice O3.out;subst so;obtain⟨sp,sq,sr⟩:=Kd.S_slice O4.out;subst sr;obtain⟨ss,st,su⟩:=Kd.R_slice O5.out;subst su)|((with_reducible refine gate_store (t:=26) (p:=12) rfl ?_);refine stV (t:=26) (p:=12) (w1:=(((((we.setCell ⟨g3,0,none⟩ (.int .i64 tf)).setCell ⟨g3,1,none⟩ (.int .i64 tg)).setCell ⟨g3,2,none⟩ (.slice sm th.length sn)).setCell ⟨g3,3,none⟩ (.slice sp ti.length sq)).setCell ⟨g3,4,none⟩ (.slice ss tj.length st))) (h:=?_);intro wg hw;replace O0:Aside0 (Kd.R (Kd.int .i64) 3 wg w4.heap.size (λk_=>some k_≠(.slice sm th.length sn:Value).ownBlock) (.slice sd tb.length se) tb):=⟨(by rw[hw];exact(by(with_reducible repeat (first|apply Kd.R_alloc|apply Kd.R_drewN|apply Kd.R_drew));exact Kd.R_mono (Kd.R_far (p:=⟨g3,4,none⟩) (Kd.R_far (p:=⟨g3,3,none⟩) (Kd.R_far (p:=⟨g3,2,none⟩) (Kd.R_far (p:=⟨g3,1,none⟩) (Kd.R_far (p:=⟨g3,0,none⟩) (Kd.R_types O0.out B3.out mAQ) (λ_ hk=>hk.2) (.int .i64 tf)) (λ_ hk=>hk.2) (.int .i64 tg)) (λ_ hk=>hk.2) (.slice sm th.length sn)) (λ_ hk=>hk.2) (.slice sp ti.length sq)) (λ_ hk=>hk.2) (.slice ss tj.length st)) (λ_ hk=>hk.1.2)))⟩;replace O1:Aside0 (Kd.S k45 45 wg w4.heap.size (λk_=>some k_≠(.slice sp ti.length sq:Value).ownBlock) (.slice sg tc.length sh) tc):=⟨(by rw[hw];exact(by(with_reducible repeat (first|apply Kd.S_alloc|apply Kd.S_drewN|apply Kd.S_drew));exact Kd.S_mono (Kd.S_far (p:=⟨g3,4,none⟩) (Kd.S_far (p:=⟨g3,3,none⟩) (Kd.S_far (p:=⟨g3,2,none⟩) (Kd.S_far (p:=⟨g3,1,none⟩) (Kd.S_far (p:=⟨g3,0,none⟩) (Kd.S_types O1.out B3.out mAQ) (λ_ hk=>hk.2) (.int .i64 tf)) (λ_ hk=>hk.2) (.int .i64 tg)) (λ_ hk=>hk.2) (.slice sm th.length sn)) (λ_ hk=>hk.2) (.slice sp ti.length sq)) (λ_ hk=>hk.2) (.slice ss tj.length st)) (λ_ hk=>hk.1.2)))⟩;replace O2:Aside0 (Kd.R k47 47 wg w4.heap.size (λk_=>some k_≠(.slice ss tj.length st:Value).ownBlock) (.slice sj td.length sk) td):=⟨(by rw[hw];exact(by(with_reducible repeat (first|apply Kd.R_alloc|apply Kd.R_drewN|apply Kd.R_drew));exact Kd.R_mono (Kd.R_far (p:=⟨g3,4,none⟩) (Kd.R_far (p:=⟨g3,3,none⟩) (Kd.R_far (p:=⟨g3,2,none⟩) (Kd.R_far (p:=⟨g3,1,none⟩) (Kd.R_far (p:=⟨g3,0,none⟩) (Kd.R_types O2.out B3.out mAQ) (λ_ hk=>hk.2) (.int .i64 tf)) (λ_ hk=>hk.2) (.int .i64 tg)) (λ_ hk=>hk.2) (.slice sm th.length sn)) (λ_ hk=>hk.2) (.slice sp ti.length sq)) (λ_ hk=>hk.2) (.slice ss tj.length st)) (λ_ hk=>hk.1.2)))⟩;replace O3:Aside0 (Kd.R (Kd.int .i64) 3 wg w4.heap.size (λk_=>some k_≠(.slice sd tb.length se:Value).ownBlock) (.slice sm th.length sn) th):=⟨(by rw[hw];exact(by(with_reducible repeat (first|apply Kd.R_alloc|apply Kd.R_drewN|apply Kd.R_drew));exact Kd.R_mono (Kd.R_far (p:=⟨g3,4,none⟩) (Kd.R_far (p:=⟨g3,3,none⟩) (Kd.R_far (p:=⟨g3,2,none⟩) (Kd.R_far (p:=⟨g3,1,none⟩) (Kd.R_far (p:=⟨g3,0,none⟩) (Kd.R_types O3.out B3.out mAQ) (λ_ hk=>hk.2) (.int .i64 tf)) (λ_ hk=>hk.2) (.int .i64 tg)) (λ_ hk=>hk.2) (.slice sm th.length sn)) (λ_ hk=>hk.2) (.slice sp ti.length sq)) (λ_ hk=>hk.2) (.slice ss tj.length st)) (λ_ hk=>hk.1.2)))⟩;replace O4:Aside0 (Kd.S k45 45 wg w4.heap.size (λk_=>some k_≠(.slice sg tc.length sh:Value).ownBlock) (.slice sp ti.length sq) ti):=⟨(by rw[hw];exact(by(with_reducible repeat (first|apply Kd.S_alloc|apply Kd.S_drewN|apply Kd.S_drew));exact Kd.S_mono (Kd.S_far (p:=⟨g3,4,none⟩) (Kd.S_far (p:=⟨g3,3,none⟩) (Kd.S_far (p:=⟨g3,2,none⟩) (Kd.S_far (p:=⟨g3,1,none⟩) (Kd.S_far (p:=⟨g3,0,none⟩) (Kd.S_types O4.out B3.out mAQ) (λ_ hk=>hk.2) (.int .i64 tf)) (λ_ hk=>hk.2) (.int .i64 tg)) (λ_ hk=>hk.2) (.slice sm th.length sn)) (λ_ hk=>hk.2) (.slice sp ti.length sq)) (λ_ hk=>hk.2) (.slice ss tj.length st)) (λ_ hk=>hk.1.2)))⟩;replace O5:Aside0 (Kd.R k47 47 wg w4.heap.size (λk_=>some k_≠(.slice sj td.length sk:Value).ownBlock) (.slice ss tj.length st) tj):=⟨(by rw[hw];exact(by(with_reducible repeat (first|apply Kd.R_alloc|apply Kd.R_drewN|apply Kd.R_drew));exact Kd.R_mono (Kd.R_far (p:=⟨g3,4,none⟩) (Kd.R_far (p:=⟨g3,3,none⟩) (Kd.R_far (p:=⟨g3,2,none⟩) (Kd.R_far (p:=⟨g3,1,none⟩) (Kd.R_far (p:=⟨g3,0,none⟩) (Kd.R_types O5.out B3.out mAQ) (λ_ hk=>hk.2) (.int .i64 tf)) (λ_ hk=>hk.2) (.int .i64 tg)) (λ_ hk=>hk.2) (.slice sm th.length sn)) (λ_ hk=>hk.2) (.slice sp ti.length sq)) (λ_ hk=>hk.2) (.slice ss tj.length st)) (λ_ hk=>hk.1.2)))⟩;replace B0:Aside0 (wg.heap[g0]? =some (.cells #[.int .i64 a0_0,.int .i64 a0_1,.slice A0_2 l0_2.length c0_2,.slice A0_3 l0_3.length c0_3,.slice A0_4 l0_4.length c0_4] 26 (0,0))):=⟨(by rw[hw];exact(by(with_reducible repeat (first|refine blk_drewN ?_ _|refine blk_drew ?_ |refine blk_alloc ?_ _));refine blk_far ?_ N6.out _;(with_reducible repeat (first|refine blk_drewN ?_ _|refine blk_drew ?_ |refine blk_alloc ?_ _));refine blk_far ?_ N6.out _;(with_reducible repeat (first|refine blk_drewN ?_ _|refine blk_drew ?_ |refine blk_alloc ?_ _));refine blk_far ?_ N6.out _;(with_reducible repeat (first|refine blk_drewN ?_ _|refine blk_drew ?_ |refine blk_alloc ?_ _));refine blk_far ?_ N6.out _;(with_reducible repeat (first|refine blk_drewN ?_ _|refine blk_drew ?_ |refine blk_alloc ?_ _));refine blk_far ?_ N6.out _;(with_reducible repeat (first|refine blk_drewN ?_ _|refine blk_drew ?_ |refine blk_alloc ?_ _));exact B0.out))⟩;replace B1:Aside0 (wg.heap[g1]? =some (.cells #[.int .i64 a2_0,.int .i64 a2_1,.slice Ac l2_2.length sa,.slice Ad l2_3.length sb,.slice Ae l2_4.length sc] 26 (0,0))):=⟨(by rw[hw];exact(by(with_reducible repeat (first|refine blk_drewN ?_ _|refine blk_drew ?_ |refine blk_alloc ?_ _));refine blk_far ?_ N8.out _;(with_reducible repeat (first|refine blk_drewN ?_ _|refine blk_drew ?_ |refine blk_alloc ?_ _));refine blk_far ?_ N8.out _;(with_reducible repeat (first|refine blk_drewN ?_ _|refine blk_drew ?_ |refine blk_alloc ?_ _));refine blk_far ?_ N8.out _;(with_reducible repeat (first|refine blk_drewN ?_ _|refine blk_drew ?_ |refine blk_alloc ?_ _));refine blk_far ?_ N8.out _;(with_reducible repeat (first|refine blk_drewN ?_ _|refine blk_drew ?_ |refine blk_alloc ?_ _));refine blk_far ?_ N8.out _;(with_reducible repeat (first|refine blk_drewN ?_ _|refine blk_drew ?_ |refine blk_alloc ?_ _));exact B1.out))⟩;replace B2:Aside0 (wg.heap[g2]? =some (.cells #[.int .i64 t9,.int .i64 ta,.slice sd tb.length se,.slice sg tc.length sh,.slice sj td.length sk] 26 (0,0))):=⟨(by rw[hw];exact(by(with_reducible repeat (first|refine blk_drewN ?_ _|refine blk_drew ?_ |refine blk_alloc ?_ _));refine blk_far ?_ Na.out _;(with_reducible repeat (first|refine blk_drewN ?_ _|refine blk_drew ?_ |refine blk_alloc ?_ _));refine blk_far ?_ Na.out _;(with_reducible repeat (first|refine blk_drewN ?_ _|refine blk_drew ?_ |refine blk_alloc ?_ _));refine blk_far ?_ Na.out _;(with_reducible repeat (first|refine blk_drewN ?_ _|refine blk_drew ?_ |refine blk_alloc ?_ _));refine blk_far ?_ Na.out _;(with_reducible repeat (first|refine blk_drewN ?_ _|refine blk_drew ?_ |refine blk_alloc ?_ _));refine blk_far ?_ Na.out _;(with_reducible repeat (first|refine blk_drewN ?_ _|refine blk_drew ?_ |refine blk_alloc ?_ _));exact B2.out))⟩;replace B3:Aside0 (wg.heap[g3]? =some (.cells #[.int .i64 tf,.int .i64 tg,.slice sm th.length sn,.slice sp ti.length sq,.slice ss tj.length st] 26 (0,0))):=⟨(by rw[hw];exact(by(with_reducible repeat (first|refine blk_drewN ?_ _|refine blk_drew ?_ |refine blk_alloc ?_ _));refine blk_put (cs:=#[.int .i64 tf,.int .i64 tg,.slice sm th.length sn,.slice sp ti.length sq,.slice none 0 0]) ?_ 4 _ rfl;(with_reducible repeat (first|refine blk_drewN ?_ _|refine blk_drew ?_ |refine blk_alloc ?_ _));refine blk_put (cs:=#[.int .i64 tf,.int .i64 tg,.slice sm th.length sn,.slice none 0 0,.slice none 0 0]) ?_ 3 _ rfl;(with_reducible repeat (first|refine blk_drewN ?_ _|refine blk_drew ?_ |refine blk_alloc ?_ _));refine blk_put (cs:=#[.int .i64 tf,.int .i64 tg,.slice none 0 0,.slice none 0 0,.slice none 0 0]) ?_ 2 _ rfl;(with_reducible repeat (first|refine blk_drewN ?_ _|refine blk_drew ?_ |refine blk_alloc ?_ _));refine blk_put (cs:=#[.int .i64 tf,.int .i64 0,.slice none 0 0,.slice none 0 0,.slice none 0 0]) ?_ 1 _ rfl;(with_reducible repeat (first|refine blk_drewN ?_ _|refine blk_drew ?_ |refine blk_alloc ?_ _));refine blk_put (cs:=#[.int .i64 0,.int .i64 0,.slice none 0 0,.slice none 0 0,.slice none 0 0]) ?_ 0 _ rfl;(with_reducible repeat (first|refine blk_drewN ?_ _|refine blk_drew ?_ |refine blk_alloc ?_ _));exact B3.out))⟩;replace HB:Aside0 (Below w4.heap.size w4 wg):=⟨(by rw[hw];exact mAA)⟩;clear hw))
 (try simp only[Act.put,List.setIfInBounds_toArray,List.set_cons_zero,List.set_cons_succ])
 go_cut [63] (λv63 wc=>∃(kq:Nat) (x5:Bool),v63= .bool x5/\Aside0 (watchwordlaw12_Packets.j0 kq x5 a0_0 a0_1 l0_2 l0_3 l0_4 a2_0 a2_1 l2_2 l2_3 l2_4 t9 ta tb tc td=some r)/\Aside0 (kq<=k)/\Aside0 (Kd.R (Kd.int .i64) 3 wc w4.heap.size (λk_=>some k_≠((.slice sm th.length sn):Value).ownBlock) (.slice sd tb.length se) tb)/\Aside0 (Kd.S k45 45 wc w4.heap.size (λk_=>some k_≠((.slice sp ti.length sq):Value).ownBlock) (.slice sg tc.length sh) tc)/\Aside0 (Kd.R k47 47 wc w4.heap.size (λk_=>some k_≠((.slice ss tj.length st):Value).ownBlock) (.slice sj td.length sk) td)/\Aside0 (Kd.R (Kd.int .i64) 3 wc w4.heap.size (λk_=>some k_≠((.slice sd tb.length se):Value).ownBlock) (.slice sm th.length sn) th)/\Aside0 (Kd.S k45 45 wc w4.heap.size (λk_=>some k_≠((.slice sg tc.length sh):Value).ownBlock) (.slice sp ti.length sq) ti)/\Aside0 (Kd.R k47 47 wc w4.heap.size (λk_=>some k_≠((.slice sj td.length sk):Value).ownBlock) (.slice ss tj.length st) tj)/\Aside0 (wc.heap[g0]? =some (.cells #[.int .i64 a0_0,.int .i64 a0_1,(.slice A0_2 l0_2.length c0_2),(.slice A0_3 l0_3.length c0_3),(.slice A0_4 l0_4.length c0_4)] 26 (0,0)))/\Aside0 (wc.heap[g1]? =some (.cells #[.int .i64 a2_0,.int .i64 a2_1,(.slice Ac l2_2.length sa),(.slice Ad l2_3.length sb),(.slice Ae l2_4.length sc)] 26 (0,0)))/\Aside0 (wc.heap[g2]? =some (.cells #[.int .i64 t9,.int .i64 ta,(.slice sd tb.length se),(.slice sg tc.length sh),(.slice sj td.length sk)] 26 (0,0)))/\Aside0 (wc.heap[g3]? =some (.cells #[.int .i64 tf,.int .i64 tg,(.slice sm th.length sn),(.slice sp ti.length sq),(.slice ss tj.length st)] 26 (0,0)))/\Aside0 (Below w4.heap.size w4 wc))
 case first=>
  have H:=K3.out;clear K3
  by_cases c0:t5.toList=t7.toList
  ·rw[if_pos c0]at H
   have c5:=beq_iff_eq.mpr c0;have c6:=bne_eq_false_iff_eq.mpr c0;clear c0
   (first|rw[c5]|(simp only[i64_w,i32_w];rw[c5])|skip)
   obtain⟨t0,Ak,H⟩:=bsE H;(try dsimp only at H);have Al:=Aside0.mk Ak;clear Ak
   by_cases c7:t0=t8
   ·rw[if_pos c7]at H
    have c8:=beq_iff_eq.mpr c7;have ca:=bne_eq_false_iff_eq.mpr c7;clear c7;obtain⟨t1,Am,H⟩:=bsE H;(try dsimp only at H);have An:=Aside0.mk Am;clear Am
    by_cases cb:t1=true
    ·subst cb
     rw[if_pos rfl]at H;obtain⟨t2,Ao,H⟩:=bsE H;(try dsimp only at H);have Ap:=Aside0.mk Ao;clear Ao
     by_cases cc:t2=tk
     ·rw[if_pos cc]at H
      have cd:=beq_iff_eq.mpr cc;have ce:=bne_eq_false_iff_eq.mpr cc;clear cc;obtain⟨t3,Aq,H⟩:=bsE H;(try dsimp only at H);have Ar:=Aside0.mk Aq;clear Aq;obtain⟨t4,As,H⟩:=bsE H;(try dsimp only at H);have At:=Aside0.mk As;clear As;have H':=Aside0.mk H;clear H;(try go_wp2);replace O0:=Aside0.mk (Kd.R_drew O0.out);replace O1:=Aside0.mk (Kd.S_drew O1.out);replace O2:=Aside0.mk (Kd.R_drew O2.out);replace O3:=Aside0.mk (Kd.R_drew O3.out);replace O4:=Aside0.mk (Kd.S_drew O4.out);replace O5:=Aside0.mk (Kd.R_drew O5.out);replace B0:=Aside0.mk (blk_drew B0.out);replace B1:=Aside0.mk (blk_drew B1.out);replace B2:=Aside0.mk (blk_drew B2.out);replace B3:=Aside0.mk (blk_drew B3.out);replace HB:=Aside0.mk (below_drew1 HB.out);refine start_ (n:=28) (S:=λw'=>w'.cell? ⟨g2,0,none⟩=some (.int .i64 t9)/\w'.cell? ⟨g2,1,none⟩=some (.int .i64 ta)/\w'.cell? ⟨g2,2,none⟩=some (.slice sd tb.length se)/\w'.cell? ⟨g2,3,none⟩=some (.slice sg tc.length sh)/\w'.cell? ⟨g2,4,none⟩=some (.slice sj td.length sk)/\w'.cell? ⟨g3,0,none⟩=some (.int .i64 tf)/\w'.cell? ⟨g3,1,none⟩=some (.int .i64 tg)/\w'.cell? ⟨g3,2,none⟩=some (.slice sm th.length sn)/\w'.cell? ⟨g3,3,none⟩=some (.slice sp ti.length sq)/\w'.cell? ⟨g3,4,none⟩=some (.slice ss tj.length st)/\w'.cell? ⟨g1,0,none⟩=some (.int .i64 a2_0)/\w'.cell? ⟨g1,1,none⟩=some (.int .i64 a2_1)/\w'.cell? ⟨g1,2,none⟩=some (.slice Ac l2_2.length sa)/\w'.cell? ⟨g1,3,none⟩=some (.slice Ad l2_3.length sb)/\w'.cell? ⟨g1,4,none⟩=some (.slice Ae l2_4.length sc)/\w'.cell? ⟨g0,0,none⟩=some (.int .i64 a0_0)/\w'.cell? ⟨g0,1,none⟩=some (.int .i64 a0_1)/\w'.cell? ⟨g0,2,none⟩=some (.slice A0_2 l0_2.length c0_2)/\w'.cell? ⟨g0,3,none⟩=some (.slice A0_3 l0_3.length c0_3)/\w'.cell? ⟨g0,4,none⟩=some (.slice A0_4 l0_4.length c0_4)) (ds:=[]) mk_28_0 mAD rfl rfl ⟨(blk_cell B2.out 0).trans rfl,(blk_cell B2.out 1).trans rfl,(blk_cell B2.out 2).trans rfl,(blk_cell B2.out 3).trans rfl,(blk_cell B2.out 4).trans rfl,(blk_cell B3.out 0).trans rfl,(blk_cell B3.out 1).trans rfl,(blk_cell B3.out 2).trans rfl,(blk_cell B3.out 3).trans rfl,(blk_cell B3.out 4).trans rfl,(blk_cell B1.out 0).trans rfl,(blk_cell B1.out 1).trans rfl,(blk_cell B1.out 2).trans rfl,(blk_cell B1.out 3).trans rfl,(blk_cell B1.out 4).trans rfl,(blk_cell B0.out 0).trans rfl,(blk_cell B0.out 1).trans rfl,(blk_cell B0.out 2).trans rfl,(blk_cell B0.out 3).trans rfl,(blk_cell B0.out 4).trans rfl⟩ (λhHeld=>?_);refine with_tabW watchwordlaw12_Packets.tab6 watchwordlaw12_Packets.bits6 (λHT_ HW_=>?_);generalize wg.drew=wh at O0 O1 O2 O3 O4 O5 B0 B1 B2 B3 HB hHeld |-;refine pV 0 36 mk_28_1 ?_;refine pV 1 37 mk_28_2 ?_;refine pV 2 38 mk_28_3 ?_;refine pV 3 39 mk_28_4 ?_;refine pV 4 40 mk_28_5 ?_;refine pV 6 42 #[true,true,true,true,true,false,true,false,false,false,false,false,false,false,false,false,false,false,false,false,false,false,false,false,false,false,false,false] ?_
      refine oV 5 (some 41) mk_28_7 (h:=λK hK=>?_);refine gV Try.func13 #[.int .i64 t6] (h:=?_)
      with_reducible refine(watchwordlaw0_Num.calls t6 t0 _ Al.out).mono ?_
      rintro e w' ⟨rfl,⟨nd,rfl⟩⟩;refine⟨_,rfl,?_⟩;refine hK.out _ _ ⟨(blk_cell B2.out 0).trans rfl,(blk_cell B2.out 1).trans rfl,(blk_cell B2.out 2).trans rfl,(blk_cell B2.out 3).trans rfl,(blk_cell B2.out 4).trans rfl,(blk_cell B3.out 0).trans rfl,(blk_cell B3.out 1).trans rfl,(blk_cell B3.out 2).trans rfl,(blk_cell B3.out 3).trans rfl,(blk_cell B3.out 4).trans rfl,(blk_cell B1.out 0).trans rfl,(blk_cell B1.out 1).trans rfl,(blk_cell B1.out 2).trans rfl,(blk_cell B1.out 3).trans rfl,(blk_cell B1.out 4).trans rfl,(blk_cell B0.out 0).trans rfl,(blk_cell B0.out 1).trans rfl,(blk_cell B0.out 2).trans rfl,(blk_cell B0.out 3).trans rfl,(blk_cell B0.out 4).trans rfl⟩ (λhHeld=>?_);clear hK K;refine nV 41 (h:=?_);refine pV 7 43 mk_28_8 ?_;refine pV 8 44 mk_28_9 ?_;refine pV 9 45 mk_28_10 ?_;refine tV 10 (some 46) mk_28_11 (hy:=Or.inl ⟨by rfl,by rintro w' ⟨s0,s1,s2,s3,s4,s5,s6,s7,s8,s9,s10,s11,s12,s13,s14,s15,s16,s17,s18,s19⟩;go_simp;with_reducible rfl⟩) (h:=?_);refine tV 11 (some 47) mk_28_12 (hy:=Or.inl ⟨by rfl,by rintro w' ⟨s0,s1,s2,s3,s4,s5,s6,s7,s8,s9,s10,s11,s12,s13,s14,s15,s16,s17,s18,s19⟩;go_simp;with_reducible rfl⟩) (h:=?_);refine oV 12 (some 48) mk_28_13 (h:=λK hK=>?_);refine gV Try.func14 #[.agg #[.int .i64 t9,.int .i64 ta,.slice sd tb.length se,.slice sg tc.length sh,.slice sj td.length sk],.agg #[.int .i64 tf,.int .i64 tg,.slice sm th.length sn,.slice sp ti.length sq,.slice ss tj.length st]] (h:=?_)
      with_reducible refine(watchwordlaw0_SamePacket.calls k t9 ta _ _ tb _ _ tc _ _ td tf tg _ _ th _ _ ti _ _ tj true _ ?side1 ?side2 ?side3 ?side4 ?side5 ?side6 ?side7 ?side8 ?side9 ?side10 ?side11 ?side12 An.out).mono ?_
      (case side1=>repeat (first|exact(Kd.R_reads' O0.out).2.2 |(with_reducible refine Kd.C_alloc ?_ _)|(with_reducible refine Kd.C_drewN ?_ _)|(with_reducible refine Kd.C_drew ?_)))
      (case side2=>exact(Kd.R_reads' O0.out).2.1)
      (case side3=>repeat (first|exact(Kd.S_reads' O1.out).2.2 |(with_reducible refine Kd.C_alloc ?_ _)|(with_reducible refine Kd.C_drewN ?_ _)|(with_reducible refine Kd.C_drew ?_)))
      (case side4=>exact(Kd.S_reads' O1.out).2.1)
      (case side5=>repeat (first|exact(Kd.R_reads' O2.out).2.2 |(with_reducible refine Kd.C_alloc ?_ _)|(with_reducible refine Kd.C_drewN ?_ _)|(with_reducible refine Kd.C_drew ?_)))
      (case side6=>exact(Kd.R_reads' O2.out).2.1)
      (case side7=>repeat (first|exact(Kd.R_reads' O3.out).2.2 |(with_reducible refine Kd.C_alloc ?_ _)|(with_reducible refine Kd.C_drewN ?_ _)|(with_reducible refine Kd.C_drew ?_)))
      (case side8=>exact(Kd.R_reads' O3.out).2.1)
      (case side9=>repeat (first|exact(Kd.S_reads' O4.out).2.2 |(with_reducible refine Kd.C_alloc ?_ _)|(with_reducible refine Kd.C_drewN ?_ _)|(with_reducible refine Kd.C_drew ?_)))
      (case side10=>exact(Kd.S_reads' O4.out).2.1)
      (case side11=>repeat (first|exact(Kd.R_reads' O5.out).2.2 |(with_reducible refine Kd.C_alloc ?_ _)|(with_reducible refine Kd.C_drewN ?_ _)|(with_reducible refine Kd.C_drew ?_)))
      (case side12=>exact(Kd.R_reads' O5.out).2.1)
      rintro e wi ⟨rfl,hb⟩;refine⟨_,rfl,?_⟩;replace O0:=Aside0.mk (Kd.R_below mN hb);replace O1:=Aside0.mk (Kd.S_below mBA hb);replace O2:=Aside0.mk (Kd.R_below mBB hb);replace O3:=Aside0.mk (Kd.R_below mY hb);replace O4:=Aside0.mk (Kd.S_below mBS hb);replace O5:=Aside0.mk (Kd.R_below mBU hb);replace B0:=Aside0.mk (blk_below mB hb);replace B1:=Aside0.mk (blk_below mL hb);replace B2:=Aside0.mk (blk_below mS hb);replace B3:=Aside0.mk (blk_below mCE hb);replace HB:=Aside0.mk (below_step mAA hb);(try clear hb);(try clear hb2);(try clear hk);(try clear hi);refine hK.out _ _ ⟨(blk_cell B2.out 0).trans rfl,(blk_cell B2.out 1).trans rfl,(blk_cell B2.out 2).trans rfl,(blk_cell B2.out 3).trans rfl,(blk_cell B2.out 4).trans rfl,(blk_cell B3.out 0).trans rfl,(blk_cell B3.out 1).trans rfl,(blk_cell B3.out 2).trans rfl,(blk_cell B3.out 3).trans rfl,(blk_cell B3.out 4).trans rfl,(blk_cell B1.out 0).trans rfl,(blk_cell B1.out 1).trans rfl,(blk_cell B1.out 2).trans rfl,(blk_cell B1.out 3).trans rfl,(blk_cell B1.out 4).trans rfl,(blk_cell B0.out 0).trans rfl,(blk_cell B0.out 1).trans rfl,(blk_cell B0.out 2).trans rfl,(blk_cell B0.out 3).trans rfl,(blk_cell B0.out 4).trans rfl⟩ (λhHeld=>?_);clear hK K;refine nV 48 (h:=?_);refine pV 13 49 mk_28_14 ?_;refine pV 14 50 mk_28_15 ?_;refine pV 15 51 mk_28_16 ?_;refine pV 16 52 mk_28_17 ?_;refine pV 18 54 #[true,true,true,true,true,true,true,true,true,true,true,true,true,true,true,true,true,false,true,false,false,false,false,false,false,false,false,false] ?_;refine oV 17 (some 53) mk_28_19 (h:=λK hK=>?_);refine gV Try.func13 #[.int .i64 te] (h:=?_)
      with_reducible refine(watchwordlaw0_Num.calls te t2 _ Ap.out).mono ?_
      rintro e w' ⟨rfl,⟨nd,rfl⟩⟩;refine⟨_,rfl,?_⟩;refine hK.out _ _ ⟨(blk_cell B2.out 0).trans rfl,(blk_cell B2.out 1).trans rfl,(blk_cell B2.out 2).trans rfl,(blk_cell B2.out 3).trans rfl,(blk_cell B2.out 4).trans rfl,(blk_cell B3.out 0).trans rfl,(blk_cell B3.out 1).trans rfl,(blk_cell B3.out 2).trans rfl,(blk_cell B3.out 3).trans rfl,(blk_cell B3.out 4).trans rfl,(blk_cell B1.out 0).trans rfl,(blk_cell B1.out 1).trans rfl,(blk_cell B1.out 2).trans rfl,(blk_cell B1.out 3).trans rfl,(blk_cell B1.out 4).trans rfl,(blk_cell B0.out 0).trans rfl,(blk_cell B0.out 1).trans rfl,(blk_cell B0.out 2).trans rfl,(blk_cell B0.out 3).trans rfl,(blk_cell B0.out 4).trans rfl⟩ (λhHeld=>?_);clear hK K;refine nV 53 (h:=?_);refine pV 19 55 mk_28_20 ?_;refine pV 20 56 mk_28_21 ?_;refine pV 21 57 mk_28_22 ?_;refine tV 22 (some 58) mk_28_23 (hy:=Or.inl ⟨by rfl,by rintro w' ⟨s0,s1,s2,s3,s4,s5,s6,s7,s8,s9,s10,s11,s12,s13,s14,s15,s16,s17,s18,s19⟩;go_simp;with_reducible rfl⟩) (h:=?_);refine tV 24 (some 60) #[true,true,true,true,true,true,true,true,true,true,true,true,true,true,true,true,true,true,true,true,true,true,true,false,true,false,false,false] (hy:=Or.inl ⟨by rfl,by rintro w' ⟨s0,s1,s2,s3,s4,s5,s6,s7,s8,s9,s10,s11,s12,s13,s14,s15,s16,s17,s18,s19⟩;go_simp;with_reducible rfl⟩) (h:=?_);refine oV 23 (some 59) mk_28_25 (h:=λK hK=>?_);refine gV Try.func15 #[.agg #[.int .i64 a2_0,.int .i64 a2_1,.slice Ac l2_2.length sa,.slice Ad l2_3.length sb,.slice Ae l2_4.length sc]] (h:=?_)
      with_reducible refine(packet_May.calls k a2_0 a2_1 _ _ l2_2 _ _ l2_3 _ _ l2_4 t3 _ ?side1 ?side2 ?side3 ?side4 ?side5 ?side6 Ar.out).mono ?_
      (case side1=>repeat (first|exact(Kd.C_below R3.out mAA)|(with_reducible refine Kd.C_alloc ?_ _)|(with_reducible refine Kd.C_drewN ?_ _)|(with_reducible refine Kd.C_drew ?_)))
      (case side2=>exact K4.out)
      (case side3=>repeat (first|exact(Kd.C_below R4.out mAA)|(with_reducible refine Kd.C_alloc ?_ _)|(with_reducible refine Kd.C_drewN ?_ _)|(with_reducible refine Kd.C_drew ?_)))
      (case side4=>exact K5.out)
      (case side5=>repeat (first|exact(Kd.C_below R5.out mAA)|(with_reducible refine Kd.C_alloc ?_ _)|(with_reducible refine Kd.C_drewN ?_ _)|(with_reducible refine Kd.C_drew ?_)))
      (case side6=>exact K6.out)
      rintro e wj ⟨rfl,hb⟩;refine⟨_,rfl,?_⟩;replace O0:=Aside0.mk (Kd.R_below mN hb);replace O1:=Aside0.mk (Kd.S_below mBA hb);replace O2:=Aside0.mk (Kd.R_below mBB hb);replace O3:=Aside0.mk (Kd.R_below mY hb);replace O4:=Aside0.mk (Kd.S_below mBS hb);replace O5:=Aside0.mk (Kd.R_below mBU hb);replace B0:=Aside0.mk (blk_below mB hb);replace B1:=Aside0.mk (blk_below mL hb);replace B2:=Aside0.mk (blk_below mS hb);replace B3:=Aside0.mk (blk_below mCE hb);replace HB:=Aside0.mk (below_step mAA hb);(try clear hb);(try clear hb2);(try clear hk);(try clear hi);refine hK.out _ _ ⟨(blk_cell B2.out 0).trans rfl,(blk_cell B2.out 1).trans rfl,(blk_cell B2.out 2).trans rfl,(blk_cell B2.out 3).trans rfl,(blk_cell B2.out 4).trans rfl,(blk_cell B3.out 0).trans rfl,(blk_cell B3.out 1).trans rfl,(blk_cell B3.out 2).trans rfl,(blk_cell B3.out 3).trans rfl,(blk_cell B3.out 4).trans rfl,(blk_cell B1.out 0).trans rfl,(blk_cell B1.out 1).trans rfl,(blk_cell B1.out 2).trans rfl,(blk_cell B1.out 3).trans rfl,(blk_cell B1.out 4).trans rfl,(blk_cell B0.out 0).trans rfl,(blk_cell B0.out 1).trans rfl,(blk_cell B0.out 2).trans rfl,(blk_cell B0.out 3).trans rfl,(blk_cell B0.out 4).trans rfl⟩ (λhHeld=>?_);clear hK K;refine nV 59 (h:=?_);refine oV 25 (some 61) mk_28_26 (h:=λK hK=>?_);refine gV Try.func16 #[.agg #[.int .i64 a0_0,.int .i64 a0_1,.slice A0_2 l0_2.length c0_2,.slice A0_3 l0_3.length c0_3,.slice A0_4 l0_4.length c0_4]] (h:=?_)
      with_reducible refine(watchwordref9_PacketMay.calls k a0_0 a0_1 _ _ l0_2 _ _ l0_3 _ _ l0_4 t4 _ ?side1 ?side2 ?side3 ?side4 ?side5 ?side6 At.out).mono ?_
      (case side1=>repeat (first|exact(Kd.C_below R0.out HB.out)|(with_reducible refine Kd.C_alloc ?_ _)|(with_reducible refine Kd.C_drewN ?_ _)|(with_reducible refine Kd.C_drew ?_)))
      (case side2=>exact K0.out)
      (case side3=>repeat (first|exact(Kd.C_below R1.out HB.out)|(with_reducible refine Kd.C_alloc ?_ _)|(with_reducible refine Kd.C_drewN ?_ _)|(with_reducible refine Kd.C_drew ?_)))
      (case side4=>exact K1.out)
      (case side5=>repeat (first|exact(Kd.C_below R2.out HB.out)|(with_reducible refine Kd.C_alloc ?_ _)|(with_reducible refine Kd.C_drewN ?_ _)|(with_reducible refine Kd.C_drew ?_)))
      (case side6=>exact K2.out)
      rintro e wk ⟨rfl,hb⟩;refine⟨_,rfl,?_⟩;replace O0:=Aside0.mk (Kd.R_below mN hb);replace O1:=Aside0.mk (Kd.S_below mBA hb);replace O2:=Aside0.mk (Kd.R_below mBB hb);replace O3:=Aside0.mk (Kd.R_below mY hb);replace O4:=Aside0.mk (Kd.S_below mBS hb);replace O5:=Aside0.mk (Kd.R_below mBU hb);replace B0:=Aside0.mk (blk_below mB hb);replace B1:=Aside0.mk (blk_below mL hb);replace B2:=Aside0.mk (blk_below mS hb);replace B3:=Aside0.mk (blk_below mCE hb);replace HB:=Aside0.mk (below_step mAA hb);(try clear hb);(try clear hb2);(try clear hk);(try clear hi);refine hK.out _ _ ⟨(blk_cell B2.out 0).trans rfl,(blk_cell B2.out 1).trans rfl,(blk_cell B2.out 2).trans rfl,(blk_cell B2.out 3).trans rfl,(blk_cell B2.out 4).trans rfl,(blk_cell B3.out 0).trans rfl,(blk_cell B3.out 1).trans rfl,(blk_cell B3.out 2).trans rfl,(blk_cell B3.out 3).trans rfl,(blk_cell B3.out 4).trans rfl,(blk_cell B1.out 0).trans rfl,(blk_cell B1.out 1).trans rfl,(blk_cell B1.out 2).trans rfl,(blk_cell B1.out 3).trans rfl,(blk_cell B1.out 4).trans rfl,(blk_cell B0.out 0).trans rfl,(blk_cell B0.out 1).trans rfl,(blk_cell B0.out 2).trans rfl,(blk_cell B0.out 3).trans rfl,(blk_cell B0.out 4).trans rfl⟩ (λhHeld=>?_);clear hK K;refine nV 61 (h:=?_);refine pV 26 62 mk_28_27 ?_;refine pV 27 63 mk_28_28 ?_;refine done_ (done_of HT_.out mAD) ?_;(try go_wp2);go_meet
      case rel=>exact⟨_,((t3 !=t4)),mK,H',⟨by first|omega|exact Nat.le_refl _⟩,⟨by(with_reducible repeat (first|apply Kd.R_alloc|apply Kd.R_drewN|apply Kd.R_drew));exact O0.out⟩,⟨by(with_reducible repeat (first|apply Kd.S_alloc|apply Kd.S_drewN|apply Kd.S_drew));exact O1.out⟩,⟨by(with_reducible repeat (first|apply Kd.R_alloc|apply Kd.R_drewN|apply Kd.R_drew));exact O2.out⟩,⟨by(with_reducible repeat (first|apply Kd.R_alloc|apply Kd.R_drewN|apply Kd.R_drew));exact O3.out⟩,⟨by(with_reducible repeat (first|apply Kd.S_alloc|apply Kd.S_drewN|apply Kd.S_drew));exact O4.out⟩,⟨by(with_reducible repeat (first|apply Kd.R_alloc|apply Kd.R_drewN|apply Kd.R_drew));exact O5.out⟩,⟨by(with_reducible repeat (first|refine blk_drewN ?_ _|refine blk_drew ?_ |refine blk_alloc ?_ _));exact B0.out⟩,⟨by(with_reducible repeat (first|refine blk_drewN ?_ _|refine blk_drew ?_ |refine blk_alloc ?_ _));exact B1.out⟩,⟨by(with_reducible repeat (first|refine blk_drewN ?_ _|refine blk_drew ?_ |refine blk_alloc ?_ _));exact B2.out⟩,⟨by(with_reducible repeat (first|refine blk_drewN ?_ _|refine blk_drew ?_ |refine blk_alloc ?_ _));exact B3.out⟩,⟨by repeat (first|(with_reducible first|exact HB.out|apply below_alloc|apply pw_below_drewN|apply below_drew1|refine below_set ?_ G1.out|refine below_set ?_ G3.out|refine below_set ?_ G5.out|refine below_set ?_ G7.out)|exact HB.out)⟩⟩
     ·rw[if_neg cc]at H
      have cd:=beq_eq_false_iff_ne.mpr cc;have ce:=bne_iff_ne.mpr cc
      exact absurd H (λh_=>(by
       have hd_:∀k_,watchwordlaw12_Packets.j0 k_ true a0_0 a0_1 l0_2 l0_3 l0_4 a2_0 a2_1 l2_2 l2_3 l2_4 t9 ta tb tc td=some r->False:=by
        intro k_ h_;cases k_ with
        |zero=>exact absurd h_ mCO
        |succ k_=>
         simp only[watchwordlaw12_Packets.j0,if_true]at h_;exact absurd (Option.some.inj h_) mCF
       exact hd_ _ h_))
    ·replace cb:=Bool.eq_false_iff.mpr cb
     subst cb;rw[if_neg (show ¬(false=true)by decide)]at H
     exact absurd H (λh_=>(by
      have hd_:∀k_,watchwordlaw12_Packets.j0 k_ true a0_0 a0_1 l0_2 l0_3 l0_4 a2_0 a2_1 l2_2 l2_3 l2_4 t9 ta tb tc td=some r->False:=by
       intro k_ h_;cases k_ with
       |zero=>exact absurd h_ mCO
       |succ k_=>
        simp only[watchwordlaw12_Packets.j0,if_true]at h_;exact absurd (Option.some.inj h_) mCF
      exact hd_ _ h_))
   ·rw[if_neg c7]at H
    have c8:=beq_eq_false_iff_ne.mpr c7;have ca:=bne_iff_ne.mpr c7
    exact absurd H (λh_=>(by
     have hd_:∀k_,watchwordlaw12_Packets.j0 k_ true a0_0 a0_1 l0_2 l0_3 l0_4 a2_0 a2_1 l2_2 l2_3 l2_4 t9 ta tb tc td=some r->False:=by
      intro k_ h_;cases k_ with
      |zero=>exact absurd h_ mCO
      |succ k_=>
       simp only[watchwordlaw12_Packets.j0,if_true]at h_;exact absurd (Option.some.inj h_) mCF
     exact hd_ _ h_))
  ·rw[if_neg c0]at H
   have c5:=beq_eq_false_iff_ne.mpr c0;have c6:=bne_iff_ne.mpr c0
   (first|rw[c5]|(simp only[i64_w,i32_w];rw[c5])|skip)
   exact absurd H (λh_=>(by
    have hd_:∀k_,watchwordlaw12_Packets.j0 k_ true a0_0 a0_1 l0_2 l0_3 l0_4 a2_0 a2_1 l2_2 l2_3 l2_4 t9 ta tb tc td=some r->False:=by
     intro k_ h_;cases k_ with
     |zero=>exact absurd h_ mCO
     |succ k_=>
      simp only[watchwordlaw12_Packets.j0,if_true]at h_;exact absurd (Option.some.inj h_) mCF
    exact hd_ _ h_))
 case rest=>
  clear K3;(try clear c1);(try clear c2);(try clear p2);(try clear c3);(try clear c4);(try clear c9);(try clear c10);(try clear c11);(try clear c12);(try clear c13);(try clear c14);(try clear c15);(try clear c16);(try clear c21);(try clear c22);(try clear c30);(try clear c31);(try clear c32);(try clear c0);(try clear c5);(try clear c6);(try clear c7);(try clear c8);(try clear ca);(try clear cb);(try clear cc);(try clear cd);(try clear ce);(try clear z0);(try clear z1);(try clear z2);(try clear z3);(try clear z4);(try clear z6);(try clear z7);(try clear z8);(try clear z9);(try clear za);(try clear zc);(try clear zd);(try clear ze);(try clear zf);(try clear zg);(try clear zi);(try clear zj);(try clear zk);(try clear zl);(try clear zm);(try clear zo);(try clear zp);(try clear zq);(try clear zr);(try clear zs);(try clear zu);(try clear zv);(try clear zw);(try clear zx);(try clear zy);(try clear z5);(try clear hfz10_1);(try clear hfz10_2);(try clear hfz10_3);(try clear hfz10_4);(try clear zb);(try clear hfz13_1);(try clear hfz13_2);(try clear hfz13_3);(try clear hfz13_4);(try clear zh);(try clear hfz15_1);(try clear hfz15_2);(try clear hfz15_3);(try clear hfz15_4);(try clear zn);(try clear hfz17_1);(try clear hfz17_2);(try clear hfz17_3);(try clear hfz17_4);(try clear zt);(try clear hfz23_1);(try clear hfz23_2);(try clear hfz23_3);(try clear hfz23_4);(try clear zz);(try clear hfz33_1);(try clear hfz33_2);(try clear hfz33_3);(try clear hfz33_4);obtain⟨kq,x5,rfl,HA,HJ7,O6,O7,O8,O9,Oa,Ob,B0,B1,B2,B3,HB⟩:=hcut;cases kq with
  |zero=>exact absurd HA.out mCO
  |succ j1=>
   have H:=HA.out;clear HA;simp only[watchwordlaw12_Packets.j0]at H
   by_cases cf:x5=true
   ·subst cf
    rw[if_pos rfl]at H;exact absurd (Option.some.inj H) mCF
   ·replace cf:=Bool.eq_false_iff.mpr cf
    subst cf;rw[if_neg (show ¬(false=true)by decide)]at H;obtain⟨tl,Au,H⟩:=bsE H;(try dsimp only at H);have Av:=Aside0.mk Au;clear Au;obtain⟨tm,Aw,H⟩:=bsE H;(try dsimp only at H);have Ax:=Aside0.mk Aw;clear Aw
    by_cases cg:tm=true
    ·subst cg
     rw[if_pos rfl]at H;obtain⟨tn,Ay,H⟩:=bsE H;(try dsimp only at H);have Az:=Aside0.mk Ay;clear Ay;obtain rfl:=Option.some.inj H;have nc:=N3.out;have ne:=N2.out;have nf:=N5.out;have ng:=N4.out;have nh:=Na.out;have ni:=Nb.out;obtain⟨z00,z01,z02,z03,z04⟩:=bc5 B2.out;have z05:=blk_frozen B2.out
     go_wp2_with (first|((with_reducible refine gate_callee (f:=17) rfl ?_);refine cLV (some 65) Try.func17 #[.agg #[.int .i64 t9,.int .i64 ta,.slice sd tb.length se,.slice sg tc.length sh,.slice sj td.length sk]] (h:=?_);(with_reducible refine(watchwordlaw0_SpoilPacket.spoilt t9 ta (.slice sd tb.length se) (.slice sg tc.length sh) (.slice sj td.length sk) tb tc td w4 _ ?side1 (Kd.R_mono mBT (λ_ _=>trivial)) (Kd.S_mono (by(with_reducible repeat (first|apply Kd.S_alloc|apply Kd.S_drewN|apply Kd.S_drew));exact O7.out) (λ_ _=>trivial)) (Kd.R_mono (by(with_reducible repeat (first|apply Kd.R_alloc|apply Kd.R_drewN|apply Kd.R_drew));exact O8.out) (λ_ _=>trivial)) HG1_.out.1 HG1_.out.2.1 HG1_.out.2.2.1 HG1_.out.2.2.2).mono ?_);(case side1=>exact mAA);rintro e wl ⟨rfl,hb⟩;refine⟨_,rfl,?_⟩;replace B0:=Aside0.mk (blk_below BQ492.out hb);replace B1:=Aside0.mk (blk_below BQ493.out hb);replace HB:=Aside0.mk hb;clear B2 B3;(try clear hb);have nj:=N1.out;have nk:=N0.out;have nl:=N8.out;have nm:=N9.out;obtain⟨z06,z07,z08,z09,z0a⟩:=bc5 B1.out;have z0b:=blk_frozen B1.out;have nn:=N6.out;have no:=N7.out;obtain⟨z0c,z0d,z0e,z0f,z0g⟩:=bc5 B0.out;have z0h:=blk_frozen B0.out)|((with_reducible refine gate_callee (f:=14) rfl ?_);refine cLV (some 68) Try.func14 #[.agg #[.int .i64 a2_0,.int .i64 a2_1,.slice Ac l2_2.length sa,.slice Ad l2_3.length sb,.slice Ae l2_4.length sc],.agg #[.int .i64 a0_0,.int .i64 a0_1,.slice A0_2 l0_2.length c0_2,.slice A0_3 l0_3.length c0_3,.slice A0_4 l0_4.length c0_4]] (h:=?_);(with_reducible refine(watchwordlaw0_SamePacket.calls j1 a2_0 a2_1 _ _ l2_2 _ _ l2_3 _ _ l2_4 a0_0 a0_1 _ _ l0_2 _ _ l0_3 _ _ l0_4 true _ ?side1 ?side2 ?side3 ?side4 ?side5 ?side6 ?side7 ?side8 ?side9 ?side10 ?side11 ?side12 Ax.out).mono ?_);(case side1=>repeat (first|exact(Kd.C_below R3.out HB.out)|(with_reducible refine Kd.C_alloc ?_ _)|(with_reducible refine Kd.C_drewN ?_ _)|(with_reducible refine Kd.C_drew ?_)));(case side2=>exact K4.out);(case side3=>repeat (first|exact(Kd.C_below R4.out HB.out)|(with_reducible refine Kd.C_alloc ?_ _)|(with_reducible refine Kd.C_drewN ?_ _)|(with_reducible refine Kd.C_drew ?_)));(case side4=>exact K5.out);(case side5=>repeat (first|exact(Kd.C_below R5.out HB.out)|(with_reducible refine Kd.C_alloc ?_ _)|(with_reducible refine Kd.C_drewN ?_ _)|(with_reducible refine Kd.C_drew ?_)));(case side6=>exact K6.out);(case side7=>repeat (first|exact(Kd.C_below R0.out HB.out)|(with_reducible refine Kd.C_alloc ?_ _)|(with_reducible refine Kd.C_drewN ?_ _)|(with_reducible refine Kd.C_drew ?_)));(case side8=>exact K0.out);(case side9=>repeat (first|exact(Kd.C_below R1.out HB.out)|(with_reducible refine Kd.C_alloc ?_ _)|(with_reducible refine Kd.C_drewN ?_ _)|(with_reducible refine Kd.C_drew ?_)));(case side10=>exact K1.out);(case side11=>repeat (first|exact(Kd.C_below R2.out HB.out)|(with_reducible refine Kd.C_alloc ?_ _)|(with_reducible refine Kd.C_drewN ?_ _)|(with_reducible refine Kd.C_drew ?_)));(case side12=>exact K2.out);rintro e wm ⟨rfl,hb⟩;refine⟨_,rfl,?_⟩;replace HB:=Aside0.mk (below_step mA hb);(try clear hb))|(go_at_call 18;(with_reducible refine(watchwordlaw12_awake.calls j1 tn _ Az.out (by first|rfl|exact HT.out)).mono ?_);rintro e wn ⟨rfl,hb⟩;replace HB:=Aside0.mk (below_step mA hb);(try clear hb)))
     go_ret;exact⟨by first|rfl|(simp[errW_none,errW_some] <;> rfl)|(simp[*,errW_none,errW_some] <;> rfl),below_step HB0.out mAA⟩
    ·replace cg:=Bool.eq_false_iff.mpr cg
     subst cg;rw[if_neg (show ¬(false=true)by decide)]at H;exact absurd (Option.some.inj H) mCF
def watchwordlaw12_Packets.f (k:Nat) (a0_0:Int) (a0_1:Int) (l0_2:List Int) (l0_3:List (S45)) (l0_4:List (S47)) (a1:ByteArray):Option Bool:=(packet_Get.f k a1).bind λbt=>if bt.2.2.1.length<=1000/\bt.2.2.2.1.length<=1000000/\(∀y∈bt.2.2.2.1,y.f3.length<=1000)/\bt.2.2.2.2.1.length<=1000 then(watchwordlaw0_CopyPacket.f k a0_0 a0_1 l0_2 l0_3 l0_4).bind λx=>watchwordlaw12_Packets.g k a0_0 a0_1 l0_2 l0_3 l0_4 a1 x.1 x.2.1 x.2.2.1 x.2.2.2.1 x.2.2.2.2 else none
theorem watchwordlaw12_Packets.calls (k:Nat) (a0_0:Int) (a0_1:Int) (A0_2:Option Addr) (c0_2:Nat) (l0_2:List Int) (A0_3:Option Addr) (c0_3:Nat) (l0_3:List (S45)) (A0_4:Option Addr) (c0_4:Nat) (l0_4:List (S47)) (a1:ByteArray) (r:Bool) (w:World) (hr0_2:Kd.C (Kd.int .i64) w A0_2 l0_2.length l0_2) (hc0_2:l0_2.length<=c0_2) (hr0_3:Kd.C k45 w A0_3 l0_3.length l0_3) (hc0_3:l0_3.length<=c0_3) (hr0_4:Kd.C k47 w A0_4 l0_4.length l0_4) (hc0_4:l0_4.length<=c0_4) (h:watchwordlaw12_Packets.f k a0_0 a0_1 l0_2 l0_3 l0_4 a1=some r) (hT:r=true):
    Calls Try.prog 3 #[.agg #[.int .i64 a0_0,.int .i64 a0_1,.slice A0_2 l0_2.length c0_2,.slice A0_3 l0_3.length c0_3,.slice A0_4 l0_4.length c0_4],.string a1] w λe w'=>e= .returned (.bool r)/\Below w.heap.size w w':=by
  obtain⟨bt,hb,h⟩:=Option.bind_eq_some_iff.mp h
  by_cases hc:bt.2.2.1.length<=1000/\bt.2.2.2.1.length<=1000000/\(∀y∈bt.2.2.2.1,y.f3.length<=1000)/\bt.2.2.2.2.1.length<=1000
  · rw[if_pos hc]at h
    obtain⟨⟨x0,x1,x2,x3,x4⟩,h1,h2⟩:=Option.bind_eq_some_iff.mp h;refine watchwordlaw12_Packets.walk k a0_0 a0_1 A0_2 c0_2 l0_2 A0_3 c0_3 l0_3 A0_4 c0_4 l0_4 a1 x0 x1 x2 x3 x4 r w hr0_2 hc0_2 hr0_3 hc0_3 hr0_4 hc0_4 k h1 (λx hx=>?_) h2 hT;rw[hb]at hx;obtain rfl:=Option.some.inj hx;refine⟨hc.1,hc.2.1,λj hj=>?_,hc.2.2.2⟩
    have:rd_T45 bt.2.2.2.1 (j:Int)=bt.2.2.2.1[j]:=by unfold rd_T45;rw[Int.toNat_natCast,List.getD_eq_getElem?_getD,List.getElem?_eq_getElem hj];rfl
    rw[this];exact hc.2.2.1 _ (List.getElem_mem hj)
  · rw[if_neg hc]at h;cases h
end Go.Proofs.Ytbajimbccbckkaa.Q12k
namespace Go.Proofs.Ytbajimbccbckkaa.Base
open Go.RowKit Go.Proofs.YtbajimbccbckkaaW.PrintWords Go.Proofs.YtbajimbccbckkaaW.PrintLast Go.Proofs.YtbajimbccbckkaaW.PrintMore
set_option linter.unusedVariables false
def B (s:ByteArray):List Int:=s.data.toList.map λb=>(b.toNat:Int)
def Byt (l:List Int):Prop:=∀x∈l,0<=x/\x<256
theorem B_len (s:ByteArray):(B s).length =s.size:=by simp[B]
theorem B_byt (s:ByteArray):Byt (B s):=by
  intro x hx
  simp only[B,List.mem_map]at hx
  obtain⟨b,_,rfl⟩:=hx
  have:=b.toNat_lt
  omega
theorem map_toNat_inj:∀ {l l':List UInt8},l.map (λb=>(b.toNat:Int))=l'.map (λb=>(b.toNat:Int))->l=l'
  | [],[],_=>rfl
  | [],_::_,h=>by simp at h
  |_::_,[],h=>by simp at h
  | a::l,b::l',h=>by
    simp only[List.map_cons,List.cons.injEq]at h
    obtain⟨h1,h2⟩:=h
    have:a=b:=UInt8.toNat_inj.mp (by exact_mod_cast h1)
    rw[this,map_toNat_inj h2]
theorem B_inj {s t:ByteArray} (h:B s=B t):s=t:=by
  have:=map_toNat_inj h
  cases s;cases t
  simp only[ByteArray.mk.injEq]
  exact Array.toList_inj.mp this
theorem toList_iff (s t:ByteArray):s.toList=t.toList↔B s=B t:=by
  rw[Lib.toList_data,Lib.toList_data]
  constructor
  · intro h;simp only[B,h]
  · exact map_toNat_inj
theorem toList_iff_lit (s:ByteArray) (l:List UInt8):s.toList=l↔B s=l.map (λb=>(b.toNat:Int)):=by
  rw[Lib.toList_data]
  constructor
  · intro h;simp only[B,h]
  · exact map_toNat_inj
theorem B_append (s t:ByteArray):B (s++t)=B s++B t:=by simp[B,ByteArray.data_append]
theorem B_mk (a:Array UInt8):B ⟨a⟩=a.toList.map (λb=>(b.toNat:Int)):=rfl
theorem B_strOf {l:List Int} (h:Byt l):B (strOfNums l)=l:=by
  unfold B strOfNums
  simp only[List.map_map]
  conv=>rhs;rw[<-List.map_id l]
  apply List.map_congr_left
  intro x hx
  obtain⟨h0,h1⟩:=h x hx
  simp only[Function.comp,id,UInt8.toNat_ofNat']
  omega
theorem strOf_B (s:ByteArray):strOfNums (B s)=s:=B_inj (B_strOf (B_byt s))
theorem strOf_size (l:List Int):(strOfNums l).size =l.length:=by show(Array.size _)=_;simp
theorem strOf_append (l l':List Int):strOfNums l++strOfNums l'=strOfNums (l++l'):=by
  have:(strOfNums l++strOfNums l').data =(strOfNums (l++l')).data :=by simp[strOfNums,ByteArray.data_append]
  exact ByteArray.ext this
theorem B_extract (s:ByteArray) (a b:Nat):B (s.extract a b)=((B s).drop a).take (b-a):=by
  unfold B
  rw[Lib.extract_data,List.map_take,List.map_drop]
theorem bt_B (s:ByteArray) (i:Int):bt s i=(B s).getD i.toNat 0:=by
  unfold bt B
  split
  · rename_i h
    rw[List.getD_eq_getElem?_getD,List.getElem?_map]
    have:i.toNat<s.data.toList.length:=by simpa using h
    rw[List.getElem?_eq_getElem this]
    rfl
  · rename_i h
    rw[List.getD_eq_getElem?_getD,List.getElem?_map]
    have:s.data.toList.length<=i.toNat:=by simp only[Array.length_toList];have:s.size=s.data.size:=rfl;omega
    rw[List.getElem?_eq_none this]
    rfl
theorem byt_mod (x:Int):0<=x % 256/\x % 256<256:=by omega
theorem byt_nil:Byt []:=λ_ h=>by cases h
theorem byt_cons {x:Int} {l:List Int} (h:0<=x/\x<256) (hl:Byt l):Byt (x::l):=by
  intro y hy
  rcases List.mem_cons.mp hy with rfl|hy
  · exact h
  · exact hl y hy
theorem byt_append {l l':List Int} (h:Byt l) (h':Byt l'):Byt (l++l'):=by
  intro y hy
  rcases List.mem_append.mp hy with hy|hy
  · exact h y hy
  · exact h' y hy
theorem byt_take {l:List Int} (n:Nat) (h:Byt l):Byt (l.take n):=λy hy=>h y (List.mem_of_mem_take hy)
theorem byt_drop {l:List Int} (n:Nat) (h:Byt l):Byt (l.drop n):=λy hy=>h y (List.mem_of_mem_drop hy)
def e1 (x:Int):List Int:=[x % 256]
def e2 (x:Int):List Int:=[x/256 % 256,x % 256]
def e4 (x:Int):List Int:=[x/16777216 % 256,x/65536 % 256,x/256 % 256,x % 256]
theorem e1_byt (x:Int):Byt (e1 x):=byt_cons (byt_mod _) byt_nil
theorem e2_byt (x:Int):Byt (e2 x):=byt_cons (byt_mod _) (byt_cons (byt_mod _) byt_nil)
theorem e4_byt (x:Int):Byt (e4 x):=byt_cons (byt_mod _) (byt_cons (byt_mod _) (byt_cons (byt_mod _) (byt_cons (byt_mod _) byt_nil)))
theorem e1_len (x:Int):(e1 x).length =1:=rfl
theorem e2_len (x:Int):(e2 x).length =2:=rfl
theorem e4_len (x:Int):(e4 x).length =4:=rfl
def num (l:List Int):Int:=l.foldl (λa b=>a*256+b) 0
theorem num_two (a b:Int):num [a,b]=a*256+b:=by simp[num]
theorem num_four (a b c d:Int):num [a,b,c,d]=a*16777216+b*65536+c*256+d:=by simp[num];omega
theorem num_e2 {x:Int} (h0:0<=x) (h1:x<65536):num (e2 x)=x:=by unfold e2;rw[num_two];omega
theorem num_e4 {x:Int} (h0:0<=x) (h1:x<4294967296):num (e4 x)=x:=by unfold e4;rw[num_four];omega
theorem e2_num {a b:Int} (ha:0<=a/\a<256) (hb:0<=b/\b<256):e2 (num [a,b])=[a,b]:=by
  rw[num_two];unfold e2
  simp only[List.cons.injEq,and_true]
  omega
theorem e4_num {a b c d:Int} (ha:0<=a/\a<256) (hb:0<=b/\b<256) (hc:0<=c/\c<256) (hd:0<=d/\d<256):e4 (num [a,b,c,d])=[a,b,c,d]:=by
  rw[num_four];unfold e4
  simp only[List.cons.injEq,and_true]
  omega
theorem num_two_range {a b:Int} (ha:0<=a/\a<256) (hb:0<=b/\b<256):0<=num [a,b]/\num [a,b]<65536:=by rw[num_two];omega
theorem num_four_range {a b c d:Int} (ha:0<=a/\a<256) (hb:0<=b/\b<256) (hc:0<=c/\c<256) (hd:0<=d/\d<256):0<=num [a,b,c,d]/\num [a,b,c,d]<4294967296:=by rw[num_four];omega
theorem e2_inj {x y:Int} (hx:0<=x/\x<65536) (hy:0<=y/\y<65536) (h:e2 x=e2 y):x=y:=by
  have:=congrArg num h
  rwa [num_e2 hx.1 hx.2,num_e2 hy.1 hy.2]at this
theorem e4_inj {x y:Int} (hx:0<=x/\x<4294967296) (hy:0<=y/\y<4294967296) (h:e4 x=e4 y):x=y:=by
  have:=congrArg num h
  rwa [num_e4 hx.1 hx.2,num_e4 hy.1 hy.2]at this
theorem wrap_id {x:Int} (h0: -9223372036854775808<=x) (h1:x<=9223372036854775807):wrap64 x=x:=by unfold wrap64;omega
theorem wraps_i64 (n:Int) (h₀:0<=n) (h₁:n<2^63):IntKind.i64.wrap n=n:=by rw[IntKind.wrap_i64];omega
theorem or_byte {x y:Int} (hx₀:0<=x) (hx₁:x<9223372036854775808) (hx:x % 256=0) (h₀:0<=y) (h₁:y<256):Go.bits .or .i64 x y=x+y:=
  bits_join .i64 63 (by decide) wraps_i64 8 x y hx₀ hx hx₁ h₀ h₁ (by omega)
theorem and_mask (i:Nat) (hi:i<=62) (n:Int):Go.bits .and .i64 n ((2^i-1:Nat):Int)=n % ((2^i:Nat):Int):=by
  have hp:2^i<=2^62:=Nat.pow_le_pow_right (by decide) hi
  have hpos:0<2^i:=Nat.two_pow_pos i
  have hm:(BitVec.ofInt 64 ((2^i-1:Nat):Int)).toNat =2^i-1:=by
    rw[BitVec.ofInt_natCast,BitVec.toNat_ofNat]
    apply Nat.mod_eq_of_lt
    omega
  have key:(BitVec.ofInt 64 n&&& BitVec.ofInt 64 ((2^i-1:Nat):Int)).toNat =(n % ((2^64:Nat):Int)).toNat % 2^i:=by
    rw[BitVec.toNat_and,BitVec.toNat_ofInt,hm,Nat.and_two_pow_sub_one_eq_mod]
  show IntKind.i64.wrap ((BitVec.ofInt 64 n&&& BitVec.ofInt 64 ((2^i-1:Nat):Int)).toNat :Nat)=_
  rw[key]
  have hd:((2^i:Nat):Int) ∣ ((2^64:Nat):Int):=by
    have:(2^i) ∣ (2^64):=Nat.pow_dvd_pow 2 (by omega)
    exact_mod_cast this
  have h2:(((n % ((2^64:Nat):Int)).toNat % 2^i:Nat):Int)=n % ((2^i:Nat):Int):=by
    rw[Int.natCast_emod,Int.toNat_of_nonneg (by omega),Int.emod_emod_of_dvd _ hd]
  rw[h2]
  have hlt:n % ((2^i:Nat):Int)<((2^i:Nat):Int):=Int.emod_lt_of_pos _ (by exact_mod_cast hpos)
  have h0 : 0 ≤ n % ((2 ^ i : Nat) : Int) := Int.emod_nonneg _ (by have:((2^i:Nat):Int)≠0:=by exact_mod_cast Nat.pos_iff_ne_zero.mp hpos
                                                                   exact this)
  have hle:((2^i:Nat):Int)<=((2^62:Nat):Int):=by exact_mod_cast hp
  exact wraps_i64 _ h0 (by have:((2^62:Nat):Int)<2^63:=by decide
                           omega)
theorem and1 (n:Int):Go.bits .and .i64 n 1=n % 2:=and_mask 1 (by decide) n
theorem and3 (n:Int):Go.bits .and .i64 n 3=n % 4:=and_mask 2 (by decide) n
theorem and15 (n:Int):Go.bits .and .i64 n 15=n % 16:=and_mask 4 (by decide) n
theorem and127 (n:Int):Go.bits .and .i64 n 127=n % 128:=and_mask 7 (by decide) n
theorem and255 (n:Int):Go.bits .and .i64 n 255=n % 256:=and_mask 8 (by decide) n
theorem and1023 (n:Int):Go.bits .and .i64 n 1023=n % 1024:=and_mask 10 (by decide) n
theorem empty_list:(⟨#[]⟩:ByteArray).toList =([]:List UInt8):=by rw[Lib.toList_data]
def lim:Nat->Int
  |0=>1
  |i+1=>lim i*256
theorem lim_succ (i:Nat):lim (i+1)=lim i*256:=rfl
theorem lim_le6 {i:Nat} (h:i<=6):lim i<=281474976710656:=by
  have:i=0\/i=1\/i=2\/i=3\/i=4\/i=5\/i=6:=by omega
  rcases this with rfl|rfl|rfl|rfl|rfl|rfl|rfl <;> decide
theorem byt_getD {l:List Int} (h:Byt l) (i:Nat):0<=l.getD i 0/\l.getD i 0<256:=by
  rw[List.getD_eq_getElem?_getD]
  by_cases hi:i<l.length
  · rw[List.getElem?_eq_getElem hi];exact h _ (List.getElem_mem hi)
  · rw[List.getElem?_eq_none (by omega)];simp
end Go.Proofs.Ytbajimbccbckkaa.Base
namespace Go.Proofs.Ytbajimbccbckkaa.L12
open Go.RowKit Go.Proofs.YtbajimbccbckkaaW.PrintWords Go.Proofs.YtbajimbccbckkaaW.PrintLast Go.Proofs.YtbajimbccbckkaaW.PrintMore Go.Proofs.Ytbajimbccbckkaa.Base Go.Proofs.Ytbajimbccbckkaa.Q12k
set_option linter.unusedVariables false
set_option linter.unusedSimpArgs false
theorem lsa_One_f (x:Int):lsa_One.f x=some (strOfNums (e1 x)):=rfl
theorem lsa_Two_f (x:Int):lsa_Two.f x=some (strOfNums (e2 x)):=rfl
theorem lsa_Four_f (x:Int):lsa_Four.f x=some (strOfNums (e4 x)):=by
  simp only[lsa_Four.f,lsa_Two_f,Option.bind_some,strOf_append,strOf_size,e2_len]
  rw[if_pos (by decide)]
  have h1:x/65536/256=x/16777216:=by omega
  simp only[e2,e4,List.cons_append,List.nil_append,h1]
theorem lsa_Number_step {acc:Int} {s:ByteArray} {i k d:Nat} (hd:i+(d+1)=s.size) (hi:i<=6) (h0:0<=acc) (h1:acc<lim i):
    lsa_Number.l0 (k+1) s acc (s.size:Int) (i:Int)=lsa_Number.l0 k s (acc*256+(B s).getD i 0) (s.size:Int) ((i+1:Nat):Int):=by
  have hb:bt s (i:Int)=(B s).getD i 0:=by rw[bt_B,Int.toNat_natCast]
  have hr:=byt_getD (B_byt s) i
  have hp:lim i<=281474976710656:=lim_le6 hi
  have h2:wrap64 (acc*256)=acc*256:=wrap_id (by omega) (by omega)
  have h3:wrap64 ((B s).getD i 0)=(B s).getD i 0:=wrap_id (by omega) (by omega)
  have h4:wrap64 ((i:Int)+1)=((i+1:Nat):Int):=by rw[wrap_id (by omega) (by omega)];omega
  have h5:Go.bits .or .i64 (acc*256) ((B s).getD i 0)=acc*256+(B s).getD i 0:=or_byte (by omega) (by omega) (by omega) hr.1 hr.2
  simp only[lsa_Number.l0]
  rw[if_pos (by omega),if_pos (by omega),if_pos (by omega),hb,h2,h3,h4,h5]
theorem lsa_Number_l {s:ByteArray} (hs:s.size<=7):∀(d k i:Nat) (acc:Int),i+d=s.size->d<k->0<=acc->acc<lim i->
    lsa_Number.l0 k s acc (s.size:Int) (i:Int)=some (((B s).drop i).foldl (λa b=>a*256+b) acc):=by
  intro d
  induction d with
  | zero=>
    intro k i acc hi hk h0 h1
    obtain⟨k,rfl⟩:∃m,k=m+1:=⟨k-1,by omega⟩
    simp only[lsa_Number.l0]
    rw[if_neg (by omega),List.drop_of_length_le (by rw[B_len];omega)]
    rfl
  | succ d ih=>
    intro k i acc hi hk h0 h1
    obtain⟨k,rfl⟩:∃m,k=m+1:=⟨k-1,by omega⟩
    have hlt:i<(B s).length :=by rw[B_len];omega
    have hd:(B s).drop i=(B s).getD i 0::(B s).drop (i+1):=by
      rw[List.drop_eq_getElem_cons hlt,List.getD_eq_getElem?_getD,List.getElem?_eq_getElem hlt,Option.getD_some]
    have hr:=byt_getD (B_byt s) i
    have hl:=lim_succ i
    rw[lsa_Number_step hi (by omega) h0 h1,ih k (i+1) _ (by omega) (by omega) (by omega) (by omega),hd,List.foldl_cons]
theorem lsa_Number_f {s:ByteArray} (hs:s.size<=7) {k:Nat} (hk:8<=k):lsa_Number.f k s=some (num (B s)):=
  lsa_Number_l hs s.size k 0 0 (by omega) (by omega) (by omega) (by decide)
instance:DecidableEq S109:=λa b=>decidable_of_iff (a.f0=b.f0/\a.f1=b.f1) (by cases a;cases b;simp)
def LinkOk (rt:Int) (x:S109):Prop:=1<=x.f0/\x.f0<=4/\x.f0≠rt/\1<=x.f1/\x.f1<=65535
instance (rt:Int) (x:S109):Decidable (LinkOk rt x):=by unfold LinkOk;infer_instance
def links (rt:Int):Int->List S109->Bool
  |_,[]=>true
  |p,x::l=>if LinkOk rt x/\p<x.f0 then links rt x.f0 l else false
theorem links_short {rt:Int} :∀(l:List S109) (p:Int),0<=p->links rt p l=true->l.length=0\/(l.length:Int)<=4-p
  | [],_,_,_=> .inl rfl
  | x::l,p,h0,h=>by
    unfold links at h
    by_cases hc:LinkOk rt x/\p<x.f0
    · rw[if_pos hc]at h
      have h4:=hc.1.2.1
      rcases links_short l x.f0 (by omega) h with h1|h1
      · right;simp only[List.length_cons,h1];omega
      · right;simp only[List.length_cons];omega
    · rw[if_neg hc]at h;cases h
theorem links_len {rt:Int} {l:List S109} (h:links rt 0 l=true):l.length<=4:=by
  rcases links_short l 0 (by omega) h with h1|h1 <;> omega
theorem links_range {rt:Int} :∀(l:List S109) (p:Int),links rt p l=true->∀x∈l,LinkOk rt x
  | [],_,_,_,hx=>by cases hx
  | y::l,p,h,x,hx=>by
    unfold links at h
    by_cases hc:LinkOk rt y/\p<y.f0
    · rw[if_pos hc]at h
      rcases List.mem_cons.mp hx with rfl|hx
      · exact hc.1
      · exact links_range l y.f0 h x hx
    · rw[if_neg hc]at h;cases h
theorem rdL_at {l:List S109} {i:Nat} (h:i<l.length):rd_T109 l (i:Int)=l[i]:=by
  unfold rd_T109;rw[Int.toNat_natCast,List.getD_eq_getElem?_getD,List.getElem?_eq_getElem h];rfl
def prevL (l:List S109) (i:Nat):Int:=if i=0 then 0 else(rd_T109 l ((i:Int)-1)).f0
theorem prevL_succ (l:List S109) (i:Nat):prevL l (i+1)=(rd_T109 l (i:Int)).f0 :=by
  unfold prevL;rw[if_neg (by omega)]
  have:((i+1:Nat):Int)-1=(i:Int):=by omega
  rw[this]
theorem dropL_at {l:List S109} {i:Nat} (h:i<l.length):l.drop i=rd_T109 l (i:Int)::l.drop (i+1):=by
  rw[List.drop_eq_getElem_cons h,rdL_at h]
theorem lsa_Router_f (x:Int):lsa_Router.f x=some (decide (1<=x/\x<=4)):=by
  unfold lsa_Router.f
  by_cases h:x>=1
  · rw[if_pos h];simp[show(1:Int)<=x from h]
  · rw[if_neg h];simp[show ¬(1:Int)<=x from h]
theorem lsa_Links_l {l:List S109} {rt:Int} (hn:l.length<=9223372036854775807):∀(d k i:Nat),i+d=l.length->d<k->
    lsa_Links.l0 k l rt l (l.length:Int) (i:Int)=some (links rt (prevL l i) (l.drop i)):=by
  intro d
  induction d with
  | zero=>
    intro k i hi hk
    obtain⟨k,rfl⟩:∃m,k=m+1:=⟨k-1,by omega⟩
    simp only[lsa_Links.l0]
    rw[if_neg (by omega),List.drop_of_length_le (by omega)]
    rfl
  | succ d ih=>
    intro k i hi hk
    obtain⟨k,rfl⟩:∃m,k=m+1:=⟨k-1,by omega⟩
    have hlt:i<l.length:=by omega
    have h4:wrap64 ((i:Int)+1)=((i+1:Nat):Int):=by rw[wrap_id (by omega) (by omega)];omega
    have h5:wrap64 ((i:Int)-1)=(i:Int)-1:=wrap_id (by omega) (by omega)
    have hr:=ih k (i+1) (by omega) (by omega)
    simp only[lsa_Links.l0,lsa_Router_f,Option.bind_some,decide_eq_true_eq]
    rw[if_pos (by omega),if_pos (by omega),if_pos (by omega),h4,h5,hr,prevL_succ,dropL_at hlt]
    generalize hx:rd_T109 l (i:Int)=x
    by_cases c1:1<=x.f0/\x.f0<=4
    · rw[if_pos c1]
      by_cases c2:x.f0=rt
      · rw[if_pos c2];unfold links;rw[if_neg (λhh=>hh.1.2.2.1 c2)]
      rw[if_neg c2]
      by_cases c3:x.f1<1
      · rw[if_pos c3];unfold links;rw[if_neg (λhh=>by have:=hh.1.2.2.2.1;omega)]
      rw[if_neg c3]
      by_cases c4:x.f1>65535
      · rw[if_pos c4];unfold links;rw[if_neg (λhh=>by have:=hh.1.2.2.2.2;omega)]
      rw[if_neg c4]
      have hok:LinkOk rt x:=⟨c1.1,c1.2,c2,by omega,by omega⟩
      by_cases h0:(i:Int)>0
      · rw[if_pos h0,if_pos (by omega),if_pos (by omega)]
        have hp:prevL l i=(rd_T109 l ((i:Int)-1)).f0 :=by unfold prevL;rw[if_neg (by omega)]
        by_cases hg:(rd_T109 l ((i:Int)-1)).f0 >=x.f0
        · rw[if_pos hg];unfold links;rw[if_neg (by rw[hp];omega)]
        · rw[if_neg hg];conv=>rhs;unfold links
          rw[if_pos ⟨hok,by rw[hp];omega⟩]
      · rw[if_neg h0]
        have hp:prevL l i=0:=by unfold prevL;rw[if_pos (by omega)]
        conv=>rhs;unfold links
        rw[if_pos ⟨hok,by rw[hp];omega⟩]
    · rw[if_neg c1];unfold links;rw[if_neg (λhh=>c1 ⟨hh.1.1,hh.1.2.1⟩)]
theorem lsa_Links_f {l:List S109} {rt:Int} (hn:l.length<=9223372036854775807) {k:Nat} (hk:l.length<k):lsa_Links.f k l rt=some (links rt 0 l):=
  lsa_Links_l hn l.length k 0 (by omega) hk
def LsaOk (r s g:Int) (l:List S109):Prop:=1<=r/\r<=4/\1<=s/\s<=2147483647/\0<=g/\g<=60/\links r 0 l=true
instance (r s g:Int) (l:List S109):Decidable (LsaOk r s g l):=by unfold LsaOk;infer_instance
theorem lsa_May_f {r s g:Int} {l:List S109} (hn:l.length<=9223372036854775807) {k:Nat} (hk:l.length<k):lsa_May.f k r s g l=some (decide (LsaOk r s g l)):=by
  simp only[lsa_May.f,lsa_Links_f hn hk,lsa_Router_f,Option.bind_some]
  unfold lsa_Serial.f lsa_Age.f
  by_cases h1:1<=r/\r<=4
  · unfold LsaOk
    by_cases h3:s>=1
    · by_cases h4:s<=2147483647
      · by_cases h5:g>=0
        · by_cases h6:g<=60
          · simp[h1.1,h1.2,h3,h4,h5,h6]
          · simp[h1.1,h1.2,h3,h4,h5,h6]
        · simp[h1.1,h1.2,h3,h4,h5]
      · simp[h1.1,h1.2,h3,h4]
    · simp[h1.1,h1.2,h3]
  · rw[decide_eq_false h1,if_neg (by decide),decide_eq_false (λhh:LsaOk r s g l=>h1 ⟨hh.1,hh.2.1⟩)]
def lbytes (x:S109):List Int:=e1 x.f0++e2 x.f1
theorem lbytes_byt (x:S109):Byt (lbytes x):=byt_append (e1_byt _) (e2_byt _)
theorem lbytes_len (x:S109):(lbytes x).length =3:=rfl
theorem lflat_byt (l:List S109):Byt (l.flatMap lbytes):=by
  intro y hy
  obtain⟨x,_,hx⟩:=List.mem_flatMap.mp hy
  exact lbytes_byt x y hx
theorem lflat_len (l:List S109):(l.flatMap lbytes).length =3*l.length:=by
  induction l with
  |nil=>rfl
  |cons x l ih=>rw[List.flatMap_cons,List.length_append,ih,lbytes_len,List.length_cons];omega
def bodyB (r s:Int) (l:List S109):List Int:=((e1 r++e4 s)++e1 (l.length:Int))++l.flatMap lbytes
theorem bodyB_byt (r s:Int) (l:List S109):Byt (bodyB r s l):=byt_append (byt_append (byt_append (e1_byt _) (e4_byt _)) (e1_byt _)) (lflat_byt l)
theorem bodyB_len (r s:Int) (l:List S109):(bodyB r s l).length =6+3*l.length:=by
  unfold bodyB;simp only[List.length_append,lflat_len,e1_len,e4_len]
theorem lsa_body_l {l:List S109} (hn:l.length<=255):∀(d k i:Nat) (acc:List Int),i+d=l.length->d<k->acc.length<=10+3*i->
    lsa_body.l0 k (strOfNums acc) l (l.length:Int) (i:Int)=some (strOfNums (acc++(l.drop i).flatMap lbytes)):=by
  intro d
  induction d with
  | zero=>
    intro k i acc hi hk ha
    obtain⟨k,rfl⟩:∃m,k=m+1:=⟨k-1,by omega⟩
    simp only[lsa_body.l0]
    rw[if_neg (by omega),List.drop_of_length_le (by omega)]
    simp
  | succ d ih=>
    intro k i acc hi hk ha
    obtain⟨k,rfl⟩:∃m,k=m+1:=⟨k-1,by omega⟩
    have hlt:i<l.length:=by omega
    have h4:wrap64 ((i:Int)+1)=((i+1:Nat):Int):=by rw[wrap_id (by omega) (by omega)];omega
    simp only[lsa_body.l0,lsa_One_f,lsa_Two_f,Option.bind_some,strOf_append,strOf_size,List.length_append,e1_len,e2_len]
    rw[if_pos (by omega),if_pos (by omega),if_pos (by omega),if_pos (by decide),if_pos (by omega),h4,
      ih k (i+1) _ (by omega) (by omega) (by simp only[List.length_append,e1_len,e2_len];omega),dropL_at hlt,List.flatMap_cons]
    simp only[lbytes,List.append_assoc]
theorem lsa_body_f {r s g:Int} {l:List S109} (hn:l.length<=255) {k:Nat} (hk:l.length<k):lsa_body.f k r s g l=some (strOfNums (bodyB r s l)):=by
  simp only[lsa_body.f,lsa_One_f,lsa_Four_f,Option.bind_some,strOf_append,strOf_size,List.length_append,e1_len,e4_len]
  rw[if_pos (by decide),if_pos (by decide)]
  exact lsa_body_l hn l.length k 0 _ (by omega) hk (by simp only[List.length_append,e1_len,e4_len];omega)
def fl:Int->Int->List Int->Int
  |a,b,[]=>256*b+a
  |a,b,x::l=>fl ((a+x) % 255) ((b+(a+x) % 255) % 255) l
theorem fl_range:∀(l:List Int) (a b:Int),0<=a/\a<255->0<=b/\b<255->0<=fl a b l/\fl a b l<=65278
  | [],a,b,ha,hb=>by unfold fl;omega
  |x::l,a,b,ha,hb=>by unfold fl;exact fl_range l _ _ (by omega) (by omega)
def flSum (l:List Int):Int:=fl 0 0 l
theorem flSum_range (l:List Int):0<=flSum l/\flSum l<=65278:=fl_range l 0 0 (by omega) (by omega)
theorem fletch_Sum_l {s:ByteArray} (hs:s.size<=140737488351232):∀(d k i:Nat) (a b:Int),i+d=s.size->d<k->0<=a/\a<255->0<=b/\b<255->
    fletch_Sum.l0 k s a b (s.size:Int) (i:Int)=some (fl a b ((B s).drop i)):=by
  intro d
  induction d with
  | zero=>
    intro k i a b hi hk ha hb
    obtain⟨k,rfl⟩:∃m,k=m+1:=⟨k-1,by omega⟩
    simp only[fletch_Sum.l0]
    rw[if_neg (by omega),List.drop_of_length_le (by rw[B_len];omega),wrap_id (x:=256*b) (by omega) (by omega),wrap_id (by omega) (by omega)]
    rfl
  | succ d ih=>
    intro k i a b hi hk ha hb
    obtain⟨k,rfl⟩:∃m,k=m+1:=⟨k-1,by omega⟩
    have hlt:i<(B s).length :=by rw[B_len];omega
    have hd:(B s).drop i=(B s).getD i 0::(B s).drop (i+1):=by
      rw[List.drop_eq_getElem_cons hlt,List.getD_eq_getElem?_getD,List.getElem?_eq_getElem hlt,Option.getD_some]
    have hbt:bt s (i:Int)=(B s).getD i 0:=by rw[bt_B,Int.toNat_natCast]
    have hr:=byt_getD (B_byt s) i
    have h4:wrap64 ((i:Int)+1)=((i+1:Nat):Int):=by rw[wrap_id (by omega) (by omega)];omega
    simp only[fletch_Sum.l0]
    rw[if_pos (by omega),if_pos (by omega),if_pos (by omega),hbt,h4,hd]
    generalize (B s).getD i 0=x at hr |-
    rw[wrap_id (x:=x) (by omega) (by omega),wrap_id (x:=a+x) (by omega) (by omega),Int.tmod_eq_emod_of_nonneg (a:=a+x) (by omega),
      wrap_id (x:=b+(a+x) % 255) (by omega) (by omega),Int.tmod_eq_emod_of_nonneg (a:=b+(a+x) % 255) (by omega),
      ih k (i+1) _ _ (by omega) (by omega) (by omega) (by omega)]
    rfl
theorem fletch_Sum_f {s:ByteArray} (hs:s.size<=140737488351232) {k:Nat} (hk:s.size<k):fletch_Sum.f k s=some (flSum (B s)):=
  fletch_Sum_l hs s.size k 0 0 0 (by omega) hk (by omega) (by omega)
def putB (r s g:Int) (l:List S109):List Int:=(e1 g++bodyB r s l)++e2 (flSum (bodyB r s l))
theorem putB_byt (r s g:Int) (l:List S109):Byt (putB r s g l):=byt_append (byt_append (e1_byt _) (bodyB_byt r s l)) (e2_byt _)
theorem putB_len (r s g:Int) (l:List S109):(putB r s g l).length =9+3*l.length:=by
  unfold putB;simp only[List.length_append,bodyB_len,e1_len,e2_len];omega
theorem lsa_Put_f {r s g:Int} {l:List S109} (hn:l.length<=9223372036854775807) {k:Nat} (hk:l.length<k) (h20:20<=k):
    lsa_Put.f k r s g l=some (if LsaOk r s g l then(strOfNums (putB r s g l),0)else(⟨#[]⟩,700)):=by
  simp only[lsa_Put.f,lsa_May_f hn hk,Option.bind_some,decide_eq_true_eq]
  by_cases h:LsaOk r s g l
  · have h4:=links_len h.2.2.2.2.2.2
    have hb:=bodyB_len r s l
    rw[if_pos h,if_pos h,lsa_body_f (by omega) hk]
    simp only[Option.bind_some,lsa_One_f,lsa_Two_f]
    rw[fletch_Sum_f (by rw[strOf_size];omega) (by rw[strOf_size];omega),B_strOf (bodyB_byt r s l)]
    simp only[Option.bind_some,strOf_append,strOf_size,List.length_append,e1_len,e2_len,hb]
    rw[if_pos (by omega),if_pos (by omega)]
    rfl
  · rw[if_neg h,if_neg h]
def parseL:Nat->List Int->List S109
  |0,_=>[]
  |n+1,b=>⟨b.getD 0 0,num ((b.drop 1).take 2)⟩::parseL n (b.drop 3)
theorem parseL_len:∀(n:Nat) (b:List Int),(parseL n b).length =n
  |0,_=>rfl
  |n+1,b=>by unfold parseL;rw[List.length_cons,parseL_len n]
def endL (b:List Int) (sz:Nat) (r s g:Int) (l:List S109):Option (Int × Int × Int × List S109 × Nat):=
  if LsaOk r s g l/\putB r s g l=b.take sz then some (r,s,g,l,sz)else none
def getLsa (b:List Int):Option (Int × Int × Int × List S109 × Nat):=
  if b.length<7 then none else
  if b.length<9+3*(b.getD 6 0).toNat then none else
  endL b (9+3*(b.getD 6 0).toNat) (b.getD 1 0) (num ((b.drop 2).take 4)) (b.getD 0 0) (parseL (b.getD 6 0).toNat (b.drop 7))
def tellL (at_:Int):Option (Int × Int × Int × List S109 × Nat)->Int × Int × Int × List S109 × Int × Int
  |some (r,s,g,l,sz)=>(r,s,g,l,at_+(sz:Int),0)
  |none=>(0,0,0,[],0,700)
theorem lgetD_drop (b:List Int) (i j:Nat):(b.drop i).getD j 0=b.getD (i+j) 0:=by
  rw[List.getD_eq_getElem?_getD,List.getD_eq_getElem?_getD,List.getElem?_drop]
theorem B_tail (x:ByteArray) (p:Nat):B (x.extract p x.size)=(B x).drop p:=by
  rw[B_extract,List.take_of_length_le]
  rw[List.length_drop,B_len];exact Nat.le_refl _
theorem size_tail (x:ByteArray) (p:Nat):(x.extract p x.size).size =x.size-p:=by
  rw[ByteArray.size_extract,Nat.min_self]
theorem lsa_Number_at (x:ByteArray) (p a b:Nat) (hab:b-a<=7) {k:Nat} (hk:8<=k):lsa_Number.f k ((x.extract p x.size).extract a b)=some (num ((((B x).drop p).drop a).take (b-a))):=by
  have e:B ((x.extract p x.size).extract a b)=(((B x).drop p).drop a).take (b-a):=by rw[B_extract,B_tail]
  have hs:((x.extract p x.size).extract a b).size <=7:=by rw[<-B_len,e,List.length_take];exact Nat.le_trans (Nat.min_le_left _ _) hab
  rw[lsa_Number_f hs hk,e]
theorem bt_tail (x:ByteArray) (p j:Nat):bt (x.extract p x.size) (j:Int)=((B x).drop p).getD j 0:=by
  rw[bt_B,B_tail,Int.toNat_natCast]
theorem wrap_bt (x:ByteArray) (p j:Nat):wrap64 (bt (x.extract p x.size) (j:Int))=((B x).drop p).getD j 0:=by
  have h:=byt_getD (byt_drop p (B_byt x)) j
  rw[bt_tail];exact wrap_id (by omega) (by omega)
theorem wrap_bt0 (x:ByteArray) (p:Nat):wrap64 (bt (x.extract p x.size) 0)=((B x).drop p).getD 0 0:=wrap_bt x p 0
theorem tail_bounds {z p:Nat} (h:p+3<=z):(p:Int)<=(z:Int)/\0<((z-p:Nat):Int)/\3<=((z-p:Nat):Int):=by omega
theorem link_in {sz n i z:Nat} (hsz:sz=9+3*n) (hx:sz<=z) (hi:i<n):7+3*i+3<=z:=by omega
theorem wrap_3 {i:Nat} (h:i<=255):wrap64 (3*(i:Int))=3*(i:Int):=wrap_id (by omega) (by omega)
theorem wrap_7 {i:Nat} (h:i<=255):wrap64 (7+3*(i:Int))=((7+3*i:Nat):Int):=by rw[wrap_id (by omega) (by omega)];omega
theorem wrap_1 {i:Nat} (h:i<=255):wrap64 ((i:Int)+1)=((i+1:Nat):Int):=by rw[wrap_id (by omega) (by omega)];omega
set_option maxHeartbeats 2000000 in
theorem lsa_Get_l {x:ByteArray} (hs:x.size<=281474976710656) {at_:Int} (ha0:0<=at_) (ha1:at_<=281474976710656) {r s g:Int} {n sz:Nat} (hn:n<=255) (hsz:sz=9+3*n) (hx:sz<=x.size):∀(d k i:Nat) (acc:List S109),acc.length=i->i+d=n->d+300<=k->
    lsa_Get.l0 k at_ x (sz:Int) (n:Int) (i:Int) r s g acc=some (tellL at_ (endL (B x) sz r s g (acc++parseL d ((B x).drop (7+3*i))))):=by
  intro d
  induction d with
  | zero=>
    intro k i acc ha hi hk
    obtain⟨k,rfl⟩:∃m,k=m+1:=⟨k-1,by omega⟩
    simp only[lsa_Get.l0]
    rw[if_neg (by omega),lsa_Put_f (by omega) (by omega) (by omega),Option.bind_some]
    have he:acc++parseL 0 ((B x).drop (7+3*i))=acc:=by unfold parseL;simp
    rw[he]
    unfold endL
    by_cases h:LsaOk r s g acc
    · rw[if_pos h,if_pos rfl,if_pos (by omega),if_pos (by omega),Int.toNat_natCast]
      have hB:B (x.extract 0 sz)=(B x).take sz:=by rw[B_extract,List.drop_zero,Nat.sub_zero]
      by_cases h2:putB r s g acc=(B x).take sz
      · rw[if_pos (by rw[toList_iff,B_strOf (putB_byt _ _ _ _),hB];exact h2),if_pos ⟨h,h2⟩,wrap_id (by omega) (by omega)]
        rfl
      · rw[if_neg (by rw[toList_iff,B_strOf (putB_byt _ _ _ _),hB];exact h2),if_neg (λhh=>h2 hh.2)]
        rfl
    · rw[if_neg h,if_neg (by decide),if_neg (λhh=>h hh.1)]
      rfl
  | succ d ih=>
    intro k i acc ha hi hk
    obtain⟨k,rfl⟩:∃m,k=m+1:=⟨k-1,by omega⟩
    have hlt:i<n:=by omega
    have hp:parseL (d+1) ((B x).drop (7+3*i))=(⟨((B x).drop (7+3*i)).getD 0 0,num ((((B x).drop (7+3*i)).drop 1).take 2)⟩:S109)::parseL d ((B x).drop (7+3*(i+1))):=by
      have h0:((B x).drop (7+3*i)).drop 3=(B x).drop (7+3*(i+1)):=by rw[List.drop_drop];congr 1
      conv=>lhs;unfold parseL
      rw[h0]
    obtain⟨c1,c2,c3⟩:=tail_bounds (z:=x.size) (p:=7+3*i) (link_in hsz hx hlt)
    have hr:=ih k (i+1) (acc++[(⟨((B x).drop (7+3*i)).getD 0 0,num ((((B x).drop (7+3*i)).drop 1).take 2)⟩:S109)]) (by simp only[List.length_append,List.length_singleton];omega) (by omega) (by omega)
    have hk8:8<=k:=by omega
    have ha2:acc.length<8796093022208:=by omega
    have w3:=wrap_3 (show i<=255 by omega)
    have w7:=wrap_7 (show i<=255 by omega)
    have w1:=wrap_1 (show i<=255 by omega)
    clear ih ha hi hk hsz hs ha0 ha1
    simp only[lsa_Get.l0,w3,w7,w1,Int.toNat_natCast,size_tail]
    rw[if_pos (Int.ofNat_lt.mpr hlt),if_pos (Int.natCast_nonneg _),if_pos c1,if_pos c2,if_pos (by decide),if_pos c3,lsa_Number_at x (7+3*i) 1 3 (by decide) hk8,Option.bind_some,wrap_bt0 x (7+3*i),if_pos ha2,hr,hp,List.append_assoc]
    rfl
set_option maxHeartbeats 2000000 in
theorem lsa_Get_f {a:ByteArray} (hs:a.size<=281474976710656) {at_:Int} (hw: -9223372036854775808<=at_/\at_<=9223372036854775807) {k:Nat} (hk:600<=k):
    lsa_Get.f k a at_=some (tellL at_ (if 0<=at_ then getLsa ((B a).drop at_.toNat)else none)):=by
  obtain⟨k,rfl⟩:∃m,k=m+1:=⟨k-1,by omega⟩
  have hl:=B_len a
  unfold lsa_Get.f
  by_cases c0:at_<0
  · rw[if_pos c0,if_neg (by omega)]
    simp only[lsa_Get.j0,if_true];rfl
  rw[if_neg c0,if_pos (show 0<=at_ by omega)]
  obtain⟨p,rfl⟩:∃p:Nat,at_=(p:Int):=⟨at_.toNat,by omega⟩
  rw[Int.toNat_natCast]
  have hld:((B a).drop p).length =a.size-p:=by rw[List.length_drop,hl]
  by_cases c1:(p:Int)>(a.size:Int)
  · rw[if_pos c1]
    simp only[lsa_Get.j0,if_true]
    unfold getLsa
    rw[if_pos (by omega)];rfl
  rw[if_neg c1,wrap_id (x:=(a.size:Int)-(p:Int)) (by omega) (by omega)]
  by_cases c2:(a.size:Int)-(p:Int)<7
  · rw[decide_eq_true c2]
    simp only[lsa_Get.j0,if_true]
    unfold getLsa
    rw[if_pos (by omega)];rfl
  rw[decide_eq_false c2]
  have hby:Byt ((B a).drop p):=byt_drop p (B_byt a)
  have hr6:=byt_getD hby 6
  simp only[lsa_Get.j0,Int.toNat_natCast,Bool.false_eq_true,if_false,size_tail]
  rw[if_pos (by omega),if_pos (by omega),if_pos (by omega),if_pos (by omega),if_pos (by decide),if_pos (by omega),lsa_Number_at a p 2 6 (by omega) (show 8<=k by omega),Option.bind_some,if_pos (by omega),wrap_bt0 a p,show wrap64 (bt (a.extract p a.size) 1)=_ from wrap_bt a p 1,show wrap64 (bt (a.extract p a.size) 6)=_ from wrap_bt a p 6]
  unfold getLsa
  rw[hld]
  generalize hn:((B a).drop p).getD 6 0=n at hr6 |-
  obtain⟨n,rfl⟩:∃m:Nat,n=(m:Int):=⟨n.toNat,by omega⟩
  clear hn
  rw[wrap_id (x:=3*(n:Int)) (by omega) (by omega),wrap_id (x:=7+3*(n:Int)) (by omega) (by omega),wrap_id (x:=7+3*(n:Int)+2) (by omega) (by omega),Int.toNat_natCast]
  by_cases c3:7+3*(n:Int)+2>((a.size-p:Nat):Int)
  · rw[if_pos c3,if_neg (by omega),if_pos (by omega)];rfl
  rw[if_neg c3,if_neg (by omega),if_neg (by omega)]
  have hz:7+3*(n:Int)+2=((9+3*n:Nat):Int):=by omega
  have:=lsa_Get_l (x:=a.extract p a.size) (by rw[size_tail];omega) (show 0<=(p:Int)by omega) (by omega) (r:=((B a).drop p).getD 1 0) (s:=num ((((B a).drop p).drop 2).take 4)) (g:=((B a).drop p).getD 0 0) (n:=n) (sz:=9+3*n) (by omega) rfl (by rw[size_tail];omega) n k 0 [] rfl (by omega) (by omega)
  rw[hz]
  refine Eq.trans this ?_
  rw[B_tail]
  rfl
theorem parse_links:∀(l:List S109) (r:List Int),(∀x∈l,1<=x.f0/\x.f0<=4/\1<=x.f1/\x.f1<=65535)->parseL l.length (l.flatMap lbytes++r)=l
  | [],r,_=>rfl
  | x::l,r,h=>by
    have hx:=h x (by simp)
    rw[List.flatMap_cons,List.length_cons,List.append_assoc]
    unfold parseL
    have a0:(lbytes x++(l.flatMap lbytes++r)).getD 0 0=x.f0:=by simp[lbytes,e1];omega
    have a1:((lbytes x++(l.flatMap lbytes++r)).drop 1).take 2=e2 x.f1:=by simp[lbytes,e1,e2]
    rw[a0,a1,num_e2 (by omega) (by omega),<-lbytes_len x,List.drop_left,parse_links l r (λy hy=>h y (by simp[hy]))]
theorem get_put {r s g:Int} {l:List S109} (h:LsaOk r s g l) (rest:List Int):getLsa (putB r s g l++rest)=some (r,s,g,l,9+3*l.length):=by
  obtain⟨h1,h2,h3,h4,h5,h6,h7⟩:=h
  have hl:=links_len h7
  have hlen:=putB_len r s g l
  have hbn:(bodyB r s l).length =6+3*l.length:=bodyB_len r s l
  have hform:putB r s g l++rest=(g % 256)::(r % 256)::(s/16777216 % 256)::(s/65536 % 256)::(s/256 % 256)::(s % 256)::((l.length:Int) % 256)::(l.flatMap lbytes++(e2 (flSum (bodyB r s l))++rest)):=by
    unfold putB
    conv=>lhs;rw[show bodyB r s l=((e1 r++e4 s)++e1 (l.length:Int))++l.flatMap lbytes from rfl]
    simp[e1,e4,bodyB]
  have g0:(putB r s g l++rest).getD 0 0=g:=by rw[hform];show g % 256=g;omega
  have g1:(putB r s g l++rest).getD 1 0=r:=by rw[hform];show r % 256=r;omega
  have g6:(putB r s g l++rest).getD 6 0=(l.length:Int):=by rw[hform];show(l.length:Int) % 256=_;omega
  have g2:((putB r s g l++rest).drop 2).take 4=e4 s:=by rw[hform];rfl
  have g7:(putB r s g l++rest).drop 7=l.flatMap lbytes++(e2 (flSum (bodyB r s l))++rest):=by rw[hform];rfl
  unfold getLsa
  rw[if_neg (by rw[List.length_append];omega),g6,Int.toNat_natCast,if_neg (by rw[List.length_append];omega),g0,g1,g2,g7,num_e4 (by omega) (by omega),
    parse_links l _ (λx hx=>by have:=links_range l 0 h7 x hx;exact⟨this.1,this.2.1,this.2.2.2.1,this.2.2.2.2⟩)]
  unfold endL
  rw[if_pos ⟨⟨h1,h2,h3,h4,h5,h6,h7⟩,by rw[<-hlen,List.take_left]⟩]
theorem get_some {b:List Int} {r s g:Int} {l:List S109} {sz:Nat} (h:getLsa b=some (r,s,g,l,sz)):LsaOk r s g l/\putB r s g l=b.take sz/\sz<=b.length/\sz=9+3*l.length:=by
  unfold getLsa at h
  by_cases c0:b.length<7
  · rw[if_pos c0]at h;cases h
  rw[if_neg c0]at h
  by_cases c1:b.length<9+3*(b.getD 6 0).toNat
  · rw[if_pos c1]at h;cases h
  rw[if_neg c1]at h
  unfold endL at h
  split at h
  · rename_i hc
    simp only[Option.some.injEq,Prod.mk.injEq]at h
    obtain⟨rfl,rfl,rfl,rfl,rfl⟩:=h
    exact⟨hc.1,hc.2,by omega,by rw[parseL_len]⟩
  · cases h
theorem SameL_l {l m:List S109} (hn:l.length<=9223372036854775807) (he:l.length=m.length):∀(d k i:Nat),i+d=l.length->d<k->
    watchwordlaw0_SameLinks.l0 k l m (i:Int)=some (decide (l.drop i=m.drop i)):=by
  intro d
  induction d with
  | zero=>
    intro k i hi hk
    obtain⟨k,rfl⟩:∃m,k=m+1:=⟨k-1,by omega⟩
    simp only[watchwordlaw0_SameLinks.l0]
    rw[if_neg (by omega),List.drop_of_length_le (by omega),List.drop_of_length_le (by omega)]
    simp
  | succ d ih=>
    intro k i hi hk
    obtain⟨k,rfl⟩:∃m,k=m+1:=⟨k-1,by omega⟩
    have h4:wrap64 ((i:Int)+1)=((i+1:Nat):Int):=by rw[wrap_id (by omega) (by omega)];omega
    simp only[watchwordlaw0_SameLinks.l0]
    rw[if_pos (by omega),if_pos (by omega),if_pos (by omega),h4,ih k (i+1) (by omega) (by omega),dropL_at (l:=l) (i:=i) (by omega),dropL_at (l:=m) (i:=i) (by omega)]
    generalize rd_T109 l (i:Int)=x
    generalize rd_T109 m (i:Int)=y
    have hx:(!(x.f0==y.f0)||(!(x.f1==y.f1)))= !decide (x=y):=by
      cases x;cases y
      rw[Bool.eq_iff_iff]
      simp
    rw[hx]
    by_cases hc:x=y
    · rw[hc];simp
    · simp[hc]
theorem SameL_f {l m:List S109} (hn:l.length<=9223372036854775807) {k:Nat} (hk:l.length<k):watchwordlaw0_SameLinks.f k l m=some (decide (l=m)):=by
  unfold watchwordlaw0_SameLinks.f
  by_cases h:l.length=m.length
  · rw[if_pos (by omega)]
    have:=SameL_l hn h l.length k 0 (by omega) hk
    rw[List.drop_zero,List.drop_zero]at this
    exact this
  · rw[if_neg (by omega),decide_eq_false (λe=>h (by rw[e]))]
theorem SameLsa_f {r s g r' s' g':Int} {l m:List S109} (hn:l.length<=9223372036854775807) {k:Nat} (hk:l.length<k):
    watchwordlaw0_SameLsa.f k r s g l r' s' g' m=some (decide (r=r'/\s=s'/\g=g'/\l=m)):=by
  unfold watchwordlaw0_SameLsa.f
  rw[SameL_f hn hk]
  by_cases h1:r=r'
  · by_cases h2:s=s'
    · by_cases h3:g=g'
      · rw[if_pos h1,if_pos h2,if_pos h3];simp[h1,h2,h3]
      · rw[if_pos h1,if_pos h2,if_neg h3];simp[h3]
    · rw[if_pos h1,if_neg h2];simp[h2]
  · rw[if_neg h1];simp[h1]
def UsOk (x:S45):Prop:=LsaOk x.f0 x.f1 x.f2 x.f3
instance (x:S45):Decidable (UsOk x):=by unfold UsOk;infer_instance
instance:DecidableEq S45:=λa b=>decidable_of_iff (a.f0=b.f0/\a.f1=b.f1/\a.f2=b.f2/\a.f3=b.f3) (by cases a;cases b;simp)
def upd:Int->List S45->Bool
  |_,[]=>true
  |p,x::l=>if UsOk x/\p<x.f0 then upd x.f0 l else false
theorem upd_short:∀(l:List S45) (p:Int),0<=p->upd p l=true->l.length=0\/(l.length:Int)<=4-p
  | [],_,_,_=> .inl rfl
  | x::l,p,h0,h=>by
    unfold upd at h
    by_cases hc:UsOk x/\p<x.f0
    · rw[if_pos hc]at h
      have h4:=hc.1.2.1
      rcases upd_short l x.f0 (by omega) h with h1|h1
      · right;simp only[List.length_cons,h1];omega
      · right;simp only[List.length_cons];omega
    · rw[if_neg hc]at h;cases h
theorem upd_len {l:List S45} (h:upd 0 l=true):l.length<=4:=by
  rcases upd_short l 0 (by omega) h with h1|h1 <;> omega
theorem upd_ok:∀(l:List S45) (p:Int),upd p l=true->∀x∈l,UsOk x
  | [],_,_,_,hx=>by cases hx
  | y::l,p,h,x,hx=>by
    unfold upd at h
    by_cases hc:UsOk y/\p<y.f0
    · rw[if_pos hc]at h
      rcases List.mem_cons.mp hx with rfl|hx
      · exact hc.1
      · exact upd_ok l y.f0 h x hx
    · rw[if_neg hc]at h;cases h
theorem usOk_len {x:S45} (h:UsOk x):x.f3.length<=4:=links_len h.2.2.2.2.2.2
theorem rdU_at {l:List S45} {i:Nat} (h:i<l.length):rd_T45 l (i:Int)=l[i]:=by
  unfold rd_T45;rw[Int.toNat_natCast,List.getD_eq_getElem?_getD,List.getElem?_eq_getElem h];rfl
theorem rdU_mem {l:List S45} {i:Nat} (h:i<l.length):rd_T45 l (i:Int)∈l:=by rw[rdU_at h];exact List.getElem_mem h
def prevU (l:List S45) (i:Nat):Int:=if i=0 then 0 else(rd_T45 l ((i:Int)-1)).f0
theorem prevU_succ (l:List S45) (i:Nat):prevU l (i+1)=(rd_T45 l (i:Int)).f0 :=by
  unfold prevU;rw[if_neg (by omega)]
  have:((i+1:Nat):Int)-1=(i:Int):=by omega
  rw[this]
theorem dropU_at {l:List S45} {i:Nat} (h:i<l.length):l.drop i=rd_T45 l (i:Int)::l.drop (i+1):=by
  rw[List.drop_eq_getElem_cons h,rdU_at h]
theorem update_May_l {l:List S45} {M:Nat} (hn:l.length<=9223372036854775807) (hM:∀x∈l,x.f3.length<M) (hM2:M<=9223372036854775807):∀(d k i:Nat),i+d=l.length->d+M<k->
    update_May.l0 k l l (l.length:Int) (i:Int)=some (upd (prevU l i) (l.drop i)):=by
  intro d
  induction d with
  | zero=>
    intro k i hi hk
    obtain⟨k,rfl⟩:∃m,k=m+1:=⟨k-1,by omega⟩
    simp only[update_May.l0]
    rw[if_neg (by omega),List.drop_of_length_le (by omega)]
    rfl
  | succ d ih=>
    intro k i hi hk
    obtain⟨k,rfl⟩:∃m,k=m+1:=⟨k-1,by omega⟩
    have hlt:i<l.length:=by omega
    have h4:wrap64 ((i:Int)+1)=((i+1:Nat):Int):=by rw[wrap_id (by omega) (by omega)];omega
    have h5:wrap64 ((i:Int)-1)=(i:Int)-1:=wrap_id (by omega) (by omega)
    have hr:=ih k (i+1) (by omega) (by omega)
    have hm:=hM _ (rdU_mem hlt)
    simp only[update_May.l0]
    rw[if_pos (by omega),if_pos (by omega),if_pos (by omega),h4,h5,hr,prevU_succ,dropU_at hlt]
    generalize rd_T45 l (i:Int)=x at hm |-
    rw[lsa_May_f (by omega) (show x.f3.length<k by omega)]
    simp only[Option.bind_some,decide_eq_true_eq]
    by_cases c1:LsaOk x.f0 x.f1 x.f2 x.f3
    · rw[if_pos c1]
      have hok:UsOk x:=c1
      have h1:=c1.1
      by_cases h0:(i:Int)>0
      · rw[if_pos h0,if_pos (by omega),if_pos (by omega)]
        have hp:prevU l i=(rd_T45 l ((i:Int)-1)).f0 :=by unfold prevU;rw[if_neg (by omega)]
        by_cases hg:(rd_T45 l ((i:Int)-1)).f0 >=x.f0
        · rw[if_pos hg];unfold upd;rw[if_neg (by rw[hp];omega)]
        · rw[if_neg hg];conv=>rhs;unfold upd
          rw[if_pos ⟨hok,by rw[hp];omega⟩]
      · rw[if_neg h0]
        have hp:prevU l i=0:=by unfold prevU;rw[if_pos (by omega)]
        conv=>rhs;unfold upd
        rw[if_pos ⟨hok,by rw[hp];omega⟩]
    · rw[if_neg c1];unfold upd;rw[if_neg (λhh=>c1 hh.1)]
theorem update_May_f {l:List S45} {M:Nat} (hn:l.length<=9223372036854775807) (hM:∀x∈l,x.f3.length<M) (hM2:M<=9223372036854775807) {k:Nat} (hk:l.length+M<k):
    update_May.f k l=some (upd 0 l):=update_May_l hn hM hM2 l.length k 0 (by omega) hk
def ubytes (x:S45):List Int:=putB x.f0 x.f1 x.f2 x.f3
theorem ubytes_byt (x:S45):Byt (ubytes x):=putB_byt _ _ _ _
theorem ubytes_len (x:S45):(ubytes x).length =9+3*x.f3.length:=putB_len _ _ _ _
theorem uflat_byt (l:List S45):Byt (l.flatMap ubytes):=by
  induction l with
  |nil=>exact byt_nil
  |cons x l ih=>rw[List.flatMap_cons];exact byt_append (ubytes_byt x) ih
def updB (l:List S45):List Int:=e1 (l.length:Int)++l.flatMap ubytes
theorem updB_byt (l:List S45):Byt (updB l):=byt_append (e1_byt _) (uflat_byt l)
theorem update_Put_l {l:List S45} (h4:l.length<=4) (hok:∀x∈l,UsOk x):∀(d k i:Nat) (acc:List Int),i+d=l.length->d+30<k->acc.length<=1+21*i->
    update_Put.l0 k (strOfNums acc) l (l.length:Int) (i:Int)=some (strOfNums (acc++(l.drop i).flatMap ubytes),0):=by
  intro d
  induction d with
  | zero=>
    intro k i acc hi hk ha
    obtain⟨k,rfl⟩:∃m,k=m+1:=⟨k-1,by omega⟩
    simp only[update_Put.l0]
    rw[if_neg (by omega),List.drop_of_length_le (by omega),List.flatMap_nil,List.append_nil]
  | succ d ih=>
    intro k i acc hi hk ha
    obtain⟨k,rfl⟩:∃m,k=m+1:=⟨k-1,by omega⟩
    have hlt:i<l.length:=by omega
    have h5:wrap64 ((i:Int)+1)=((i+1:Nat):Int):=by rw[wrap_id (by omega) (by omega)];omega
    have hx:=hok _ (rdU_mem hlt)
    simp only[update_Put.l0]
    rw[if_pos (by omega),if_pos (by omega),if_pos (by omega),h5,dropU_at hlt]
    generalize rd_T45 l (i:Int)=x at hx |-
    have hl4:=usOk_len hx
    have hul:=ubytes_len x
    rw[lsa_Put_f (by omega) (show x.f3.length<k by omega) (by omega),if_pos (show LsaOk x.f0 x.f1 x.f2 x.f3 from hx)]
    simp only[Option.bind_some]
    rw[show strOfNums (putB x.f0 x.f1 x.f2 x.f3)=strOfNums (ubytes x)from rfl,strOf_append,strOf_size,strOf_size,if_pos (by omega),ih k (i+1) (acc++ubytes x) (by omega) (by omega) (by rw[List.length_append];omega),List.flatMap_cons,List.append_assoc]
theorem update_Put_f {l:List S45} {M:Nat} (hn:l.length<=9223372036854775807) (hM:∀x∈l,x.f3.length<M) (hM2:M<=9223372036854775807) {k:Nat} (hk:l.length+M<k) (hk2:35<=k):
    update_Put.f k l=some (if upd 0 l=true then(strOfNums (updB l),0)else(⟨#[]⟩,1000)):=by
  simp only[update_Put.f,update_May_f hn hM hM2 hk,Option.bind_some]
  by_cases h:upd 0 l=true
  · have h4:=upd_len h
    rw[if_pos h,if_pos h,lsa_One_f,Option.bind_some]
    exact update_Put_l h4 (upd_ok l 0 h) l.length k 0 (e1 (l.length:Int)) (by omega) (by omega) (by rw[e1_len];omega)
  · rw[if_neg h,if_neg h]
def gul:Nat->List Int->Nat->List S45->Option (List S45)
  |0,_,_,acc=>some acc
  | n +1,b,p,acc=>if p<b.length then(match getLsa (b.drop p)with
      |none=>none
      |some (r,s,g,l,sz)=>gul n b (p+sz) (acc++[⟨r,s,g,l⟩]))else some acc
def finU (b:List Int):Option (List S45)->Option (List S45)
  |none=>none
  |some out=>if upd 0 out=true/\updB out=b then some out else none
def getUpd (b:List Int):Option (List S45):=finU b (gul 5 b 1 [])
def tellU:Option (List S45)->List S45 × Int
  |some out=>(out,0)
  |none=>([],1000)
theorem update_Get_end {a:ByteArray} {acc:List S45} (h5:acc.length<=5) (hl:∀x∈acc,x.f3.length<=4) {k:Nat} (hk:60<=k) {p:Int} :
    update_Get.j1 k a acc p false=some (tellU (finU (B a) (some acc))):=by
  obtain⟨k,rfl⟩:∃m,k=m+1:=⟨k-1,by omega⟩
  simp only[update_Get.j1,Bool.false_eq_true,if_false]
  rw[update_Put_f (M:=5) (by omega) (λx hx=>by have:=hl x hx;omega) (by omega) (by omega) (by omega),Option.bind_some]
  unfold finU
  by_cases h:upd 0 acc=true
  · rw[if_pos h]
    simp only[if_true,toList_iff,B_strOf (updB_byt acc)]
    by_cases h2:updB acc=B a
    · rw[if_pos h2,if_pos ⟨h,h2⟩];rfl
    · rw[if_neg h2,if_neg (λhh=>h2 hh.2)];rfl
  · rw[if_neg h]
    simp only
    rw[if_neg (show ¬((1000:Int)=0)by decide),if_neg (λhh:upd 0 acc=true/\updB acc=B a=>h hh.1)];rfl
theorem update_Get_l {a:ByteArray} (hs:a.size<=281474976710656):∀(n k p:Nat) (acc:List S45),acc.length+n=5->p<=a.size\/n=5->p<=281474976710656->(∀x∈acc,x.f3.length<=4)->2*n+700<=k->
    update_Get.l0 k a acc (p:Int)=some (tellU (finU (B a) (gul n (B a) p acc))):=by
  intro n
  induction n with
  | zero=>
    intro k p acc hn hp hp2 hl hk
    obtain⟨k,rfl⟩:∃m,k=m+1:=⟨k-1,by omega⟩
    simp only[update_Get.l0]
    rw[decide_eq_false (by omega),ite_self]
    exact update_Get_end (by omega) hl (by omega)
  | succ n ih=>
    intro k p acc hn hp hp2 hl hk
    obtain⟨k,rfl⟩:∃m,k=m+2:=⟨k-2,by omega⟩
    have hbl:=B_len a
    simp only[update_Get.l0]
    unfold gul
    by_cases hlt:p<a.size
    · rw[if_pos (by omega),decide_eq_true (by omega),if_pos (by omega)]
      simp only[update_Get.j1,if_true]
      rw[lsa_Get_f hs (by omega) (by omega),if_pos (by omega),Int.toNat_natCast,Option.bind_some]
      cases hg:getLsa ((B a).drop p)with
      |none=>simp only[tellL];exact(if_neg (show ¬((700:Int)=0)by decide)).trans rfl
      | some z=>
        obtain⟨r,s,g,l,sz⟩:=z
        have hgs:=get_some hg
        have hl4:=links_len hgs.1.2.2.2.2.2.2
        have hsz:=hgs.2.2.1
        rw[List.length_drop,hbl]at hsz
        simp only[tellL]
        rw[if_pos trivial,if_pos (by omega),show(p:Int)+(sz:Int)=((p+sz:Nat):Int)by omega]
        refine ih k (p+sz) _ (by rw[List.length_append];simp only[List.length_cons,List.length_nil];omega) (by omega) (by omega) ?_ (by omega)
        intro x hx
        rcases List.mem_append.mp hx with hx|hx
        · exact hl x hx
        · rcases List.mem_singleton.mp hx with rfl;exact hl4
    · rw[if_neg (by omega),if_neg (by omega)]
      exact update_Get_end (by omega) hl (by omega)
theorem update_Get_f {a:ByteArray} (hs:a.size<=281474976710656) {k:Nat} (hk:710<=k):update_Get.f k a=some (tellU (getUpd (B a))):=
  update_Get_l hs 5 k 1 [] rfl (.inr rfl) (by omega) (by simp) (by omega)
theorem gul_put:∀(l:List S45) (pre:List Int) (acc:List S45) (n:Nat),(∀x∈l,UsOk x)->l.length<=n->gul n (pre++l.flatMap ubytes) pre.length acc=some (acc++l)
  | [],pre,acc,n,_,_=>by
    rw[List.flatMap_nil,List.append_nil,List.append_nil]
    cases n with
    |zero=>rfl
    |succ n=>unfold gul;rw[if_neg (by omega)]
  |x::l,pre,acc,0,_,h=>by simp at h
  | x::l,pre,acc,n+1,hok,h=>by
    have hx:=hok x (by simp)
    have hul:=ubytes_len x
    unfold gul
    rw[List.flatMap_cons,if_pos (by rw[List.length_append,List.length_append];omega),List.drop_left,show ubytes x=putB x.f0 x.f1 x.f2 x.f3 from rfl,get_put hx]
    simp only
    have:=gul_put l (pre++ubytes x) (acc++[x]) n (λy hy=>hok y (by simp[hy])) (by simpa using h)
    rw[List.length_append,hul,List.append_assoc,List.append_assoc]at this
    exact this
theorem getUpd_put {l:List S45} (h:upd 0 l=true):getUpd (updB l)=some l:=by
  have h4:=upd_len h
  have:=gul_put l (e1 (l.length:Int)) [] 5 (upd_ok l 0 h) (by omega)
  unfold getUpd
  rw[show updB l=e1 (l.length:Int)++l.flatMap ubytes from rfl,show(1:Nat)=(e1 (l.length:Int)).length from rfl,this]
  simp only[finU,List.nil_append]
  exact if_pos ⟨h,rfl⟩
theorem getUpd_some {b:List Int} {l:List S45} (h:getUpd b=some l):upd 0 l=true/\updB l=b:=by
  unfold getUpd finU at h
  split at h
  · cases h
  · split at h
    · rename_i hc;obtain rfl:=Option.some.inj h;exact hc
    · cases h
theorem updB_inj {l m:List S45} (h:upd 0 l=true) (h':upd 0 m=true) (e:updB l=updB m):l=m:=by
  have h1:=getUpd_put h
  rw[e,getUpd_put h']at h1
  exact(Option.some.inj h1).symm
theorem SameU_l {l m:List S45} {M:Nat} (hn:l.length<=9223372036854775807) (hM:∀x∈l,x.f3.length<M) (hM2:M<=9223372036854775807) (he:l.length=m.length):∀(d k i:Nat),i+d=l.length->d+M<k->
    watchwordlaw0_SameLsas.l0 k l m (i:Int)=some (decide (l.drop i=m.drop i)):=by
  intro d
  induction d with
  | zero=>
    intro k i hi hk
    obtain⟨k,rfl⟩:∃m,k=m+1:=⟨k-1,by omega⟩
    simp only[watchwordlaw0_SameLsas.l0]
    rw[if_neg (by omega),List.drop_of_length_le (by omega),List.drop_of_length_le (by omega)]
    simp
  | succ d ih=>
    intro k i hi hk
    obtain⟨k,rfl⟩:∃m,k=m+1:=⟨k-1,by omega⟩
    have h4:wrap64 ((i:Int)+1)=((i+1:Nat):Int):=by rw[wrap_id (by omega) (by omega)];omega
    have hm:=hM _ (rdU_mem (show i<l.length by omega))
    simp only[watchwordlaw0_SameLsas.l0]
    rw[if_pos (by omega),if_pos (by omega),if_pos (by omega),h4,ih k (i+1) (by omega) (by omega),dropU_at (l:=l) (i:=i) (by omega),dropU_at (l:=m) (i:=i) (by omega)]
    generalize rd_T45 l (i:Int)=x at hm |-
    generalize rd_T45 m (i:Int)=y
    rw[SameLsa_f (by omega) (show x.f3.length<k by omega),Option.bind_some]
    have hx:(x.f0=y.f0/\x.f1=y.f1/\x.f2=y.f2/\x.f3=y.f3)↔x=y:=by
      cases x;cases y;simp
    by_cases hc:x=y
    · rw[decide_eq_true (hx.mpr hc),if_pos rfl,hc];simp
    · rw[decide_eq_false (λhh=>hc (hx.mp hh)),if_neg (by decide),decide_eq_false (λhh=>hc (List.cons.inj hh).1)]
theorem SameU_f {l m:List S45} {M:Nat} (hn:l.length<=9223372036854775807) (hM:∀x∈l,x.f3.length<M) (hM2:M<=9223372036854775807) {k:Nat} (hk:l.length+M<k):watchwordlaw0_SameLsas.f k l m=some (decide (l=m)):=by
  unfold watchwordlaw0_SameLsas.f
  by_cases h:l.length=m.length
  · rw[if_pos (by omega)]
    have:=SameU_l hn hM hM2 h l.length k 0 (by omega) hk
    rw[List.drop_zero,List.drop_zero]at this
    exact this
  · rw[if_neg (by omega),decide_eq_false (λe=>h (by rw[e]))]
theorem ref_Num1 {k:Nat} (hk:3<=k) (x:Int):watchwordref1_Num.f k x 1=some (strOfNums (e1 x)):=by
  obtain⟨k,rfl⟩:∃m,k=m+3:=⟨k-3,by omega⟩
  simp[watchwordref1_Num.f,watchwordref1_Num.l0,wrap64,shr,IntKind.bits,e1]
theorem ref_Num2 {k:Nat} (hk:5<=k) (x:Int):watchwordref1_Num.f k x 2=some (strOfNums (e2 x)):=by
  obtain⟨k,rfl⟩:∃m,k=m+5:=⟨k-5,by omega⟩
  simp[watchwordref1_Num.f,watchwordref1_Num.l0,wrap64,shr,IntKind.bits,e2]
theorem ref_Num4 {k:Nat} (hk:7<=k) (x:Int):watchwordref1_Num.f k x 4=some (strOfNums (e4 x)):=by
  obtain⟨k,rfl⟩:∃m,k=m+7:=⟨k-7,by omega⟩
  simp[watchwordref1_Num.f,watchwordref1_Num.l0,wrap64,shr,IntKind.bits,e4]
theorem ref_Of_step {acc:Int} {s:ByteArray} {i k d:Nat} (hd:i+(d+1)=s.size) (hi:i<=6) (h0:0<=acc) (h1:acc<lim i):
    watchwordref1_Of.l0 (k+1) s acc (i:Int)=watchwordref1_Of.l0 k s (acc*256+(B s).getD i 0) ((i+1:Nat):Int):=by
  have hb:bt s (i:Int)=(B s).getD i 0:=by rw[bt_B,Int.toNat_natCast]
  have hr:=byt_getD (B_byt s) i
  have hp:lim i<=281474976710656:=lim_le6 hi
  have h2:wrap64 (acc*256)=acc*256:=wrap_id (by omega) (by omega)
  have h3:wrap64 ((B s).getD i 0)=(B s).getD i 0:=wrap_id (by omega) (by omega)
  have h4:wrap64 ((i:Int)+1)=((i+1:Nat):Int):=by rw[wrap_id (by omega) (by omega)];omega
  have h5:Go.bits .or .i64 (acc*256) ((B s).getD i 0)=acc*256+(B s).getD i 0:=or_byte (by omega) (by omega) (by omega) hr.1 hr.2
  simp only[watchwordref1_Of.l0]
  rw[if_pos (by omega),if_pos (by omega),hb,h2,h3,h4,h5]
theorem ref_Of_l {s:ByteArray} (hs:s.size<=7):∀(d k i:Nat) (acc:Int),i+d=s.size->d<k->0<=acc->acc<lim i->
    watchwordref1_Of.l0 k s acc (i:Int)=some (((B s).drop i).foldl (λa b=>a*256+b) acc):=by
  intro d
  induction d with
  | zero=>
    intro k i acc hi hk h0 h1
    obtain⟨k,rfl⟩:∃m,k=m+1:=⟨k-1,by omega⟩
    simp only[watchwordref1_Of.l0]
    rw[if_neg (by omega),List.drop_of_length_le (by rw[B_len];omega)]
    rfl
  | succ d ih=>
    intro k i acc hi hk h0 h1
    obtain⟨k,rfl⟩:∃m,k=m+1:=⟨k-1,by omega⟩
    have hlt:i<(B s).length :=by rw[B_len];omega
    have hd:(B s).drop i=(B s).getD i 0::(B s).drop (i+1):=by
      rw[List.drop_eq_getElem_cons hlt,List.getD_eq_getElem?_getD,List.getElem?_eq_getElem hlt,Option.getD_some]
    have hr:=byt_getD (B_byt s) i
    have hl:=lim_succ i
    rw[ref_Of_step hi (by omega) h0 h1,ih k (i+1) _ (by omega) (by omega) (by omega) (by omega),hd,List.foldl_cons]
theorem ref_Of_f {s:ByteArray} (hs:s.size<=7) {k:Nat} (hk:8<=k):watchwordref1_Of.f k s=some (num (B s)):=
  ref_Of_l hs s.size k 0 0 (by omega) (by omega) (by omega) (by decide)
theorem ref_upTo (x a b:Int):watchwordref1_upTo.f x a b=some (decide (a<=x/\x<=b)):=by
  unfold watchwordref1_upTo.f
  by_cases h:x>=a
  · rw[if_pos h];simp[show a<=x from h]
  · rw[if_neg h];simp[show ¬a<=x from h]
theorem ref_router (x:Int):watchwordref1_routerMay.f x=some (decide (1<=x/\x<=4)):=by
  unfold watchwordref1_routerMay.f;rw[ref_upTo];rfl
theorem ref_Links_l {l:List S109} {rt:Int} (hn:l.length<=9223372036854775807):∀(d k i:Nat),i+d=l.length->d<k->
    watchwordref1_LinksMay.l0 k rt l (i:Int)=some (links rt (prevL l i) (l.drop i)&&decide (l.length<=4)):=by
  intro d
  induction d with
  | zero=>
    intro k i hi hk
    obtain⟨k,rfl⟩:∃m,k=m+1:=⟨k-1,by omega⟩
    simp only[watchwordref1_LinksMay.l0]
    rw[if_neg (by omega),List.drop_of_length_le (by omega)]
    unfold links
    rw[Bool.true_and]
    congr 1
    rw[Bool.eq_iff_iff,decide_eq_true_eq,decide_eq_true_eq]
    omega
  | succ d ih=>
    intro k i hi hk
    obtain⟨k,rfl⟩:∃m,k=m+1:=⟨k-1,by omega⟩
    have hlt:i<l.length:=by omega
    have h4:wrap64 ((i:Int)+1)=((i+1:Nat):Int):=by rw[wrap_id (by omega) (by omega)];omega
    have h5:wrap64 ((i:Int)-1)=(i:Int)-1:=wrap_id (by omega) (by omega)
    have hr:=ih k (i+1) (by omega) (by omega)
    simp only[watchwordref1_LinksMay.l0,ref_router,ref_upTo,Option.bind_some,decide_eq_true_eq]
    rw[if_pos (by omega),if_pos (by omega),h4,h5,hr,prevL_succ,dropL_at hlt]
    generalize rd_T109 l (i:Int)=x
    by_cases c1:1<=x.f0/\x.f0<=4
    · rw[if_pos c1]
      by_cases c2:x.f0=rt
      · rw[if_pos c2];unfold links;rw[if_neg (λhh=>hh.1.2.2.1 c2)];rfl
      rw[if_neg c2]
      by_cases c3:1<=x.f1/\x.f1<=65535
      · rw[if_pos c3]
        have hok:LinkOk rt x:=⟨c1.1,c1.2,c2,c3.1,c3.2⟩
        by_cases h0:(i:Int)>0
        · rw[if_pos h0,if_pos (by omega),if_pos (by omega)]
          have hp:prevL l i=(rd_T109 l ((i:Int)-1)).f0 :=by unfold prevL;rw[if_neg (by omega)]
          by_cases hg:x.f0<=(rd_T109 l ((i:Int)-1)).f0
          · rw[if_pos hg];unfold links;rw[if_neg (by rw[hp];omega)];rfl
          · rw[if_neg hg];conv=>rhs;unfold links
            rw[if_pos ⟨hok,by rw[hp];omega⟩]
        · rw[if_neg h0]
          have hp:prevL l i=0:=by unfold prevL;rw[if_pos (by omega)]
          conv=>rhs;unfold links
          rw[if_pos ⟨hok,by rw[hp];omega⟩]
      · rw[if_neg c3];unfold links;rw[if_neg (λhh=>c3 ⟨hh.1.2.2.2.1,hh.1.2.2.2.2⟩)];rfl
    · rw[if_neg c1];unfold links;rw[if_neg (λhh=>c1 ⟨hh.1.1,hh.1.2.1⟩)];rfl
theorem ref_Links_f {l:List S109} {rt:Int} (hn:l.length<=9223372036854775807) {k:Nat} (hk:l.length<k):watchwordref1_LinksMay.f k rt l=some (links rt 0 l):=by
  have h:=ref_Links_l (rt:=rt) hn l.length k 0 (by omega) hk
  unfold watchwordref1_LinksMay.f
  rw[show(0:Int)=((0:Nat):Int)from rfl,h]
  show some (links rt 0 l&&decide (l.length<=4))=some (links rt 0 l)
  by_cases g:links rt 0 l=true
  · rw[g,decide_eq_true (links_len g)];rfl
  · rw[Bool.eq_false_iff.mpr g];rfl
theorem ref_May_f {r s g:Int} {l:List S109} (hn:l.length<=9223372036854775807) {k:Nat} (hk:l.length<k):watchwordref1_LsaMay.f k r s g l=some (decide (LsaOk r s g l)):=by
  simp only[watchwordref1_LsaMay.f,ref_Links_f hn hk,ref_router,ref_upTo,Option.bind_some,decide_eq_true_eq]
  by_cases h1:1<=r/\r<=4
  · rw[if_pos h1]
    by_cases h2:1<=s/\s<=2147483647
    · rw[if_pos h2]
      by_cases h3:0<=g/\g<=60
      · rw[if_pos h3];unfold LsaOk;simp[h1.1,h1.2,h2.1,h2.2,h3.1,h3.2]
      · rw[if_neg h3,decide_eq_false (λhh:LsaOk r s g l=>h3 ⟨hh.2.2.2.2.1,hh.2.2.2.2.2.1⟩)]
    · rw[if_neg h2,decide_eq_false (λhh:LsaOk r s g l=>h2 ⟨hh.2.2.1,hh.2.2.2.1⟩)]
  · rw[if_neg h1,decide_eq_false (λhh:LsaOk r s g l=>h1 ⟨hh.1,hh.2.1⟩)]
theorem ref_bytes_l {r s g:Int} {l:List S109} (hn:l.length<=255):∀(d k i:Nat) (acc:List Int),i+d=l.length->d+10<k->acc.length<=10+3*i->
    watchwordref1_bytes.l0 k (strOfNums acc) (i:Int) r s g l=some (strOfNums (acc++(l.drop i).flatMap lbytes)):=by
  intro d
  induction d with
  | zero=>
    intro k i acc hi hk ha
    obtain⟨k,rfl⟩:∃m,k=m+1:=⟨k-1,by omega⟩
    simp only[watchwordref1_bytes.l0]
    rw[if_neg (by omega),List.drop_of_length_le (by omega)]
    simp
  | succ d ih=>
    intro k i acc hi hk ha
    obtain⟨k,rfl⟩:∃m,k=m+1:=⟨k-1,by omega⟩
    have hlt:i<l.length:=by omega
    have h4:wrap64 ((i:Int)+1)=((i+1:Nat):Int):=by rw[wrap_id (by omega) (by omega)];omega
    simp only[watchwordref1_bytes.l0]
    rw[ref_Num1 (by omega),ref_Num2 (by omega)]
    simp only[Option.bind_some,strOf_append,strOf_size,List.length_append,e1_len,e2_len]
    rw[if_pos (by omega),if_pos (by omega),if_pos (by omega),if_pos (by omega),h4,
      ih k (i+1) _ (by omega) (by omega) (by simp only[List.length_append,e1_len,e2_len];omega),dropL_at hlt,List.flatMap_cons]
    simp only[lbytes,List.append_assoc]
theorem ref_bytes_f {r s g:Int} {l:List S109} (hn:l.length<=255) {k:Nat} (hk:l.length+10<k):watchwordref1_bytes.f k r s g l=some (strOfNums (bodyB r s l)):=by
  unfold watchwordref1_bytes.f
  rw[ref_Num1 (by omega),ref_Num4 (by omega),ref_Num1 (by omega)]
  simp only[Option.bind_some,strOf_append,strOf_size,List.length_append,e1_len,e4_len]
  rw[if_pos (by decide),if_pos (by decide)]
  exact ref_bytes_l hn l.length k 0 _ (by omega) hk (by simp only[List.length_append,e1_len,e4_len];omega)
theorem ref_Fletch_l {s:ByteArray} (hs:s.size<=140737488351232):∀(d k i:Nat) (a b:Int),i+d=s.size->d<k->0<=a/\a<255->0<=b/\b<255->
    watchwordref1_Fletch.l0 k s a b (i:Int)=some (fl a b ((B s).drop i)):=by
  intro d
  induction d with
  | zero=>
    intro k i a b hi hk ha hb
    obtain⟨k,rfl⟩:∃m,k=m+1:=⟨k-1,by omega⟩
    simp only[watchwordref1_Fletch.l0]
    rw[if_neg (by omega),List.drop_of_length_le (by rw[B_len];omega),wrap_id (x:=256*b) (by omega) (by omega),wrap_id (by omega) (by omega)]
    rfl
  | succ d ih=>
    intro k i a b hi hk ha hb
    obtain⟨k,rfl⟩:∃m,k=m+1:=⟨k-1,by omega⟩
    have hlt:i<(B s).length :=by rw[B_len];omega
    have hd:(B s).drop i=(B s).getD i 0::(B s).drop (i+1):=by
      rw[List.drop_eq_getElem_cons hlt,List.getD_eq_getElem?_getD,List.getElem?_eq_getElem hlt,Option.getD_some]
    have hbt:bt s (i:Int)=(B s).getD i 0:=by rw[bt_B,Int.toNat_natCast]
    have hr:=byt_getD (B_byt s) i
    have h4:wrap64 ((i:Int)+1)=((i+1:Nat):Int):=by rw[wrap_id (by omega) (by omega)];omega
    simp only[watchwordref1_Fletch.l0]
    rw[if_pos (by omega),if_pos (by omega),hbt,h4,hd]
    generalize (B s).getD i 0=x at hr |-
    rw[wrap_id (x:=x) (by omega) (by omega),wrap_id (x:=a+x) (by omega) (by omega),Int.tmod_eq_emod_of_nonneg (a:=a+x) (by omega),
      wrap_id (x:=b+(a+x) % 255) (by omega) (by omega),Int.tmod_eq_emod_of_nonneg (a:=b+(a+x) % 255) (by omega),
      ih k (i+1) _ _ (by omega) (by omega) (by omega) (by omega)]
    rfl
theorem ref_Fletch_f {s:ByteArray} (hs:s.size<=140737488351232) {k:Nat} (hk:s.size<k):watchwordref1_Fletch.f k s=some (flSum (B s)):=
  ref_Fletch_l hs s.size k 0 0 0 (by omega) hk (by omega) (by omega)
theorem ref_Put_f {r s g:Int} {l:List S109} (hn:l.length<=9223372036854775807) {k:Nat} (hk:l.length+10<k) (h20:30<=k):
    watchwordref1_PutLsa.f k r s g l=some (if LsaOk r s g l then(strOfNums (putB r s g l),0)else(⟨#[]⟩,700)):=by
  simp only[watchwordref1_PutLsa.f,ref_May_f hn (show l.length<k by omega),Option.bind_some,decide_eq_true_eq]
  by_cases h:LsaOk r s g l
  · have h4:=links_len h.2.2.2.2.2.2
    have hb:=bodyB_len r s l
    rw[if_pos h,if_pos h,ref_bytes_f (by omega) hk,ref_Num1 (by omega)]
    simp only[Option.bind_some]
    rw[ref_Fletch_f (by rw[strOf_size];omega) (by rw[strOf_size];omega),B_strOf (bodyB_byt r s l)]
    simp only[Option.bind_some]
    rw[ref_Num2 (by omega)]
    simp only[Option.bind_some,strOf_append,strOf_size,List.length_append,e1_len,e2_len,hb]
    rw[if_pos (by omega),if_pos (by omega)]
    rfl
  · rw[if_neg h,if_neg h]
theorem wrap_nn {a b:Nat} {ci:Int} (hc:ci=(b:Int)) (h:a+b<=9223372036854775807):wrap64 ((a:Int)+ci)=((a+b:Nat):Int):=by
  rw[hc,wrap_id (by omega) (by omega)];omega
theorem wrap_3n {i:Nat} (h:i<=255):wrap64 (3*(i:Int))=((3*i:Nat):Int):=by rw[wrap_id (by omega) (by omega)];omega
theorem nlt {a b:Nat} (h:a<b):(a:Int)<(b:Int):=by omega
theorem nle {a b:Nat} (h:a<=b):(a:Int)<=(b:Int):=by omega
theorem wrap_btN (x:ByteArray) (p j:Nat):wrap64 (bt x ((p+j:Nat):Int))=((B x).drop p).getD j 0:=by
  have h:=byt_getD (B_byt x) (p+j)
  rw[bt_B,Int.toNat_natCast,lgetD_drop,wrap_id (by omega) (by omega)]
theorem Of_at (x:ByteArray) (a b:Nat) (hab:b-a<=7) {k:Nat} (hk:8<=k):watchwordref1_Of.f k (x.extract a b)=some (num (((B x).drop a).take (b-a))):=by
  rw[ref_Of_f (by simp only[ByteArray.size_extract];omega) hk,B_extract]
set_option maxHeartbeats 2000000 in
theorem ref_Get_l {x:ByteArray} (hs:x.size<=281474976710656) {p:Nat} {r s g:Int} {n sz:Nat} (hn:n<=4) (hsz:sz=9+3*n) (hx:p+sz<=x.size):∀(d k i:Nat) (acc:List S109),acc.length=i->i+d=n->d+300<=k->
    watchwordref1_GetLsa.l0 k x (p:Int) (n:Int) ((p+sz:Nat):Int) (i:Int) r s g acc=some (tellL (p:Int) (endL ((B x).drop p) sz r s g (acc++parseL d (((B x).drop p).drop (7+3*i))))):=by
  intro d
  induction d with
  | zero=>
    intro k i acc ha hi hk
    obtain⟨k,rfl⟩:∃m,k=m+1:=⟨k-1,by omega⟩
    simp only[watchwordref1_GetLsa.l0]
    rw[if_neg (by omega),ref_Put_f (by omega) (by omega) (by omega),Option.bind_some]
    have he:acc++parseL 0 (((B x).drop p).drop (7+3*i))=acc:=by unfold parseL;simp
    rw[he]
    unfold endL
    by_cases h:LsaOk r s g acc
    · rw[if_pos h,if_pos rfl,if_pos (Int.natCast_nonneg p),if_pos (nle (Nat.le_add_right p sz)),if_pos (nle hx),Int.toNat_natCast,Int.toNat_natCast]
      have hB:B (x.extract p (p+sz))=((B x).drop p).take sz:=by rw[B_extract,Nat.add_sub_cancel_left]
      by_cases h2:putB r s g acc=((B x).drop p).take sz
      · rw[if_pos (by rw[toList_iff,B_strOf (putB_byt _ _ _ _),hB];exact h2),if_pos ⟨h,h2⟩]
        rfl
      · rw[if_neg (by rw[toList_iff,B_strOf (putB_byt _ _ _ _),hB];exact h2),if_neg (λhh=>h2 hh.2)]
        rfl
    · rw[if_neg h,if_neg (by decide),if_neg (λhh=>h hh.1)]
      rfl
  | succ d ih=>
    intro k i acc ha hi hk
    obtain⟨k,rfl⟩:∃m,k=m+1:=⟨k-1,by omega⟩
    have hlt:i<n:=by omega
    have hb:p+(7+3*i)+3<=x.size:=by omega
    have q1:p+(7+3*i)<x.size:=by omega
    have q2:p+(7+3*i)+1<=p+(7+3*i)+3:=by omega
    have q3:p+(7+3*i)+3-(p+(7+3*i)+1)=2:=by omega
    have q4:p+(7+3*i+3)=p+(7+3*(i+1)):=by omega
    have q5:p+7+3*i=p+(7+3*i):=by omega
    have q6:p+(7+3*i)+3-(p+(7+3*i)+1)<=7:=by omega
    have b7:p+7<=9223372036854775807:=by omega
    have b3:i<=255:=by omega
    have bq:p+7+3*i<=9223372036854775807:=by omega
    have bq1:p+(7+3*i)+1<=9223372036854775807:=by omega
    have bq3:p+(7+3*i)+3<=9223372036854775807:=by omega
    have b1:i+1<=9223372036854775807:=by omega
    have ha2:acc.length<8796093022208:=by omega
    have ha3:acc.length+1=i+1:=by omega
    have hi1:i+1+d=n:=by omega
    have hk1:d+300<=k:=by omega
    have hk8:8<=k:=by omega
    clear hs hn hsz hx ha hi hk
    have hp:parseL (d+1) (((B x).drop p).drop (7+3*i))=⟨((B x).drop p).getD (7+3*i) 0,num ((((B x).drop (p+(7+3*i)+1))).take 2)⟩::parseL d (((B x).drop p).drop (7+3*(i+1))):=by
      conv=>lhs;unfold parseL
      simp only[lgetD_drop,Nat.add_zero,List.drop_drop]
      rfl
    have hr:=ih k (i+1) (acc++[(⟨((B x).drop p).getD (7+3*i) 0,num ((((B x).drop (p+(7+3*i)+1))).take 2)⟩:S109)]) (by rw[List.length_append];exact ha3) hi1 hk1
    have w7:wrap64 ((p:Int)+7)=((p+7:Nat):Int):=wrap_nn rfl b7
    have w3:wrap64 (3*(i:Int))=((3*i:Nat):Int):=wrap_3n b3
    have wq:wrap64 (((p+7:Nat):Int)+((3*i:Nat):Int))=((p+(7+3*i):Nat):Int):=by rw[wrap_nn rfl bq,q5]
    have wq1:wrap64 (((p+(7+3*i):Nat):Int)+1)=((p+(7+3*i)+1:Nat):Int):=wrap_nn rfl bq1
    have wq3:wrap64 (((p+(7+3*i):Nat):Int)+3)=((p+(7+3*i)+3:Nat):Int):=wrap_nn rfl bq3
    have w1:wrap64 ((i:Int)+1)=((i+1:Nat):Int):=wrap_nn rfl b1
    clear ih
    simp only[watchwordref1_GetLsa.l0,w7,w3,wq,wq1,wq3,w1,Int.toNat_natCast]
    rw[if_pos (nlt hlt),if_pos (Int.natCast_nonneg _),if_pos (nlt q1),if_pos (Int.natCast_nonneg _),if_pos (nle q2),if_pos (nle hb),Of_at x _ _ q6 hk8,Option.bind_some,if_pos ha2,wrap_btN,q3,hr,hp,List.append_assoc]
    rfl
set_option maxHeartbeats 2000000 in
theorem ref_Get_f {a:ByteArray} (hs:a.size<=281474976710656) {at_:Int} (hw: -9223372036854775808<=at_/\at_<=9223372036854775807) {k:Nat} (hk:600<=k):
    watchwordref1_GetLsa.f k a at_=some (tellL at_ (if 0<=at_ then getLsa ((B a).drop at_.toNat)else none)):=by
  obtain⟨k,rfl⟩:∃m,k=m+2:=⟨k-2,by omega⟩
  have hl:=B_len a
  unfold watchwordref1_GetLsa.f
  by_cases c0:at_<0
  · rw[if_pos c0,if_neg (by omega)]
    simp only[watchwordref1_GetLsa.j0,if_true];rfl
  rw[if_neg c0,if_pos (show 0<=at_ by omega)]
  obtain⟨p,rfl⟩:∃p:Nat,at_=(p:Int):=⟨at_.toNat,by omega⟩
  rw[Int.toNat_natCast]
  have hld:((B a).drop p).length =a.size-p:=by rw[List.length_drop,hl]
  rw[wrap_id (x:=(a.size:Int)-7) (by omega) (by omega)]
  by_cases c1:(p:Int)>(a.size:Int)-7
  · rw[decide_eq_true c1]
    simp only[watchwordref1_GetLsa.j0,if_true]
    unfold getLsa
    rw[if_pos (by omega)];rfl
  rw[decide_eq_false c1]
  have hsz:p+7<=a.size:=by omega
  have hby:Byt ((B a).drop p):=byt_drop p (B_byt a)
  have hr6:=byt_getD hby 6
  have b0:p<a.size:=by omega
  have b1:p+1<a.size:=by omega
  have b6:p+6<a.size:=by omega
  have b26:p+2<=p+6:=by omega
  have b6':p+6<=a.size:=by omega
  have m1:p+1<=9223372036854775807:=by omega
  have m2:p+2<=9223372036854775807:=by omega
  have m6:p+6<=9223372036854775807:=by omega
  have m9:p+9<=9223372036854775807:=by omega
  have d4:p+6-(p+2)=4:=by omega
  have d7:p+6-(p+2)<=7:=by omega
  have k8:8<=k+1:=by omega
  have l7:¬a.size-p<7:=by omega
  have hV:∀(n:Nat),((B a).drop p).getD 6 0=(n:Int)->watchwordref1_GetLsa.j0 (k+2) a (p:Int) false=some (tellL (p:Int) (getLsa ((B a).drop p))):=by
    intro n hn
    have hn255:n<=255:=by rw[hn]at hr6;omega
    have m3:p+9+3*n<=9223372036854775807:=by omega
    have e3:p+9+3*n=p+(9+3*n):=by omega
    have hn9:(n:Int).toNat =n:=Int.toNat_natCast n
    have c33:p+(9+3*n)<=a.size\/¬p+(9+3*n)<=a.size:=Nat.le_total _ _ |>.elim .inl (λh=>by by_cases h2:p+(9+3*n)<=a.size;exact .inl h2;exact .inr h2)
    have s1:∀h:p+(9+3*n)<=a.size,¬a.size-p<9+3*n:=λh=>by omega
    have s2:∀h:¬p+(9+3*n)<=a.size,a.size-p<9+3*n:=λh=>by omega
    have s3:∀h:¬p+(9+3*n)<=a.size,((p+(9+3*n):Nat):Int)>(a.size:Int):=λh=>by omega
    have s4:∀h:p+(9+3*n)<=a.size,¬((p+(9+3*n):Nat):Int)>(a.size:Int):=λh=>by omega
    have n300:n+300<=k:=by omega
    have v0:wrap64 (bt a (p:Int))=((B a).drop p).getD 0 0:=wrap_btN a p 0
    have v1:wrap64 (bt a ((p+1:Nat):Int))=((B a).drop p).getD 1 0:=wrap_btN a p 1
    have v6:wrap64 (bt a ((p+6:Nat):Int))=((B a).drop p).getD 6 0:=wrap_btN a p 6
    have w1:wrap64 ((p:Int)+1)=((p+1:Nat):Int):=wrap_nn rfl m1
    have w2:wrap64 ((p:Int)+2)=((p+2:Nat):Int):=wrap_nn rfl m2
    have w6:wrap64 ((p:Int)+6)=((p+6:Nat):Int):=wrap_nn rfl m6
    have w9:wrap64 ((p:Int)+9)=((p+9:Nat):Int):=wrap_nn rfl m9
    have w3:wrap64 (3*(n:Int))=((3*n:Nat):Int):=wrap_3n hn255
    have wz:wrap64 (((p+9:Nat):Int)+((3*n:Nat):Int))=((p+(9+3*n):Nat):Int):=by rw[wrap_nn rfl m3,e3]
    simp only[watchwordref1_GetLsa.j0,Bool.false_eq_true,if_false,w1,w2,w6,w9,v0,v1,v6,hn,w3,wz,Int.toNat_natCast]
    rw[if_pos (Int.natCast_nonneg _),if_pos (nlt b0),if_pos (Int.natCast_nonneg _),if_pos (nlt b1),if_pos (Int.natCast_nonneg _),if_pos (nle b26),if_pos (nle b6'),Of_at a _ _ d7 k8,Option.bind_some,if_pos (Int.natCast_nonneg _),if_pos (nlt b6),d4]
    unfold getLsa
    rw[hld,if_neg l7,hn,hn9]
    rcases c33 with c3|c3
    · rw[if_neg (s4 c3),if_neg (s1 c3)]
      by_cases c4:(n:Int)>4
      · rw[decide_eq_true c4]
        simp only[watchwordref1_GetLsa.j1,if_true]
        unfold endL
        rw[if_neg (λhh=>by have h7:=links_len hh.1.2.2.2.2.2.2;rw[parseL_len]at h7;clear hh v0 v1 v6 w1 w2 w6 w9 w3 wz hn;omega)]
        rfl
      · rw[decide_eq_false c4]
        simp only[watchwordref1_GetLsa.j1,Bool.false_eq_true,if_false]
        have hz:=ref_Get_l hs (p:=p) (r:=((B a).drop p).getD 1 0) (s:=num (((B a).drop (p+2)).take 4)) (g:=((B a).drop p).getD 0 0) (n:=n) (sz:=9+3*n) (by clear v0 v1 v6 w1 w2 w6 w9 w3 wz hn;omega) rfl c3 n k 0 [] rfl (Nat.zero_add n) n300
        refine Eq.trans hz ?_
        rw[show(B a).drop (p+2)=((B a).drop p).drop 2 from List.drop_drop.symm]
        rfl
    · rw[if_pos (s3 c3),if_pos (s2 c3)]
      simp only[watchwordref1_GetLsa.j1,if_true];rfl
  exact hV _ (Int.toNat_of_nonneg hr6.1).symm
theorem ref_UpdMay_l {l:List S45} {M:Nat} (hn:l.length<=9223372036854775807) (hM:∀x∈l,x.f3.length<M) (hM2:M<=9223372036854775807):∀(d k i:Nat),i+d=l.length->d+M+10<k->
    watchwordref9_UpdateMay.l0 k l (i:Int)=some (upd (prevU l i) (l.drop i)&&decide (l.length<=4)):=by
  intro d
  induction d with
  | zero=>
    intro k i hi hk
    obtain⟨k,rfl⟩:∃m,k=m+1:=⟨k-1,by omega⟩
    simp only[watchwordref9_UpdateMay.l0]
    rw[if_neg (by omega),List.drop_of_length_le (by omega)]
    unfold upd
    rw[Bool.true_and]
    congr 1
    rw[Bool.eq_iff_iff,decide_eq_true_eq,decide_eq_true_eq]
    omega
  | succ d ih=>
    intro k i hi hk
    obtain⟨k,rfl⟩:∃m,k=m+1:=⟨k-1,by omega⟩
    have hlt:i<l.length:=by omega
    have h4:wrap64 ((i:Int)+1)=((i+1:Nat):Int):=by rw[wrap_id (by omega) (by omega)];omega
    have h5:wrap64 ((i:Int)-1)=(i:Int)-1:=wrap_id (by omega) (by omega)
    have hr:=ih k (i+1) (by omega) (by omega)
    have hm:=hM _ (rdU_mem hlt)
    simp only[watchwordref9_UpdateMay.l0]
    rw[if_pos (by omega),if_pos (by omega),h4,h5,hr,prevU_succ,dropU_at hlt]
    generalize rd_T45 l (i:Int)=x at hm |-
    rw[ref_May_f (by omega) (show x.f3.length<k by omega)]
    simp only[Option.bind_some,decide_eq_true_eq]
    by_cases c1:LsaOk x.f0 x.f1 x.f2 x.f3
    · rw[if_pos c1]
      have hok:UsOk x:=c1
      have h1:=c1.1
      by_cases h0:(i:Int)>0
      · rw[if_pos h0,if_pos (by omega),if_pos (by omega)]
        have hp:prevU l i=(rd_T45 l ((i:Int)-1)).f0 :=by unfold prevU;rw[if_neg (by omega)]
        by_cases hg:x.f0<=(rd_T45 l ((i:Int)-1)).f0
        · rw[if_pos hg];unfold upd;rw[if_neg (by rw[hp];omega)];rfl
        · rw[if_neg hg];conv=>rhs;unfold upd
          rw[if_pos ⟨hok,by rw[hp];omega⟩]
      · rw[if_neg h0]
        have hp:prevU l i=0:=by unfold prevU;rw[if_pos (by omega)]
        conv=>rhs;unfold upd
        rw[if_pos ⟨hok,by rw[hp];omega⟩]
    · rw[if_neg c1];unfold upd;rw[if_neg (λhh=>c1 hh.1)];rfl
theorem ref_UpdMay_f {l:List S45} {M:Nat} (hn:l.length<=9223372036854775807) (hM:∀x∈l,x.f3.length<M) (hM2:M<=9223372036854775807) {k:Nat} (hk:l.length+M+10<k):
    watchwordref9_UpdateMay.f k l=some (upd 0 l):=by
  have h:=ref_UpdMay_l hn hM hM2 l.length k 0 (by omega) hk
  unfold watchwordref9_UpdateMay.f
  rw[show(0:Int)=((0:Nat):Int)from rfl,h]
  show some (upd 0 l&&decide (l.length<=4))=some (upd 0 l)
  by_cases g:upd 0 l=true
  · rw[g,decide_eq_true (upd_len g)];rfl
  · rw[Bool.eq_false_iff.mpr g];rfl
theorem ref_PutUpd_l {l:List S45} (h4:l.length<=4) (hok:∀x∈l,UsOk x):∀(d k i:Nat) (acc:List Int),i+d=l.length->d+40<k->acc.length<=1+21*i->
    watchwordref9_PutUpdate.l0 k l (strOfNums acc) (i:Int)=some (strOfNums (acc++(l.drop i).flatMap ubytes),0):=by
  intro d
  induction d with
  | zero=>
    intro k i acc hi hk ha
    obtain⟨k,rfl⟩:∃m,k=m+1:=⟨k-1,by omega⟩
    simp only[watchwordref9_PutUpdate.l0]
    rw[if_neg (by omega),List.drop_of_length_le (by omega),List.flatMap_nil,List.append_nil]
  | succ d ih=>
    intro k i acc hi hk ha
    obtain⟨k,rfl⟩:∃m,k=m+1:=⟨k-1,by omega⟩
    have hlt:i<l.length:=by omega
    have h5:wrap64 ((i:Int)+1)=((i+1:Nat):Int):=by rw[wrap_id (by omega) (by omega)];omega
    have hx:=hok _ (rdU_mem hlt)
    simp only[watchwordref9_PutUpdate.l0]
    rw[if_pos (by omega),if_pos (by omega),h5,dropU_at hlt]
    generalize rd_T45 l (i:Int)=x at hx |-
    have hl4:=usOk_len hx
    have hul:=ubytes_len x
    rw[ref_Put_f (by omega) (show x.f3.length+10<k by omega) (by omega),if_pos (show LsaOk x.f0 x.f1 x.f2 x.f3 from hx)]
    simp only[Option.bind_some]
    rw[show strOfNums (putB x.f0 x.f1 x.f2 x.f3)=strOfNums (ubytes x)from rfl,strOf_append,strOf_size,strOf_size,if_pos (by omega),ih k (i+1) (acc++ubytes x) (by omega) (by omega) (by rw[List.length_append];omega),List.flatMap_cons,List.append_assoc]
theorem ref_PutUpd_f {l:List S45} {M:Nat} (hn:l.length<=9223372036854775807) (hM:∀x∈l,x.f3.length<M) (hM2:M<=9223372036854775807) {k:Nat} (hk:l.length+M+10<k) (hk2:50<=k):
    watchwordref9_PutUpdate.f k l=some (if upd 0 l=true then(strOfNums (updB l),0)else(⟨#[]⟩,1000)):=by
  simp only[watchwordref9_PutUpdate.f,ref_UpdMay_f hn hM hM2 hk,Option.bind_some]
  by_cases h:upd 0 l=true
  · have h4:=upd_len h
    rw[if_pos h,if_pos h,ref_Num1 (by omega),Option.bind_some]
    exact ref_PutUpd_l h4 (upd_ok l 0 h) l.length k 0 (e1 (l.length:Int)) (by omega) (by omega) (by rw[e1_len];omega)
  · rw[if_neg h,if_neg h]
def rul:Nat->List Int->Nat->List S45->Option (List S45)
  |0,b,p,acc=>if p=b.length/\upd 0 acc=true then some acc else none
  | n +1,b,p,acc=>match getLsa (b.drop p)with
      |none=>none
      |some (r,s,g,l,sz)=>rul n b (p+sz) (acc++[⟨r,s,g,l⟩])
def refUpd (b:List Int):Option (List S45):=if b=[]then none else rul (b.getD 0 0).toNat b 1 []
theorem ref_GetUpd_l {a:ByteArray} (hs:a.size<=281474976710656) (hB:B a≠ []):∀(n k p:Nat) (acc:List S45),(acc.length:Int)+n=(B a).getD 0 0->p<=281474976710656->(∀x∈acc,x.f3.length<=4)->2*n+900<=k->
    watchwordref9_GetUpdate.l0 k a acc (p:Int)=some (tellU (rul n (B a) p acc)):=by
  have h8:=byt_getD (B_byt a) 0
  have hbl:=B_len a
  have hsz:0<a.size:=by
    rcases Nat.eq_zero_or_pos a.size with h|h
    · exact absurd (List.eq_nil_of_length_eq_zero (by rw[hbl];exact h)) hB
    · exact h
  have hne:¬a.toList=([]:List UInt8):=λe=>hB (by have:=(toList_iff_lit a []).mp e;rw[this];rfl)
  have hb0:wrap64 (bt a 0)=(B a).getD 0 0:=by rw[show bt a 0=(B a).getD 0 0 from by rw[bt_B];rfl];exact wrap_id (by omega) (by omega)
  intro n
  induction n with
  | zero=>
    intro k p acc hn hp hl hk
    obtain⟨k,rfl⟩:∃m,k=m+2:=⟨k-2,by omega⟩
    have hd:decide ((acc.length:Int)<(B a).getD 0 0)=false:=decide_eq_false (by omega)
    have hal:acc.length<=255:=by omega
    simp only[watchwordref9_GetUpdate.l0,hb0]
    rw[if_neg hne,if_pos (by omega),hd]
    simp only[watchwordref9_GetUpdate.j1,Bool.false_eq_true,if_false]
    clear hn hd hb0 h8
    unfold rul
    by_cases c:p=a.size
    · rw[if_pos (by omega),ref_UpdMay_f (M:=5) (by omega) (λx hx=>by have:=hl x hx;omega) (by omega) (by omega),Option.bind_some]
      by_cases c2:upd 0 acc=true
      · rw[if_pos c2,if_pos ⟨by omega,c2⟩];rfl
      · rw[if_neg c2,if_neg (λhh=>c2 hh.2)];rfl
    · rw[if_neg (by omega),if_neg (λhh=>c (by omega))];rfl
  | succ n ih=>
    intro k p acc hn hp hl hk
    obtain⟨k,rfl⟩:∃m,k=m+2:=⟨k-2,by omega⟩
    have hd:decide ((acc.length:Int)<(B a).getD 0 0)=true:=decide_eq_true (by omega)
    have hal:acc.length<2932031007402:=by omega
    have hn2:((acc.length+1:Nat):Int)+n=(B a).getD 0 0:=by omega
    simp only[watchwordref9_GetUpdate.l0,hb0]
    rw[if_neg hne,if_pos (by omega),hd]
    simp only[watchwordref9_GetUpdate.j1,if_true]
    clear hn hd hb0 h8
    rw[ref_Get_f hs (by omega) (by omega),if_pos (by omega),Int.toNat_natCast,Option.bind_some]
    unfold rul
    cases hg:getLsa ((B a).drop p)with
    |none=>simp only[tellL];exact(if_neg (show ¬((700:Int)=0)by decide)).trans rfl
    | some z=>
      obtain⟨r,s,g,l,sz⟩:=z
      have hgs:=get_some hg
      have hl4:=links_len hgs.1.2.2.2.2.2.2
      have hsz2:=hgs.2.2.1
      have hsz3:=hgs.2.2.2
      rw[List.length_drop,hbl]at hsz2
      have hp3:p+sz<=281474976710656:=by omega
      simp only[tellL]
      rw[if_pos trivial,if_pos hal,show(p:Int)+(sz:Int)=((p+sz:Nat):Int)by omega]
      refine ih k (p+sz) _ (by rw[List.length_append];exact hn2) hp3 ?_ (by omega)
      intro x hx
      rcases List.mem_append.mp hx with hx|hx
      · exact hl x hx
      · rcases List.mem_singleton.mp hx with rfl;exact hl4
theorem ref_GetUpd_f {a:ByteArray} (hs:a.size<=281474976710656) {k:Nat} (hk:1500<=k):watchwordref9_GetUpdate.f k a=some (tellU (refUpd (B a))):=by
  have h8:=byt_getD (B_byt a) 0
  unfold watchwordref9_GetUpdate.f refUpd
  by_cases hB:B a=[]
  · have he:a.toList=([]:List UInt8):=(toList_iff_lit a []).mpr (by rw[hB];rfl)
    have hz:a.size=0:=by rw[<-B_len a,hB];rfl
    obtain⟨k,rfl⟩:∃m,k=m+2:=⟨k-2,by omega⟩
    rw[if_pos hB]
    simp only[watchwordref9_GetUpdate.l0,if_pos he,watchwordref9_GetUpdate.j1,Bool.false_eq_true,if_false]
    rw[if_neg (by omega)];rfl
  · rw[if_neg hB,show(1:Int)=((1:Nat):Int)from rfl]
    exact ref_GetUpd_l hs hB _ k 1 [] (by rw[Int.toNat_of_nonneg h8.1];simp) (by omega) (by simp) (by omega)
theorem rul_some:∀(n:Nat) (b:List Int) (p:Nat) (acc out:List S45),1<=p->p<=b.length->(b.take p).drop 1=acc.flatMap ubytes->rul n b p acc=some out->out.length=acc.length+n/\upd 0 out=true/\b.drop 1=out.flatMap ubytes
  | 0,b,p,acc,out,h1,hp,ha,h=>by
    unfold rul at h
    split at h
    · rename_i hc
      obtain rfl:=Option.some.inj h
      refine⟨rfl,hc.2,?_⟩
      rw[<-ha,hc.1,List.take_length]
    · cases h
  | n+1,b,p,acc,out,h1,hp,ha,h=>by
    unfold rul at h
    cases hg:getLsa (b.drop p)with
    |none=>rw[hg]at h;cases h
    | some z=>
      obtain⟨r,s,g,l,sz⟩:=z
      rw[hg]at h
      have hgs:=get_some hg
      have hsz:=hgs.2.2.1
      rw[List.length_drop]at hsz
      have h3:(b.take (p+sz)).drop 1=(acc++[(⟨r,s,g,l⟩:S45)]).flatMap ubytes:=by
        rw[List.flatMap_append,<-ha,List.take_add,List.drop_append_of_le_length (by rw[List.length_take];omega),<-hgs.2.1]
        simp[ubytes]
      have h2:=rul_some n b (p+sz) _ out (by omega) (by omega) h3 h
      refine⟨?_,h2.2⟩
      rw[h2.1,List.length_append];simp only[List.length_cons,List.length_nil];omega
theorem rul_put:∀(l:List S45) (pre:List Int) (acc:List S45),(∀x∈l,UsOk x)->upd 0 (acc++l)=true->rul l.length (pre++l.flatMap ubytes) pre.length acc=some (acc++l)
  | [],pre,acc,_,hu=>by
    rw[List.flatMap_nil,List.append_nil,List.append_nil]
    rw[List.append_nil]at hu
    unfold rul
    exact if_pos ⟨rfl,hu⟩
  | x::l,pre,acc,hok,hu=>by
    have hx:=hok x (by simp)
    have hul:=ubytes_len x
    rw[List.length_cons]
    unfold rul
    rw[List.flatMap_cons,List.drop_left,show ubytes x=putB x.f0 x.f1 x.f2 x.f3 from rfl,get_put hx]
    simp only
    have:=rul_put l (pre++ubytes x) (acc++[x]) (λy hy=>hok y (by simp[hy])) (by rw[List.append_assoc];exact hu)
    rw[List.length_append,hul,List.append_assoc,List.append_assoc]at this
    exact this
theorem refUpd_eq {b:List Int} (hb:Byt b):refUpd b=getUpd b:=by
  have h8:=byt_getD hb 0
  cases hr:refUpd b with
  | some out=>
    unfold refUpd at hr
    by_cases h0:b=[]
    · rw[if_pos h0]at hr;cases hr
    · rw[if_neg h0]at hr
      have hl:1<=b.length:=by cases b with|nil=>exact absurd rfl h0|cons c r=>simp
      obtain⟨h1,h2,h3⟩:=rul_some _ b 1 [] out (Nat.le_refl _) hl (by cases b with|nil=>rfl|cons c r=>rfl) hr
      have hB:updB out=b:=by
        unfold updB
        rw[<-h3,h1,List.length_nil,Nat.zero_add,Int.toNat_of_nonneg h8.1]
        cases b with
        |nil=>exact absurd rfl h0
        | cons c r=>
          have hc:0<=c/\c<256:=h8
          show [c % 256]++r=c::r
          rw[Int.emod_eq_of_lt hc.1 hc.2];rfl
      have:=getUpd_put h2
      rw[hB]at this
      exact this.symm
  | none=>
    cases hg:getUpd b with
    |none=>rfl
    | some out=>
      exfalso
      obtain⟨h1,h2⟩:=getUpd_some hg
      have h4:=upd_len h1
      have:=rul_put out (e1 (out.length:Int)) [] (upd_ok out 0 h1) h1
      subst h2
      unfold refUpd at hr
      rw[if_neg (by unfold updB e1;simp),show(updB out).getD 0 0=(out.length:Int) % 256 from rfl,Int.emod_eq_of_lt (by omega) (by omega),Int.toNat_natCast]at hr
      have h5:rul out.length (updB out) 1 []=some ([]++out):=this
      rw[h5]at hr
      cases hr
theorem copyLsa_f {r s g:Int} {l:List S109} (hl:l.length<8796093022208):watchwordlaw0_CopyLsa.f r s g l=some (r,s,g,l):=by
  simp only[watchwordlaw0_CopyLsa.f,Option.bind_some,List.length_nil,List.nil_append]
  rw[if_pos (by omega)]
theorem copyLsas_l {l:List S45} (hn:l.length<2932031007402) (hM:∀x∈l,x.f3.length<8796093022208):∀(d k i:Nat) (acc:List S45),acc.length=i->i+d=l.length->d<k->
    watchwordlaw0_CopyLsas.l0 k l acc (i:Int)=some (acc++l.drop i):=by
  intro d
  induction d with
  | zero=>
    intro k i acc ha hi hk
    obtain⟨k,rfl⟩:∃m,k=m+1:=⟨k-1,by omega⟩
    simp only[watchwordlaw0_CopyLsas.l0]
    rw[if_neg (by omega),List.drop_of_length_le (by omega),List.append_nil]
  | succ d ih=>
    intro k i acc ha hi hk
    obtain⟨k,rfl⟩:∃m,k=m+1:=⟨k-1,by omega⟩
    have hlt:i<l.length:=by omega
    have h4:wrap64 ((i:Int)+1)=((i+1:Nat):Int):=by rw[wrap_id (by omega) (by omega)];omega
    have hm:=hM _ (rdU_mem hlt)
    simp only[watchwordlaw0_CopyLsas.l0]
    rw[if_pos (by omega),if_pos (by omega),copyLsa_f hm,Option.bind_some,if_pos (by omega),h4,ih k (i+1) _ (by rw[List.length_append];simp only[List.length_cons,List.length_nil];omega) (by omega) (by omega),dropU_at hlt,List.append_assoc]
    rfl
theorem copyLsas_f {l:List S45} (hn:l.length<2932031007402) (hM:∀x∈l,x.f3.length<8796093022208) {k:Nat} (hk:l.length<k):watchwordlaw0_CopyLsas.f k l=some l:=
  copyLsas_l hn hM l.length k 0 [] rfl (by omega) hk
namespace Hd
def HeadOk (k r s:Int):Prop:=(k=1\/k=4\/k=5)/\1<=r/\r<=4/\12<=s/\s<=512
instance (k r s:Int):Decidable (HeadOk k r s):=by unfold HeadOk;infer_instance
def hdr (k r s:Int):List Int:=[2,k % 256]++e2 s++e4 r++[0,0,0,0]
theorem hdr_byt (k r s:Int):Byt (hdr k r s):=
  byt_append (byt_append (byt_append (byt_cons (by omega) (byt_cons (byt_mod _) byt_nil)) (e2_byt _)) (e4_byt _)) (byt_cons (by omega) (byt_cons (by omega) (byt_cons (by omega) (byt_cons (by omega) byt_nil))))
theorem hdr_len (k r s:Int):(hdr k r s).length =12:=rfl
theorem head_j0 (m:Nat) (kind r s:Int):head_Put.j0 (m+1) kind r s false=some (strOfNums (hdr kind r s),0):=by
  simp only[head_Put.j0,lsa_One_f,lsa_Two_f,lsa_Four_f,Option.bind_some,strOf_append,strOf_size]
  simp[e1,e2,e4,hdr]
theorem head_j0t (m:Nat) (kind r s:Int):head_Put.j0 (m+1) kind r s true=some (⟨#[]⟩,800):=by simp[head_Put.j0]
theorem head_Put_f {k:Nat} (hk:1<=k) (kind r s:Int):head_Put.f k kind r s=some (if HeadOk kind r s then(strOfNums (hdr kind r s),0)else(⟨#[]⟩,800)):=by
  obtain⟨k,rfl⟩:∃m,k=m+1:=⟨k-1,by omega⟩
  have ht:head_Type.f kind=some (decide (kind=1\/kind=4\/kind=5)):=by
    unfold head_Type.f
    by_cases h1:kind=1
    · simp[h1]
    · by_cases h4:kind=4
      · simp[h4]
      · simp only[if_neg h1,if_neg h4,h1,h4,false_or]
        rfl
  have hr:lsa_Router.f r=some (decide (1<=r/\r<=4)):=by
    unfold lsa_Router.f
    by_cases h1:r>=1
    · rw[if_pos h1];simp only[h1,true_and]
    · rw[if_neg h1];have:¬(1<=r/\r<=4):=by omega
      simp[this]
  simp only[head_Put.f,ht,hr,Option.bind_some,decide_eq_true_eq]
  by_cases h1:kind=1\/kind=4\/kind=5
  · rw[if_pos h1]
    by_cases h2:1<=r/\r<=4
    · rw[if_pos h2]
      by_cases h3:s<12
      · rw[if_pos h3,head_j0t,if_neg (by unfold HeadOk;omega)]
      · rw[if_neg h3]
        by_cases h5:s>512
        · rw[decide_eq_true h5,head_j0t,if_neg (by unfold HeadOk;omega)]
        · rw[decide_eq_false h5,head_j0,if_pos ⟨h1,by omega⟩]
    · rw[if_neg h2,head_j0t,if_neg (by unfold HeadOk;omega)]
  · rw[if_neg h1,head_j0t,if_neg (by unfold HeadOk;exact λh=>h1 h.1)]
def getHead (l:List Int):Int × Int × Int × Int:=
  if l.length<12 then(0,0,0,800)else
  if HeadOk (l.getD 1 0) (num ((l.drop 4).take 4)) (num ((l.drop 2).take 2))/\hdr (l.getD 1 0) (num ((l.drop 4).take 4)) (num ((l.drop 2).take 2))=l.take 12
  then(l.getD 1 0,num ((l.drop 4).take 4),num ((l.drop 2).take 2),0)else(0,0,0,800)
theorem getHead_long {l:List Int} (h:¬l.length<12):getHead l=if HeadOk (l.getD 1 0) (num ((l.drop 4).take 4)) (num ((l.drop 2).take 2))/\hdr (l.getD 1 0) (num ((l.drop 4).take 4)) (num ((l.drop 2).take 2))=l.take 12
  then(l.getD 1 0,num ((l.drop 4).take 4),num ((l.drop 2).take 2),0)else(0,0,0,800):=by unfold getHead;rw[if_neg h]
theorem head_Get_f {k:Nat} (hk:8<=k) (s:ByteArray):head_Get.f k s=some (getHead (B s)):=by
  have hl:=B_len s
  unfold head_Get.f
  by_cases h:(s.size:Int)<12
  · rw[if_pos h];unfold getHead;rw[if_pos (by omega)]
  · rw[if_neg h,getHead_long (by omega)]
    have e12:B (s.extract 0 12)=(B s).take 12:=by rw[B_extract];rfl
    have sz12:(s.extract 0 12).size =12:=by rw[<-B_len,e12,List.length_take];omega
    have e48:B ((s.extract 0 12).extract 4 8)=((B s).drop 4).take 4:=by rw[B_extract,e12,List.drop_take,List.take_take];rfl
    have e24:B ((s.extract 0 12).extract 2 4)=((B s).drop 2).take 2:=by rw[B_extract,e12,List.drop_take,List.take_take];rfl
    have s48:((s.extract 0 12).extract 4 8).size <=7:=by rw[<-B_len,e48,List.length_take];omega
    have s24:((s.extract 0 12).extract 2 4).size <=7:=by rw[<-B_len,e24,List.length_take];omega
    have hb1:bt (s.extract 0 12) 1=(B s).getD 1 0:=by
      rw[bt_B,e12];simp only[List.getD_eq_getElem?_getD,Int.toNat_one]
      rw[List.getElem?_take_of_lt (by omega)]
    have hr:=byt_getD (B_byt s) 1
    have hw:wrap64 (bt (s.extract 0 12) 1)=(B s).getD 1 0:=by rw[hb1];exact wrap_id (by omega) (by omega)
    rw[if_pos (by omega),if_pos (by omega),if_pos (by rw[sz12];omega),if_pos (by omega),if_pos (by rw[sz12];omega),lsa_Number_f s48 hk,Option.bind_some,
      if_pos (by omega),if_pos (by rw[sz12];omega),lsa_Number_f s24 hk,Option.bind_some,head_Put_f (by omega),Option.bind_some,hw,e48,e24]
    by_cases h1:HeadOk ((B s).getD 1 0) (num (((B s).drop 4).take 4)) (num (((B s).drop 2).take 2))
    · rw[if_pos h1]
      by_cases h2:hdr ((B s).getD 1 0) (num (((B s).drop 4).take 4)) (num (((B s).drop 2).take 2))=(B s).take 12
      · rw[if_pos rfl,if_pos (by rw[toList_iff,B_strOf (hdr_byt _ _ _),e12];exact h2),if_pos ⟨h1,h2⟩]
      · rw[if_pos rfl,if_neg (by rw[toList_iff,B_strOf (hdr_byt _ _ _),e12];exact h2),if_neg (λhh=>h2 hh.2)]
    · rw[if_neg h1,if_neg (by decide),if_neg (λhh=>h1 hh.1)]
theorem get_hdr {kind r s:Int} (h:HeadOk kind r s) (more:List Int):getHead (hdr kind r s++more)=(kind,r,s,0):=by
  obtain⟨h1,h2,h3,h4,h5⟩:=h
  have hk:kind % 256=kind:=by omega
  have e1:(hdr kind r s++more).getD 1 0=kind:=by simp[hdr,hk]
  have e2':((hdr kind r s++more).drop 4).take 4=e4 r:=by simp[hdr,e2,e4]
  have e3:((hdr kind r s++more).drop 2).take 2=e2 s:=by simp[hdr,e2,e4]
  unfold getHead
  rw[if_neg (by rw[List.length_append,hdr_len];omega),e1,e2',e3,num_e4 (by omega) (by omega),num_e2 (by omega) (by omega)]
  rw[if_pos ⟨⟨h1,by omega⟩,by rw[<-hdr_len kind r s,List.take_left]⟩]
theorem ref_j0 {m:Nat} (hm:7<=m) (kind r s:Int):watchwordref1_PutHead.j0 (m+1) kind r s false=some (strOfNums (hdr kind r s),0):=by
  have hl:(⟨#[2]⟩:ByteArray)=strOfNums [2]:=by decide
  simp only[watchwordref1_PutHead.j0,ref_Num1 (show 3<=m by omega),ref_Num2 (show 5<=m by omega),ref_Num4 hm,Option.bind_some,hl,strOf_append,strOf_size]
  simp[e1,e2,e4,hdr]
theorem ref_j0t (m:Nat) (kind r s:Int):watchwordref1_PutHead.j0 (m+1) kind r s true=some (⟨#[]⟩,800):=by simp[watchwordref1_PutHead.j0]
theorem ref_PutHead_f {k:Nat} (hk:8<=k) (kind r s:Int):watchwordref1_PutHead.f k kind r s=some (if HeadOk kind r s then(strOfNums (hdr kind r s),0)else(⟨#[]⟩,800)):=by
  obtain⟨k,rfl⟩:∃m,k=m+1:=⟨k-1,by omega⟩
  have ht:watchwordref1_TypeMay.f kind=some (decide (kind=1\/kind=4\/kind=5)):=by
    unfold watchwordref1_TypeMay.f
    by_cases h1:kind=1
    · simp[h1]
    · by_cases h4:kind=4
      · simp[h4]
      · simp only[if_neg h1,if_neg h4,h1,h4,false_or]
        rfl
  have hu:∀a b c:Int,watchwordref1_upTo.f a b c=some (decide (b<=a/\a<=c)):=by
    intro a b c
    unfold watchwordref1_upTo.f
    by_cases h1:a>=b
    · rw[if_pos h1];simp only[h1,true_and]
    · rw[if_neg h1];have:¬(b<=a/\a<=c):=by omega
      simp[this]
  simp only[watchwordref1_PutHead.f,watchwordref1_routerMay.f,ht,hu,Option.bind_some,decide_eq_true_eq]
  by_cases h1:kind=1\/kind=4\/kind=5
  · rw[if_pos h1]
    by_cases h2:1<=r/\r<=4
    · rw[if_pos h2]
      by_cases h3:12<=s/\s<=512
      · rw[decide_eq_true h3]
        show watchwordref1_PutHead.j0 (k+1) kind r s false=_
        rw[ref_j0 (by omega),if_pos ⟨h1,by omega⟩]
      · rw[decide_eq_false h3]
        show watchwordref1_PutHead.j0 (k+1) kind r s true=_
        rw[ref_j0t,if_neg (by unfold HeadOk;omega)]
    · rw[if_neg h2,ref_j0t,if_neg (by unfold HeadOk;omega)]
  · rw[if_neg h1,ref_j0t,if_neg (by unfold HeadOk;exact λh=>h1 h.1)]
theorem ref_GetHead_f {k:Nat} (hk:8<=k) (s:ByteArray):watchwordref1_GetHead.f k s=some (getHead (B s)):=by
  have hl:=B_len s
  unfold watchwordref1_GetHead.f
  by_cases h:(s.size:Int)<12
  · rw[if_pos h];unfold getHead;rw[if_pos (by omega)]
  · rw[if_neg h,getHead_long (by omega)]
    have e12:B (s.extract 0 12)=(B s).take 12:=by rw[B_extract];rfl
    have e48:B (s.extract 4 8)=((B s).drop 4).take 4:=by rw[B_extract]
    have e24:B (s.extract 2 4)=((B s).drop 2).take 2:=by rw[B_extract]
    have s48:(s.extract 4 8).size <=7:=by rw[<-B_len,e48,List.length_take];omega
    have s24:(s.extract 2 4).size <=7:=by rw[<-B_len,e24,List.length_take];omega
    have hr:=byt_getD (B_byt s) 1
    have hw:wrap64 (bt s 1)=(B s).getD 1 0:=by
      have hb1:bt s 1=(B s).getD 1 0:=bt_B s 1
      rw[hb1];exact wrap_id (by omega) (by omega)
    rw[if_pos (by omega),if_pos (by omega),if_pos (by omega),ref_Of_f s24 hk,Option.bind_some,
      if_pos (by omega),if_pos (by omega),ref_Of_f s48 hk,Option.bind_some,ref_PutHead_f hk,Option.bind_some,hw,e48,e24]
    by_cases h1:HeadOk ((B s).getD 1 0) (num (((B s).drop 4).take 4)) (num (((B s).drop 2).take 2))
    · rw[if_pos h1]
      by_cases h2:hdr ((B s).getD 1 0) (num (((B s).drop 4).take 4)) (num (((B s).drop 2).take 2))=(B s).take 12
      · rw[if_pos rfl,if_pos (by omega),if_pos (by omega),if_pos (by rw[toList_iff,B_strOf (hdr_byt _ _ _),e12];exact h2),if_pos ⟨h1,h2⟩]
      · rw[if_pos rfl,if_pos (by omega),if_pos (by omega),if_neg (by rw[toList_iff,B_strOf (hdr_byt _ _ _),e12];exact h2),if_neg (λhh=>h2 hh.2)]
    · rw[if_neg h1,if_neg (by decide),if_neg (λhh=>h1 hh.1)]
end Hd
namespace He
theorem lsa_Router_f (x:Int):lsa_Router.f x=some (decide (1<=x/\x<=4)):=by
  unfold lsa_Router.f
  by_cases h1:x>=1
  · rw[if_pos h1];simp only[h1,true_and]
  · rw[if_neg h1];have:¬(1<=x/\x<=4):=by omega
    simp[this]
def heard:Int->List Int->Bool
  |_,[]=>true
  |p,x::l=>if 1<=x/\x<=4/\p<x then heard x l else false
theorem heard_short:∀(l:List Int) (p:Int),0<=p->heard p l=true->l.length=0\/(l.length:Int)<=4-p
  | [],_,_,_=> .inl rfl
  | x::l,p,h0,h=>by
    unfold heard at h
    by_cases hc:1<=x/\x<=4/\p<x
    · rw[if_pos hc]at h
      rcases heard_short l x (by omega) h with h1|h1
      · right;simp only[List.length_cons,h1];omega
      · right;simp only[List.length_cons];omega
    · rw[if_neg hc]at h;cases h
theorem heard_len {l:List Int} (h:heard 0 l=true):l.length<=4:=by
  rcases heard_short l 0 (by omega) h with h1|h1 <;> omega
theorem heard_range:∀(l:List Int) (p:Int),heard p l=true->∀x∈l,1<=x/\x<=4
  | [],_,_,_,hx=>by cases hx
  | y::l,p,h,x,hx=>by
    unfold heard at h
    by_cases hc:1<=y/\y<=4/\p<y
    · rw[if_pos hc]at h
      rcases List.mem_cons.mp hx with rfl|hx
      · omega
      · exact heard_range l y h x hx
    · rw[if_neg hc]at h;cases h
theorem rd_at {l:List Int} {i:Nat} (h:i<l.length):rd l (i:Int)=l[i]:=by
  unfold rd;rw[Int.toNat_natCast,List.getD_eq_getElem?_getD,List.getElem?_eq_getElem h];rfl
def prev (l:List Int) (i:Nat):Int:=if i=0 then 0 else rd l ((i:Int)-1)
theorem prev_succ (l:List Int) (i:Nat):prev l (i+1)=rd l (i:Int):=by unfold prev;rw[if_neg (by omega)];congr 1;omega
theorem drop_at {l:List Int} {i:Nat} (h:i<l.length):l.drop i=rd l (i:Int)::l.drop (i+1):=by
  rw[List.drop_eq_getElem_cons h,rd_at h]
theorem hello_May_l {l:List Int} (hn:l.length<=9223372036854775807):∀(d k i:Nat),i+d=l.length->d<k->
    hello_May.l0 k l l (l.length:Int) (i:Int)=some (heard (prev l i) (l.drop i)):=by
  intro d
  induction d with
  | zero=>
    intro k i hi hk
    obtain⟨k,rfl⟩:∃m,k=m+1:=⟨k-1,by omega⟩
    simp only[hello_May.l0]
    rw[if_neg (by omega),List.drop_of_length_le (by omega)]
    rfl
  | succ d ih=>
    intro k i hi hk
    obtain⟨k,rfl⟩:∃m,k=m+1:=⟨k-1,by omega⟩
    have hlt:i<l.length:=by omega
    have h4:wrap64 ((i:Int)+1)=((i+1:Nat):Int):=by rw[wrap_id (by omega) (by omega)];omega
    have h5:wrap64 ((i:Int)-1)=(i:Int)-1:=wrap_id (by omega) (by omega)
    have hr:=ih k (i+1) (by omega) (by omega)
    simp only[hello_May.l0,lsa_Router_f,Option.bind_some,decide_eq_true_eq]
    rw[if_pos (by omega),if_pos (by omega),if_pos (by omega),h4,h5,hr,prev_succ,drop_at hlt]
    by_cases hc:1<=rd l (i:Int)/\rd l (i:Int)<=4
    · rw[if_pos hc]
      by_cases h0:(i:Int)>0
      · rw[if_pos h0,if_pos (by omega),if_pos (by omega)]
        have hp:prev l i=rd l ((i:Int)-1):=by unfold prev;rw[if_neg (by omega)]
        by_cases hg:rd l ((i:Int)-1)>=rd l (i:Int)
        · rw[if_pos hg];unfold heard;rw[if_neg (by rw[hp];omega)]
        · rw[if_neg hg];conv=>rhs;unfold heard
          rw[if_pos (by rw[hp];omega)]
      · rw[if_neg h0]
        have hp:prev l i=0:=by unfold prev;rw[if_pos (by omega)]
        conv=>rhs;unfold heard
        rw[if_pos (by rw[hp];omega)]
    · rw[if_neg hc];unfold heard;rw[if_neg (λhh=>hc ⟨hh.1,hh.2.1⟩)]
theorem hello_May_f {l:List Int} (hn:l.length<=9223372036854775807) {k:Nat} (hk:l.length<k):hello_May.f k l=some (heard 0 l):=
  hello_May_l hn l.length k 0 (by omega) hk
theorem hello_Put_l {l:List Int} (hn:l.length<=4) (hr:∀x∈l,1<=x/\x<=4):∀(d k i:Nat) (acc:List Int),i+d=l.length->d<k->acc.length<=10+i->
    hello_Put.l0 k (strOfNums acc) l (l.length:Int) (i:Int)=some (strOfNums (acc++l.drop i),0):=by
  intro d
  induction d with
  | zero=>
    intro k i acc hi hk ha
    obtain⟨k,rfl⟩:∃m,k=m+1:=⟨k-1,by omega⟩
    simp only[hello_Put.l0]
    rw[if_neg (by omega),List.drop_of_length_le (by omega),List.append_nil]
  | succ d ih=>
    intro k i acc hi hk ha
    obtain⟨k,rfl⟩:∃m,k=m+1:=⟨k-1,by omega⟩
    have hlt:i<l.length:=by omega
    have h4:wrap64 ((i:Int)+1)=((i+1:Nat):Int):=by rw[wrap_id (by omega) (by omega)];omega
    have hx:=hr (rd l (i:Int)) (by rw[rd_at hlt];exact List.getElem_mem hlt)
    have he:e1 (rd l (i:Int))=[rd l (i:Int)]:=by unfold e1;congr 1;omega
    simp only[hello_Put.l0,lsa_One_f,Option.bind_some,strOf_append,strOf_size,e1_len]
    rw[if_pos (by omega),if_pos (by omega),if_pos (by omega),if_pos (by omega),h4,ih k (i+1) _ (by omega) (by omega) (by simp only[List.length_append,e1_len];omega),he,drop_at hlt,List.append_assoc]
    rfl
def helloBytes (l:List Int):List Int:=(l.length:Int)::l
theorem helloBytes_byt {l:List Int} (h:heard 0 l=true):Byt (helloBytes l):=by
  have h1:=heard_len h
  refine byt_cons (by omega) (λx hx=>?_)
  have:=heard_range l 0 h x hx
  omega
theorem hello_Put_f {l:List Int} (hn:l.length<=9223372036854775807) {k:Nat} (hk:l.length<k):
    hello_Put.f k l=some (if heard 0 l=true then(strOfNums (helloBytes l),0)else(⟨#[]⟩,900)):=by
  simp only[hello_Put.f,hello_May_f hn hk,Option.bind_some,lsa_One_f]
  by_cases h:heard 0 l=true
  · rw[if_pos h,if_pos h]
    have h1:=heard_len h
    have:=hello_Put_l h1 (heard_range l 0 h) l.length k 0 (e1 (l.length:Int)) (by omega) hk (by rw[e1_len];omega)
    rw[Int.natCast_zero]at this
    rw[this]
    have he:e1 (l.length:Int)=[(l.length:Int)]:=by unfold e1;congr 1;omega
    rw[he];rfl
  · rw[if_neg h,if_neg h]
def getHello (b:List Int):List Int × Int:=if heard 0 (b.drop 1)=true/\helloBytes (b.drop 1)=b then(b.drop 1,0)else([],900)
theorem hello_Get_end {s:ByteArray} (hs:s.size<=17592186044416) {k:Nat} (hk:s.size<k):
    ((hello_Put.f k ((B s).drop 1)).bind λbt145=>(if bt145.2=0 then(if bt145.1.toList=s.toList then(some ((B s).drop 1,0))else(some (([]:List Int),900)))else(some (([]:List Int),900))))=some (getHello (B s)):=by
  have hl:=B_len s
  have hd:((B s).drop 1).length <=s.size:=by rw[List.length_drop];omega
  rw[hello_Put_f (by omega) (by omega),Option.bind_some]
  unfold getHello
  by_cases h:heard 0 ((B s).drop 1)=true
  · rw[if_pos h]
    by_cases h2:helloBytes ((B s).drop 1)=B s
    · rw[if_pos rfl,if_pos (by rw[toList_iff,B_strOf (helloBytes_byt h)];exact h2),if_pos ⟨h,h2⟩]
    · rw[if_pos rfl,if_neg (by rw[toList_iff,B_strOf (helloBytes_byt h)];exact h2),if_neg (λhh=>h2 hh.2)]
  · rw[if_neg h,if_neg (by decide),if_neg (λhh=>h hh.1)]
theorem hello_Get_l {s:ByteArray} (hs:s.size<=17592186044416):∀(d k i:Nat) (acc:List Int),i+d=s.size->d+s.size+1<k->acc=((B s).take i).drop 1->
    hello_Get.l0 k s acc (s.size:Int) (i:Int)=some (getHello (B s)):=by
  intro d
  induction d with
  | zero=>
    intro k i acc hi hk ha
    obtain⟨k,rfl⟩:∃m,k=m+1:=⟨k-1,by omega⟩
    simp only[hello_Get.l0]
    have ht:(B s).take i=B s:=List.take_of_length_le (by rw[B_len];omega)
    rw[if_neg (by omega),ha,ht,hello_Get_end hs (by omega)]
  | succ d ih=>
    intro k i acc hi hk ha
    obtain⟨k,rfl⟩:∃m,k=m+1:=⟨k-1,by omega⟩
    have hl:=B_len s
    have h4:wrap64 ((i:Int)+1)=((i+1:Nat):Int):=by rw[wrap_id (by omega) (by omega)];omega
    have hlt:i<(B s).length :=by omega
    have hr:=byt_getD (B_byt s) i
    have hb:wrap64 (bt s (i:Int))=(B s).getD i 0:=by rw[bt_B,Int.toNat_natCast];exact wrap_id (by omega) (by omega)
    have hx:(B s).getD i 0=(B s)[i]:=by rw[List.getD_eq_getElem?_getD,List.getElem?_eq_getElem hlt];rfl
    have ht:(B s).take (i+1)=(B s).take i++[(B s)[i]]:=List.take_succ_eq_append_getElem hlt
    have hal:acc.length<17592186044416:=by rw[ha,List.length_drop,List.length_take];omega
    simp only[hello_Get.l0]
    rw[if_pos (by omega)]
    by_cases h0:(i:Int)>0
    · rw[if_pos h0,if_pos (by omega),if_pos (by omega),if_pos (by omega),hb,h4]
      refine ih k (i+1) _ (by omega) (by omega) ?_
      rw[ht,ha,List.drop_append_of_le_length (by rw[List.length_take];omega),hx]
    · rw[if_neg h0,h4]
      refine ih k (i+1) _ (by omega) (by omega) ?_
      have:i=0:=by omega
      subst this
      rw[ha,List.drop_of_length_le (by rw[List.length_take];omega),List.drop_of_length_le (by rw[List.length_take];omega)]
theorem hello_Get_f {s:ByteArray} (hs:s.size<=17592186044416) {k:Nat} (hk:2*s.size+1<k):hello_Get.f k s=some (getHello (B s)):=
  hello_Get_l hs s.size k 0 [] (by omega) (by omega) (by simp)
theorem get_put {l:List Int} (h:heard 0 l=true):getHello (helloBytes l)=(l,0):=by
  unfold getHello helloBytes
  rw[if_pos ⟨h,rfl⟩];rfl
theorem SameInts_l {l m:List Int} (hn:l.length<=9223372036854775807) (he:l.length=m.length):∀(d k i:Nat),i+d=l.length->d<k->
    watchwordlaw0_SameInts.l0 k l m (i:Int)=some (decide (l.drop i=m.drop i)):=by
  intro d
  induction d with
  | zero=>
    intro k i hi hk
    obtain⟨k,rfl⟩:∃m,k=m+1:=⟨k-1,by omega⟩
    simp only[watchwordlaw0_SameInts.l0]
    rw[if_neg (by omega),List.drop_of_length_le (by omega),List.drop_of_length_le (by omega)]
    rfl
  | succ d ih=>
    intro k i hi hk
    obtain⟨k,rfl⟩:∃m,k=m+1:=⟨k-1,by omega⟩
    have h4:wrap64 ((i:Int)+1)=((i+1:Nat):Int):=by rw[wrap_id (by omega) (by omega)];omega
    simp only[watchwordlaw0_SameInts.l0]
    rw[if_pos (by omega),if_pos (by omega),if_pos (by omega),h4,ih k (i+1) (by omega) (by omega),drop_at (l:=l) (i:=i) (by omega),drop_at (l:=m) (i:=i) (by omega)]
    by_cases hc:rd l (i:Int)=rd m (i:Int)
    · rw[if_pos hc,hc];simp only[List.cons.injEq,true_and]
    · rw[if_neg hc];simp only[List.cons.injEq,hc,false_and,decide_false]
theorem SameInts_f {l m:List Int} (hn:l.length<=9223372036854775807) {k:Nat} (hk:l.length<k):watchwordlaw0_SameInts.f k l m=some (decide (l=m)):=by
  unfold watchwordlaw0_SameInts.f
  by_cases h:l.length=m.length
  · rw[if_pos (by omega)]
    exact SameInts_l hn h l.length k 0 (by omega) hk
  · rw[if_neg (by omega),decide_eq_false (λe=>h (by rw[e]))]
theorem rh_upTo (x a b:Int):watchwordref9_upTo.f x a b=some (decide (a<=x/\x<=b)):=by
  unfold watchwordref9_upTo.f
  by_cases h:x>=a
  · rw[if_pos h];simp[show a<=x from h]
  · rw[if_neg h];simp[show ¬a<=x from h]
theorem rh_router (x:Int):watchwordref9_routerMay.f x=some (decide (1<=x/\x<=4)):=by
  unfold watchwordref9_routerMay.f;rw[rh_upTo];rfl
theorem rh_May_l {l:List Int} (hn:l.length<=9223372036854775807):∀(d k i:Nat),i+d=l.length->d<k->
    watchwordref9_HeardMay.l0 k l (i:Int)=some (heard (prev l i) (l.drop i)&&decide (l.length<=4)):=by
  intro d
  induction d with
  | zero=>
    intro k i hi hk
    obtain⟨k,rfl⟩:∃m,k=m+1:=⟨k-1,by omega⟩
    simp only[watchwordref9_HeardMay.l0]
    rw[if_neg (by omega),List.drop_of_length_le (by omega)]
    unfold heard
    rw[Bool.true_and]
    congr 1
    rw[Bool.eq_iff_iff,decide_eq_true_eq,decide_eq_true_eq]
    omega
  | succ d ih=>
    intro k i hi hk
    obtain⟨k,rfl⟩:∃m,k=m+1:=⟨k-1,by omega⟩
    have hlt:i<l.length:=by omega
    have h4:wrap64 ((i:Int)+1)=((i+1:Nat):Int):=by rw[wrap_id (by omega) (by omega)];omega
    have h5:wrap64 ((i:Int)-1)=(i:Int)-1:=wrap_id (by omega) (by omega)
    have hr:=ih k (i+1) (by omega) (by omega)
    simp only[watchwordref9_HeardMay.l0,rh_router,Option.bind_some,decide_eq_true_eq]
    rw[if_pos (by omega),if_pos (by omega),h4,h5,hr,prev_succ,drop_at hlt]
    by_cases hc:1<=rd l (i:Int)/\rd l (i:Int)<=4
    · rw[if_pos hc]
      by_cases h0:(i:Int)>0
      · rw[if_pos h0,if_pos (by omega),if_pos (by omega)]
        have hp:prev l i=rd l ((i:Int)-1):=by unfold prev;rw[if_neg (by omega)]
        by_cases hg:rd l (i:Int)<=rd l ((i:Int)-1)
        · rw[if_pos hg];unfold heard;rw[if_neg (by rw[hp];omega)];rfl
        · rw[if_neg hg];conv=>rhs;unfold heard
          rw[if_pos ⟨hc.1,hc.2,by rw[hp];omega⟩]
      · rw[if_neg h0]
        have hp:prev l i=0:=by unfold prev;rw[if_pos (by omega)]
        conv=>rhs;unfold heard
        rw[if_pos ⟨hc.1,hc.2,by rw[hp];omega⟩]
    · rw[if_neg hc];unfold heard;rw[if_neg (λhh=>hc ⟨hh.1,hh.2.1⟩)];rfl
theorem rh_May_f {l:List Int} (hn:l.length<=9223372036854775807) {k:Nat} (hk:l.length<k):watchwordref9_HeardMay.f k l=some (heard 0 l):=by
  have h:=rh_May_l hn l.length k 0 (by omega) hk
  unfold watchwordref9_HeardMay.f
  rw[show(0:Int)=((0:Nat):Int)from rfl,h]
  show some (heard 0 l&&decide (l.length<=4))=some (heard 0 l)
  by_cases g:heard 0 l=true
  · rw[g,decide_eq_true (heard_len g)];rfl
  · rw[Bool.eq_false_iff.mpr g];rfl
theorem rh_Put_l {l:List Int} (hn:l.length<=4) (hr:∀x∈l,1<=x/\x<=4):∀(d k i:Nat) (acc:List Int),i+d=l.length->d<k->acc.length<=10+i->
    watchwordref9_PutHello.l0 k l acc (i:Int)=some (strOfNums (acc++l.drop i),0):=by
  intro d
  induction d with
  | zero=>
    intro k i acc hi hk ha
    obtain⟨k,rfl⟩:∃m,k=m+1:=⟨k-1,by omega⟩
    simp only[watchwordref9_PutHello.l0]
    rw[if_neg (by omega),List.drop_of_length_le (by omega),List.append_nil]
  | succ d ih=>
    intro k i acc hi hk ha
    obtain⟨k,rfl⟩:∃m,k=m+1:=⟨k-1,by omega⟩
    have hlt:i<l.length:=by omega
    have h4:wrap64 ((i:Int)+1)=((i+1:Nat):Int):=by rw[wrap_id (by omega) (by omega)];omega
    have hx:=hr (rd l (i:Int)) (by rw[rd_at hlt];exact List.getElem_mem hlt)
    simp only[watchwordref9_PutHello.l0]
    rw[if_pos (by omega),if_pos (by omega),if_pos (by omega),h4,Int.emod_eq_of_lt (by omega) (by omega),ih k (i+1) _ (by omega) (by omega) (by rw[List.length_append];simp only[List.length_cons,List.length_nil];omega),drop_at hlt,List.append_assoc]
    rfl
theorem rh_Put_f {l:List Int} (hn:l.length<=9223372036854775807) {k:Nat} (hk:l.length<k):
    watchwordref9_PutHello.f k l=some (if heard 0 l=true then(strOfNums (helloBytes l),0)else(⟨#[]⟩,900)):=by
  simp only[watchwordref9_PutHello.f,rh_May_f hn hk,Option.bind_some]
  by_cases h:heard 0 l=true
  · have h4:=heard_len h
    rw[if_pos h,if_pos h,Int.emod_eq_of_lt (by omega) (by omega),show(0:Int)=((0:Nat):Int)from rfl,rh_Put_l h4 (heard_range l 0 h) l.length k 0 _ (by omega) hk (by simp only[List.length_cons,List.length_nil];omega)]
    rfl
  · rw[if_neg h,if_neg h]
def rhEnd (b xs:List Int):List Int × Int:=if b≠ []/\b.getD 0 0=(xs.length:Int)/\heard 0 xs=true then(xs,0)else([],900)
theorem rh_Get_l {s:ByteArray} (hs:s.size<=17592186044416):∀(d k i:Nat) (acc:List Int),1<=i->(i+d=s.size\/(d=0/\s.size<=i))->i<=17592186044416->d+s.size+1<k->acc=((B s).take i).drop 1->
    watchwordref9_GetHello.l0 k s acc (i:Int)=some (rhEnd (B s) ((B s).drop 1)):=by
  intro d
  induction d with
  | zero=>
    intro k i acc h1 hi hi2 hk ha
    obtain⟨k,rfl⟩:∃m,k=m+1:=⟨k-1,by omega⟩
    have hl:=B_len s
    have hacc:acc=(B s).drop 1:=by rw[ha,List.take_of_length_le (by omega)]
    have hr:=byt_getD (B_byt s) 0
    simp only[watchwordref9_GetHello.l0]
    rw[if_neg (by omega),hacc]
    unfold rhEnd
    by_cases h0:s.size=0
    · have hB:B s=[]:=List.eq_nil_of_length_eq_zero (by rw[hl];exact h0)
      rw[if_pos ((toList_iff_lit s []).mpr (by rw[hB];rfl)),if_neg (λhh=>hh.1 hB)]
    · have hB:B s≠ []:=λe=>h0 (by rw[<-hl,e];rfl)
      have hlen:((B s).drop 1).length =s.size-1:=by rw[List.length_drop,hl]
      rw[if_neg (λe=>hB (by have:=(toList_iff_lit s []).mp e;rw[this];rfl)),if_pos (by omega),show bt s 0=(B s).getD 0 0 from by rw[bt_B];rfl,wrap_id (by omega) (by omega)]
      by_cases h1:(B s).getD 0 0=(((B s).drop 1).length :Int)
      · rw[if_pos h1,rh_May_f (by omega) (by omega),Option.bind_some]
        by_cases h2:heard 0 ((B s).drop 1)=true
        · rw[if_pos h2,if_pos ⟨hB,h1,h2⟩]
        · rw[if_neg h2,if_neg (λhh=>h2 hh.2.2)]
      · rw[if_neg h1,if_neg (λhh=>h1 hh.2.1)]
  | succ d ih=>
    intro k i acc h1 hi hi2 hk ha
    obtain⟨k,rfl⟩:∃m,k=m+1:=⟨k-1,by omega⟩
    have hl:=B_len s
    have hlt:i<(B s).length :=by omega
    have h4:wrap64 ((i:Int)+1)=((i+1:Nat):Int):=by rw[wrap_id (by omega) (by omega)];omega
    have hal:acc.length<17592186044416:=by rw[ha,List.length_drop,List.length_take];omega
    have hr:=byt_getD (B_byt s) i
    have hbt:wrap64 (bt s (i:Int))=(B s).getD i 0:=by rw[bt_B,Int.toNat_natCast];exact wrap_id (by omega) (by omega)
    have hx:(B s).getD i 0=(B s)[i]:=by rw[List.getD_eq_getElem?_getD,List.getElem?_eq_getElem hlt];rfl
    have ht:(B s).take (i+1)=(B s).take i++[(B s)[i]]:=List.take_succ_eq_append_getElem hlt
    simp only[watchwordref9_GetHello.l0]
    rw[if_pos (by omega),if_pos (by omega),if_pos hal,h4,hbt]
    refine ih k (i+1) _ (by omega) (by omega) (by omega) (by omega) ?_
    rw[ht,ha,List.drop_append_of_le_length (by rw[List.length_take];omega),hx]
theorem rh_end_eq (b:List Int):rhEnd b (b.drop 1)=getHello b:=by
  unfold rhEnd getHello
  have e:(b≠ []/\b.getD 0 0=((b.drop 1).length :Int)/\heard 0 (b.drop 1)=true)↔(heard 0 (b.drop 1)=true/\helloBytes (b.drop 1)=b):=by
    cases b with
    |nil=>simp[helloBytes]
    | cons c r=>
      constructor
      · rintro⟨_,h1,h2⟩
        refine⟨h2,?_⟩
        have h1':c=(r.length:Int):=h1
        show(r.length:Int)::r=c::r
        rw[h1']
      · rintro⟨h2,h1⟩
        refine⟨by simp,?_,h2⟩
        have h1':(r.length:Int)::r=c::r:=h1
        show c=(r.length:Int)
        exact(List.cons.inj h1').1.symm
  by_cases h:heard 0 (b.drop 1)=true/\helloBytes (b.drop 1)=b
  · rw[if_pos h,if_pos (e.mpr h)]
  · rw[if_neg h,if_neg (λhh=>h (e.mp hh))]
theorem rh_Get_f {s:ByteArray} (hs:s.size<=17592186044415) {k:Nat} (hk:2*s.size+5<k):watchwordref9_GetHello.f k s=some (getHello (B s)):=by
  unfold watchwordref9_GetHello.f
  rw[show(1:Int)=((1:Nat):Int)from rfl,rh_Get_l (by omega) (s.size-1) k 1 [] (by omega) (by omega) (by omega) (by omega) (by
    cases h:B s with
    |nil=>rfl
    |cons c r=>rfl),rh_end_eq]
end He
namespace Ak
def AckOk (r s g m:Int):Prop:=1<=r/\r<=4/\1<=s/\s<=2147483647/\0<=g/\g<=60/\0<=m/\m<=65535
instance (r s g m:Int):Decidable (AckOk r s g m):=by unfold AckOk;infer_instance
theorem ack_Head_f (r s g m:Int):ack_Head.f r s g m=some (decide (AckOk r s g m)):=by
  unfold ack_Head.f lsa_Router.f lsa_Serial.f lsa_Age.f AckOk
  by_cases h1:r>=1
  · by_cases h2:r<=4
    · by_cases h3:s>=1
      · by_cases h4:s<=2147483647
        · by_cases h5:g>=0
          · by_cases h6:g<=60
            · by_cases h7:m>=0
              · simp[h1,h2,h3,h4,h5,h6,h7]
              · simp[h1,h2,h3,h4,h5,h6,h7]
            · simp[h1,h2,h3,h4,h5,h6]
          · simp[h1,h2,h3,h4,h5]
        · simp[h1,h2,h3,h4]
      · simp[h1,h2,h3]
    · simp[h1,h2]
  · simp[h1]
instance:DecidableEq S47:=λa b=>decidable_of_iff (a.f0=b.f0/\a.f1=b.f1/\a.f2=b.f2/\a.f3=b.f3) (by cases a;cases b;simp)
def heads:Int->List S47->Bool
  |_,[]=>true
  |p,x::l=>if AckOk x.f0 x.f1 x.f2 x.f3/\p<x.f0 then heads x.f0 l else false
theorem heads_short:∀(l:List S47) (p:Int),0<=p->heads p l=true->l.length=0\/(l.length:Int)<=4-p
  | [],_,_,_=> .inl rfl
  | x::l,p,h0,h=>by
    unfold heads at h
    by_cases hc:AckOk x.f0 x.f1 x.f2 x.f3/\p<x.f0
    · rw[if_pos hc]at h
      have h4:=hc.1.2.1
      rcases heads_short l x.f0 (by omega) h with h1|h1
      · right;simp only[List.length_cons,h1];omega
      · right;simp only[List.length_cons];omega
    · rw[if_neg hc]at h;cases h
theorem heads_len {l:List S47} (h:heads 0 l=true):l.length<=4:=by
  rcases heads_short l 0 (by omega) h with h1|h1 <;> omega
theorem heads_range:∀(l:List S47) (p:Int),heads p l=true->∀x∈l,AckOk x.f0 x.f1 x.f2 x.f3
  | [],_,_,_,hx=>by cases hx
  | y::l,p,h,x,hx=>by
    unfold heads at h
    by_cases hc:AckOk y.f0 y.f1 y.f2 y.f3/\p<y.f0
    · rw[if_pos hc]at h
      rcases List.mem_cons.mp hx with rfl|hx
      · exact hc.1
      · exact heads_range l y.f0 h x hx
    · rw[if_neg hc]at h;cases h
theorem rdH_at {l:List S47} {i:Nat} (h:i<l.length):rd_T47 l (i:Int)=l[i]:=by
  unfold rd_T47;rw[Int.toNat_natCast,List.getD_eq_getElem?_getD,List.getElem?_eq_getElem h];rfl
def prevH (l:List S47) (i:Nat):Int:=if i=0 then 0 else(rd_T47 l ((i:Int)-1)).f0
theorem prevH_succ (l:List S47) (i:Nat):prevH l (i+1)=(rd_T47 l (i:Int)).f0 :=by
  unfold prevH;rw[if_neg (by omega)]
  have:((i+1:Nat):Int)-1=(i:Int):=by omega
  rw[this]
theorem dropH_at {l:List S47} {i:Nat} (h:i<l.length):l.drop i=rd_T47 l (i:Int)::l.drop (i+1):=by
  rw[List.drop_eq_getElem_cons h,rdH_at h]
theorem ack_May_l {l:List S47} (hn:l.length<=9223372036854775807):∀(d k i:Nat),i+d=l.length->d<k->
    ack_May.l0 k l l (l.length:Int) (i:Int)=some (heads (prevH l i) (l.drop i)):=by
  intro d
  induction d with
  | zero=>
    intro k i hi hk
    obtain⟨k,rfl⟩:∃m,k=m+1:=⟨k-1,by omega⟩
    simp only[ack_May.l0]
    rw[if_neg (by omega),List.drop_of_length_le (by omega)]
    rfl
  | succ d ih=>
    intro k i hi hk
    obtain⟨k,rfl⟩:∃m,k=m+1:=⟨k-1,by omega⟩
    have hlt:i<l.length:=by omega
    have h4:wrap64 ((i:Int)+1)=((i+1:Nat):Int):=by rw[wrap_id (by omega) (by omega)];omega
    have h5:wrap64 ((i:Int)-1)=(i:Int)-1:=wrap_id (by omega) (by omega)
    have hr:=ih k (i+1) (by omega) (by omega)
    simp only[ack_May.l0,ack_Head_f,Option.bind_some,decide_eq_true_eq]
    rw[if_pos (by omega),if_pos (by omega),if_pos (by omega),h4,h5,hr,prevH_succ,dropH_at hlt]
    by_cases hc:AckOk (rd_T47 l (i:Int)).f0 (rd_T47 l (i:Int)).f1 (rd_T47 l (i:Int)).f2 (rd_T47 l (i:Int)).f3
    · rw[if_pos hc]
      by_cases h0:(i:Int)>0
      · rw[if_pos h0,if_pos (by omega),if_pos (by omega)]
        have hp:prevH l i=(rd_T47 l ((i:Int)-1)).f0 :=by unfold prevH;rw[if_neg (by omega)]
        by_cases hg:(rd_T47 l ((i:Int)-1)).f0 >=(rd_T47 l (i:Int)).f0
        · rw[if_pos hg];unfold heads;rw[if_neg (by rw[hp];omega)]
        · rw[if_neg hg];conv=>rhs;unfold heads
          rw[if_pos ⟨hc,by rw[hp];omega⟩]
      · rw[if_neg h0]
        have hp:prevH l i=0:=by unfold prevH;rw[if_pos (by omega)]
        have h1:=hc.1
        conv=>rhs;unfold heads
        rw[if_pos ⟨hc,by rw[hp];omega⟩]
    · rw[if_neg hc];unfold heads;rw[if_neg (λhh=>hc hh.1)]
theorem ack_May_f {l:List S47} (hn:l.length<=9223372036854775807) {k:Nat} (hk:l.length<k):ack_May.f k l=some (heads 0 l):=
  ack_May_l hn l.length k 0 (by omega) hk
def hbytes (x:S47):List Int:=e1 x.f0++e1 x.f2++e4 x.f1++e2 x.f3
theorem hbytes_byt (x:S47):Byt (hbytes x):=byt_append (byt_append (byt_append (e1_byt _) (e1_byt _)) (e4_byt _)) (e2_byt _)
theorem hbytes_len (x:S47):(hbytes x).length =8:=rfl
def ackBytes (l:List S47):List Int:=e1 (l.length:Int)++l.flatMap hbytes
theorem flat_byt {α:Type} (f:α->List Int) (hf:∀x,Byt (f x)) (l:List α):Byt (l.flatMap f):=by
  intro y hy
  obtain⟨x,_,hx⟩:=List.mem_flatMap.mp hy
  exact hf x y hx
theorem ackBytes_byt (l:List S47):Byt (ackBytes l):=byt_append (e1_byt _) (flat_byt _ hbytes_byt l)
theorem ack_Put_l {l:List S47} (hn:l.length<=4):∀(d k i:Nat) (acc:List Int),i+d=l.length->d<k->acc.length<=10+8*i->
    ack_Put.l0 k (strOfNums acc) l (l.length:Int) (i:Int)=some (strOfNums (acc++(l.drop i).flatMap hbytes),0):=by
  intro d
  induction d with
  | zero=>
    intro k i acc hi hk ha
    obtain⟨k,rfl⟩:∃m,k=m+1:=⟨k-1,by omega⟩
    simp only[ack_Put.l0]
    rw[if_neg (by omega),List.drop_of_length_le (by omega)]
    simp
  | succ d ih=>
    intro k i acc hi hk ha
    obtain⟨k,rfl⟩:∃m,k=m+1:=⟨k-1,by omega⟩
    have hlt:i<l.length:=by omega
    have h4:wrap64 ((i:Int)+1)=((i+1:Nat):Int):=by rw[wrap_id (by omega) (by omega)];omega
    simp only[ack_Put.l0,lsa_One_f,lsa_Two_f,lsa_Four_f,Option.bind_some,strOf_append,strOf_size,List.length_append,e1_len,e2_len,e4_len]
    rw[if_pos (by omega),if_pos (by omega),if_pos (by omega),if_pos (by decide),if_pos (by decide),if_pos (by decide),if_pos (by omega),h4,
      ih k (i+1) _ (by omega) (by omega) (by simp only[List.length_append,e1_len,e2_len,e4_len];omega),dropH_at hlt,List.flatMap_cons]
    simp only[hbytes,List.append_assoc]
theorem ack_Put_f {l:List S47} (hn:l.length<=9223372036854775807) {k:Nat} (hk:l.length<k):
    ack_Put.f k l=some (if heads 0 l=true then(strOfNums (ackBytes l),0)else(⟨#[]⟩,1100)):=by
  simp only[ack_Put.f,ack_May_f hn hk,Option.bind_some,lsa_One_f]
  by_cases h:heads 0 l=true
  · rw[if_pos h,if_pos h]
    have h1:=heads_len h
    exact ack_Put_l h1 l.length k 0 (e1 (l.length:Int)) (by omega) hk (by rw[e1_len];omega)
  · rw[if_neg h,if_neg h]
def headAt (b:List Int):S47:=⟨b.getD 0 0,num ((b.drop 2).take 4),b.getD 1 0,num ((b.drop 6).take 2)⟩
def parseA:Nat->List Int->List S47
  |0,_=>[]
  |n+1,b=>if 8<=b.length then headAt b::parseA n (b.drop 8)else []
def ackEnd (b:List Int) (out:List S47):(List S47) × Int:=if heads 0 out=true/\ackBytes out=b then(out,0)else([],1100)
theorem ack_end {s:ByteArray} {out:List S47} (hn:out.length<=5) {k:Nat} (hk:6<=k):
    ((ack_Put.f k out).bind λbt130=>(if bt130.2=0 then(if bt130.1.toList=s.toList then(some (out,0))else(some (([]:List S47),1100)))else(some (([]:List S47),1100))))=some (ackEnd (B s) out):=by
  rw[ack_Put_f (by omega) (by omega),Option.bind_some]
  unfold ackEnd
  by_cases h:heads 0 out=true
  · rw[if_pos h]
    by_cases h2:ackBytes out=B s
    · rw[if_pos rfl,if_pos (by rw[toList_iff,B_strOf (ackBytes_byt _)];exact h2),if_pos ⟨h,h2⟩]
    · rw[if_pos rfl,if_neg (by rw[toList_iff,B_strOf (ackBytes_byt _)];exact h2),if_neg (λhh=>h2 hh.2)]
  · rw[if_neg h,if_neg (by decide),if_neg (λhh=>h hh.1)]
theorem getD_drop (b:List Int) (i j:Nat):(b.drop i).getD j 0=b.getD (i+j) 0:=by
  rw[List.getD_eq_getElem?_getD,List.getD_eq_getElem?_getD,List.getElem?_drop]
theorem ack_Get_l {s:ByteArray} (hs:s.size<=140737488351232):∀(n k i:Nat) (acc:List S47),acc.length+n=5->i=1+8*acc.length->2*n+20<=k->
    ack_Get.l0 k s acc (i:Int)=some (ackEnd (B s) (acc++parseA n ((B s).drop i))):=by
  intro n
  induction n with
  | zero=>
    intro k i acc ha hi hk
    obtain⟨k,rfl⟩:∃m,k=m+2:=⟨k-2,by omega⟩
    have hf:decide ((acc.length:Int)<=4)=false:=decide_eq_false (by omega)
    simp only[ack_Get.l0,hf,ite_self,ack_Get.j1,Bool.false_eq_true,if_false,parseA,List.append_nil]
    exact ack_end (by omega) (by omega)
  | succ n ih=>
    intro k i acc ha hi hk
    obtain⟨k,rfl⟩:∃m,k=m+2:=⟨k-2,by omega⟩
    have hl:=B_len s
    have w8:wrap64 ((i:Int)+8)=((i+8:Nat):Int):=by rw[wrap_id (by omega) (by omega)];omega
    have w1:wrap64 ((i:Int)+1)=((i+1:Nat):Int):=by rw[wrap_id (by omega) (by omega)];omega
    have w2:wrap64 ((i:Int)+2)=((i+2:Nat):Int):=by rw[wrap_id (by omega) (by omega)];omega
    have w6:wrap64 ((i:Int)+6)=((i+6:Nat):Int):=by rw[wrap_id (by omega) (by omega)];omega
    have ht:decide ((acc.length:Int)<=4)=true:=decide_eq_true (by omega)
    simp only[ack_Get.l0,w8]
    by_cases hc:((i+8:Nat):Int)<=(s.size:Int)
    · rw[if_pos hc,ht]
      have e26:B (s.extract (i+2) (i+6))=(((B s).drop i).drop 2).take 4:=by rw[B_extract,List.drop_drop];congr 1;omega
      have e68:B (s.extract (i+6) (i+8))=(((B s).drop i).drop 6).take 2:=by rw[B_extract,List.drop_drop];congr 1;omega
      have s26:(s.extract (i+2) (i+6)).size <=7:=by rw[<-B_len,e26,List.length_take];omega
      have s68:(s.extract (i+6) (i+8)).size <=7:=by rw[<-B_len,e68,List.length_take];omega
      have hr0:=byt_getD (B_byt s) i
      have hr1:=byt_getD (B_byt s) (i+1)
      have hb0:wrap64 (bt s (i:Int))=((B s).drop i).getD 0 0:=by rw[bt_B,Int.toNat_natCast,getD_drop];exact wrap_id (by omega) (by omega)
      have hb1:wrap64 (bt s ((i+1:Nat):Int))=((B s).drop i).getD 1 0:=by rw[bt_B,Int.toNat_natCast,getD_drop];exact wrap_id (by omega) (by omega)
      simp only[ack_Get.j1,if_true,w1,w2,w6,w8,Int.toNat_natCast,lsa_Number_f s26 (show 8<=k by omega),lsa_Number_f s68 (show 8<=k by omega),Option.bind_some,hb0,hb1,e26,e68]
      rw[if_pos (by omega),if_pos (by omega),if_pos (by omega),if_pos (by omega),if_pos (by omega),if_pos (by omega),if_pos (by omega),if_pos (by omega),if_pos (by omega),if_pos (by omega),if_pos (by omega),
        ih k (i+8) _ (by simp only[List.length_append,List.length_singleton];omega) (by simp only[List.length_append,List.length_singleton];omega) (by omega)]
      have hp:parseA (n+1) ((B s).drop i)=headAt ((B s).drop i)::parseA n ((B s).drop (i+8)):=by
        conv=>lhs;unfold parseA
        rw[if_pos (by rw[List.length_drop];omega),List.drop_drop]
      rw[hp,List.append_assoc]
      rfl
    · rw[if_neg hc]
      have hp:parseA (n+1) ((B s).drop i)=[]:=by
        unfold parseA;rw[if_neg (by rw[List.length_drop];omega)]
      simp only[ack_Get.j1,Bool.false_eq_true,if_false,hp,List.append_nil]
      exact ack_end (by omega) (by omega)
def getAck (b:List Int):(List S47) × Int:=ackEnd b (parseA 5 (b.drop 1))
theorem ack_Get_f {s:ByteArray} (hs:s.size<=140737488351232) {k:Nat} (hk:30<=k):ack_Get.f k s=some (getAck (B s)):=
  ack_Get_l hs 5 k 1 [] rfl rfl (by omega)
theorem headAt_hbytes {x:S47} (h:AckOk x.f0 x.f1 x.f2 x.f3) (r:List Int):headAt (hbytes x++r)=x:=by
  obtain⟨h1,h2,h3,h4,h5,h6,h7,h8⟩:=h
  have a0:(hbytes x++r).getD 0 0=x.f0:=by simp[hbytes,e1];omega
  have a1:(hbytes x++r).getD 1 0=x.f2:=by simp[hbytes,e1];omega
  have a2:((hbytes x++r).drop 2).take 4=e4 x.f1:=by simp[hbytes,e1,e2,e4]
  have a3:((hbytes x++r).drop 6).take 2=e2 x.f3:=by simp[hbytes,e1,e2,e4]
  unfold headAt
  rw[a0,a1,a2,a3,num_e4 (by omega) (by omega),num_e2 (by omega) (by omega)]
theorem parse_flat:∀(l:List S47) (n:Nat),l.length<=n->(∀x∈l,AckOk x.f0 x.f1 x.f2 x.f3)->parseA n (l.flatMap hbytes)=l
  | [],n,_,_=>by cases n <;> simp[parseA]
  |x::l,0,h,_=>by simp at h
  | x::l,n+1,h,hr=>by
    have hx:=hr x (by simp)
    rw[List.flatMap_cons]
    unfold parseA
    rw[if_pos (by rw[List.length_append,hbytes_len];omega),headAt_hbytes hx,<-hbytes_len x,List.drop_left,parse_flat l n (by simpa using h) (λy hy=>hr y (by simp[hy]))]
theorem get_ack {l:List S47} (h:heads 0 l=true):getAck (ackBytes l)=(l,0):=by
  have h1:=heads_len h
  unfold getAck ackEnd
  have hd:(ackBytes l).drop 1=l.flatMap hbytes:=by unfold ackBytes;rw[<-e1_len (l.length:Int),List.drop_left]
  rw[hd,parse_flat l 5 (by omega) (heads_range l 0 h),if_pos ⟨h,rfl⟩]
theorem getAck_ok {b:List Int} (h:(getAck b).2 =0):heads 0 (getAck b).1 =true/\ackBytes (getAck b).1 =b:=by
  unfold getAck ackEnd at h |-
  by_cases hc:heads 0 (parseA 5 (b.drop 1))=true/\ackBytes (parseA 5 (b.drop 1))=b
  · rw[if_pos hc]at h |-;exact hc
  · rw[if_neg hc]at h;exact absurd h (by decide)
theorem getAck_no {b:List Int} (h:¬(getAck b).2 =0):getAck b=([],1100):=by
  unfold getAck ackEnd at h |-
  by_cases hc:heads 0 (parseA 5 (b.drop 1))=true/\ackBytes (parseA 5 (b.drop 1))=b
  · rw[if_pos hc]at h;exact absurd rfl h
  · rw[if_neg hc]
theorem SameH_l {l m:List S47} (hn:l.length<=9223372036854775807) (he:l.length=m.length):∀(d k i:Nat),i+d=l.length->d<k->
    watchwordlaw0_SameLsaHeads.l0 k l m (i:Int)=some (decide (l.drop i=m.drop i)):=by
  intro d
  induction d with
  | zero=>
    intro k i hi hk
    obtain⟨k,rfl⟩:∃m,k=m+1:=⟨k-1,by omega⟩
    simp only[watchwordlaw0_SameLsaHeads.l0]
    rw[if_neg (by omega),List.drop_of_length_le (by omega),List.drop_of_length_le (by omega)]
    simp
  | succ d ih=>
    intro k i hi hk
    obtain⟨k,rfl⟩:∃m,k=m+1:=⟨k-1,by omega⟩
    have h4:wrap64 ((i:Int)+1)=((i+1:Nat):Int):=by rw[wrap_id (by omega) (by omega)];omega
    simp only[watchwordlaw0_SameLsaHeads.l0]
    rw[if_pos (by omega),if_pos (by omega),if_pos (by omega),h4,ih k (i+1) (by omega) (by omega),dropH_at (l:=l) (i:=i) (by omega),dropH_at (l:=m) (i:=i) (by omega)]
    generalize rd_T47 l (i:Int)=x
    generalize rd_T47 m (i:Int)=y
    have hx:(!(x.f0==y.f0)||(!(x.f1==y.f1)||(!(x.f2==y.f2)|| !(x.f3==y.f3))))= !decide (x=y):=by
      cases x;cases y
      rw[Bool.eq_iff_iff]
      simp
    rw[hx]
    by_cases hc:x=y
    · rw[hc];simp
    · simp[hc]
theorem SameH_f {l m:List S47} (hn:l.length<=9223372036854775807) {k:Nat} (hk:l.length<k):watchwordlaw0_SameLsaHeads.f k l m=some (decide (l=m)):=by
  unfold watchwordlaw0_SameLsaHeads.f
  by_cases h:l.length=m.length
  · rw[if_pos (by omega)]
    have:=SameH_l hn h l.length k 0 (by omega) hk
    rw[List.drop_zero,List.drop_zero]at this
    exact this
  · rw[if_neg (by omega),decide_eq_false (λe=>h (by rw[e]))]
theorem ref9_upTo_f (a b c:Int):watchwordref9_upTo.f a b c=some (decide (b<=a/\a<=c)):=by
  unfold watchwordref9_upTo.f
  by_cases h1:a>=b
  · rw[if_pos h1];simp only[h1,true_and]
  · rw[if_neg h1];have:¬(b<=a/\a<=c):=by omega
    simp[this]
theorem ref_HeadMay_f (r s g m:Int):watchwordref9_HeadMay.f r s g m=some (decide (AckOk r s g m)):=by
  unfold watchwordref9_HeadMay.f watchwordref9_routerMay.f
  simp only[ref9_upTo_f,Option.bind_some,decide_eq_true_eq]
  by_cases h1:1<=r/\r<=4
  · rw[if_pos h1]
    by_cases h2:1<=s/\s<=2147483647
    · rw[if_pos h2]
      by_cases h3:0<=g/\g<=60
      · rw[if_pos h3];unfold AckOk;simp[h1,h2,h3]
      · rw[if_neg h3,decide_eq_false (λhh:AckOk r s g m=>h3 ⟨hh.2.2.2.2.1,hh.2.2.2.2.2.1⟩)]
    · rw[if_neg h2,decide_eq_false (λhh:AckOk r s g m=>h2 ⟨hh.2.2.1,hh.2.2.2.1⟩)]
  · rw[if_neg h1,decide_eq_false (λhh:AckOk r s g m=>h1 ⟨hh.1,hh.2.1⟩)]
theorem ref_AckMay_l {l:List S47} (hn:l.length<=9223372036854775807):∀(d k i:Nat),i+d=l.length->d<k->
    watchwordref9_AckMay.l0 k l (i:Int)=some (heads (prevH l i) (l.drop i)&&decide (l.length<=4)):=by
  intro d
  induction d with
  | zero=>
    intro k i hi hk
    obtain⟨k,rfl⟩:∃m,k=m+1:=⟨k-1,by omega⟩
    simp only[watchwordref9_AckMay.l0]
    rw[if_neg (by omega),List.drop_of_length_le (by omega)]
    unfold heads
    rw[Bool.true_and]
    congr 1
    rw[Bool.eq_iff_iff,decide_eq_true_eq,decide_eq_true_eq]
    omega
  | succ d ih=>
    intro k i hi hk
    obtain⟨k,rfl⟩:∃m,k=m+1:=⟨k-1,by omega⟩
    have hlt:i<l.length:=by omega
    have h4:wrap64 ((i:Int)+1)=((i+1:Nat):Int):=by rw[wrap_id (by omega) (by omega)];omega
    have h5:wrap64 ((i:Int)-1)=(i:Int)-1:=wrap_id (by omega) (by omega)
    have hr:=ih k (i+1) (by omega) (by omega)
    simp only[watchwordref9_AckMay.l0,ref_HeadMay_f,Option.bind_some,decide_eq_true_eq]
    rw[if_pos (by omega),if_pos (by omega),h4,h5,hr,prevH_succ,dropH_at hlt]
    by_cases hc:AckOk (rd_T47 l (i:Int)).f0 (rd_T47 l (i:Int)).f1 (rd_T47 l (i:Int)).f2 (rd_T47 l (i:Int)).f3
    · rw[if_pos hc]
      by_cases h0:(i:Int)>0
      · rw[if_pos h0,if_pos (by omega),if_pos (by omega)]
        have hp:prevH l i=(rd_T47 l ((i:Int)-1)).f0 :=by unfold prevH;rw[if_neg (by omega)]
        by_cases hg:(rd_T47 l (i:Int)).f0 <=(rd_T47 l ((i:Int)-1)).f0
        · rw[if_pos hg];unfold heads;rw[if_neg (by rw[hp];omega)];rfl
        · rw[if_neg hg];conv=>rhs;unfold heads
          rw[if_pos ⟨hc,by rw[hp];omega⟩]
      · rw[if_neg h0]
        have hp:prevH l i=0:=by unfold prevH;rw[if_pos (by omega)]
        have h1:=hc.1
        conv=>rhs;unfold heads
        rw[if_pos ⟨hc,by rw[hp];omega⟩]
    · rw[if_neg hc];unfold heads;rw[if_neg (λhh=>hc hh.1)];rfl
theorem ref_AckMay_f {l:List S47} (hn:l.length<=9223372036854775807) {k:Nat} (hk:l.length<k):watchwordref9_AckMay.f k l=some (heads 0 l):=by
  have h:=ref_AckMay_l hn l.length k 0 (by omega) hk
  unfold watchwordref9_AckMay.f
  rw[show(0:Int)=((0:Nat):Int)from rfl,h]
  show some (heads 0 l&&decide (l.length<=4))=some (heads 0 l)
  by_cases g:heads 0 l=true
  · rw[g,decide_eq_true (heads_len g)];rfl
  · rw[Bool.eq_false_iff.mpr g];rfl
theorem ref_PutAck_l {l:List S47} (hn:l.length<=4):∀(d k i:Nat) (acc:List Int),i+d=l.length->d+10<k->acc.length<=10+8*i->
    watchwordref9_PutAck.l0 k l (strOfNums acc) (i:Int)=some (strOfNums (acc++(l.drop i).flatMap hbytes),0):=by
  intro d
  induction d with
  | zero=>
    intro k i acc hi hk ha
    obtain⟨k,rfl⟩:∃m,k=m+1:=⟨k-1,by omega⟩
    simp only[watchwordref9_PutAck.l0]
    rw[if_neg (by omega),List.drop_of_length_le (by omega)]
    simp
  | succ d ih=>
    intro k i acc hi hk ha
    obtain⟨k,rfl⟩:∃m,k=m+1:=⟨k-1,by omega⟩
    have hlt:i<l.length:=by omega
    have h4:wrap64 ((i:Int)+1)=((i+1:Nat):Int):=by rw[wrap_id (by omega) (by omega)];omega
    simp only[watchwordref9_PutAck.l0]
    rw[ref_Num1 (by omega),ref_Num1 (by omega),ref_Num4 (by omega),ref_Num2 (by omega)]
    simp only[Option.bind_some,strOf_append,strOf_size,List.length_append,e1_len,e2_len,e4_len]
    rw[if_pos (by omega),if_pos (by omega),if_pos (by omega),if_pos (by omega),if_pos (by omega),if_pos (by omega),h4,
      ih k (i+1) _ (by omega) (by omega) (by simp only[List.length_append,e1_len,e2_len,e4_len];omega),dropH_at hlt,List.flatMap_cons]
    simp only[hbytes,List.append_assoc]
theorem ref_PutAck_f {l:List S47} (hn:l.length<=9223372036854775807) {k:Nat} (hk:l.length+10<k):
    watchwordref9_PutAck.f k l=some (if heads 0 l=true then(strOfNums (ackBytes l),0)else(⟨#[]⟩,1100)):=by
  simp only[watchwordref9_PutAck.f,ref_AckMay_f hn (show l.length<k by omega),Option.bind_some]
  by_cases h:heads 0 l=true
  · have h4:=heads_len h
    rw[if_pos h,if_pos h,ref_Num1 (by omega),Option.bind_some]
    exact ref_PutAck_l h4 l.length k 0 (e1 (l.length:Int)) (by omega) hk (by rw[e1_len];omega)
  · rw[if_neg h,if_neg h]
def parseR:Nat->List Int->List S47
  |0,_=>[]
  |n+1,b=>headAt b::parseR n (b.drop 8)
theorem parseR_len:∀(n:Nat) (b:List Int),(parseR n b).length =n
  |0,_=>rfl
  |n+1,b=>by unfold parseR;rw[List.length_cons,parseR_len n]
def refEnd (hs:List S47):(List S47) × Int:=if heads 0 hs=true then(hs,0)else([],1100)
def refAck (b:List Int):(List S47) × Int:=if b.length=1+8*(b.getD 0 0).toNat then refEnd (parseR (b.getD 0 0).toNat (b.drop 1))else([],1100)
theorem ra_nn {a b:Nat} {ci:Int} (hc:ci=(b:Int)) (h:a+b<=9223372036854775807):wrap64 ((a:Int)+ci)=((a+b:Nat):Int):=by
  rw[hc,wrap_id (by omega) (by omega)];omega
theorem ra_lt {a b:Nat} (h:a<b):(a:Int)<(b:Int):=by omega
theorem ra_le {a b:Nat} (h:a<=b):(a:Int)<=(b:Int):=by omega
theorem ra_bt (x:ByteArray) (p j:Nat):wrap64 (bt x ((p+j:Nat):Int))=((B x).drop p).getD j 0:=by
  have h:=byt_getD (B_byt x) (p+j)
  rw[bt_B,Int.toNat_natCast,getD_drop,wrap_id (by omega) (by omega)]
theorem ra_Of (x:ByteArray) (p a b:Nat) (hab:b-a<=7) {k:Nat} (hk:8<=k):watchwordref1_Of.f k (x.extract (p+a) (p+b))=some (num ((((B x).drop p).drop a).take (b-a))):=by
  rw[ref_Of_f (by simp only[ByteArray.size_extract];omega) hk,B_extract,List.drop_drop,Nat.add_sub_add_left]
theorem ref_GetAck_l {s:ByteArray} (hs:s.size<=3000):∀(d k i:Nat) (acc:List S47),acc.length+d<=255->i+8*d=s.size->d+300<=k->
    watchwordref9_GetAck.l0 k s acc (i:Int)=some (refEnd (acc++parseR d ((B s).drop i))):=by
  intro d
  induction d with
  | zero=>
    intro k i acc ha hi hk
    obtain⟨k,rfl⟩:∃m,k=m+1:=⟨k-1,by omega⟩
    simp only[watchwordref9_GetAck.l0,parseR,List.append_nil]
    rw[if_neg (by omega),ref_AckMay_f (by omega) (by omega),Option.bind_some]
    unfold refEnd
    by_cases h:heads 0 acc=true
    · rw[if_pos h,if_pos h]
    · rw[if_neg h,if_neg h]
  | succ d ih=>
    intro k i acc ha hi hk
    obtain⟨k,rfl⟩:∃m,k=m+1:=⟨k-1,by omega⟩
    have q0:i<s.size:=by omega
    have q1:i+1<s.size:=by omega
    have q6:i+6<=s.size:=by omega
    have q8:i+8<=s.size:=by omega
    have m1:i+1<=9223372036854775807:=by omega
    have m2:i+2<=9223372036854775807:=by omega
    have m6:i+6<=9223372036854775807:=by omega
    have m8:i+8<=9223372036854775807:=by omega
    have q26:i+2<=i+6:=by omega
    have q68:i+6<=i+8:=by omega
    have ha2:acc.length<4398046511104:=by omega
    have hk8:8<=k:=by omega
    have hr:=ih k (i+8) (acc++[headAt ((B s).drop i)]) (by rw[List.length_append];simp only[List.length_cons,List.length_nil];omega) (by omega) (by omega)
    clear ih ha hi hk hs
    have w1:wrap64 ((i:Int)+1)=((i+1:Nat):Int):=ra_nn rfl m1
    have w2:wrap64 ((i:Int)+2)=((i+2:Nat):Int):=ra_nn rfl m2
    have w6:wrap64 ((i:Int)+6)=((i+6:Nat):Int):=ra_nn rfl m6
    have w8:wrap64 ((i:Int)+8)=((i+8:Nat):Int):=ra_nn rfl m8
    have v0:wrap64 (bt s (i:Int))=((B s).drop i).getD 0 0:=ra_bt s i 0
    have v1:wrap64 (bt s ((i+1:Nat):Int))=((B s).drop i).getD 1 0:=ra_bt s i 1
    simp only[watchwordref9_GetAck.l0,w1,w2,w6,w8,v0,v1,Int.toNat_natCast]
    rw[if_pos (ra_lt q0),if_pos (Int.natCast_nonneg _),if_pos (Int.natCast_nonneg _),if_pos (ra_lt q1),if_pos (Int.natCast_nonneg _),if_pos (ra_le q26),if_pos (ra_le q6),ra_Of s i 2 6 (by decide) hk8,Option.bind_some,
      if_pos (Int.natCast_nonneg _),if_pos (ra_le q68),if_pos (ra_le q8),ra_Of s i 6 8 (by decide) hk8,Option.bind_some,if_pos ha2]
    refine Eq.trans hr ?_
    rw[List.append_assoc,<-List.drop_drop]
    rfl
theorem ref_GetAck_f {s:ByteArray} (hs:s.size<=140737488351232) {k:Nat} (hk:700<=k):watchwordref9_GetAck.f k s=some (refAck (B s)):=by
  obtain⟨k,rfl⟩:∃m,k=m+1:=⟨k-1,by omega⟩
  have hl:=B_len s
  have hr:=byt_getD (B_byt s) 0
  have hb:bt s 0=(B s).getD 0 0:=by rw[bt_B];rfl
  unfold watchwordref9_GetAck.f
  by_cases h0:s.size=0
  · have hB:B s=[]:=List.eq_nil_of_length_eq_zero (by rw[hl];exact h0)
    rw[if_pos ((toList_iff_lit s []).mpr (by rw[hB];rfl))]
    simp only[watchwordref9_GetAck.j0,if_true]
    unfold refAck;rw[hB,if_neg (by decide)]
  · rw[if_neg (λe=>h0 (by have:=(toList_iff_lit s []).mp e;rw[<-hl,this];rfl)),if_pos (by omega),hb]
    unfold refAck
    rw[hl]
    generalize (B s).getD 0 0=n at hr |-
    obtain⟨n,rfl⟩:∃m:Nat,n=(m:Int):=⟨n.toNat,by omega⟩
    rw[wrap_id (x:=(n:Int)) (by omega) (by omega),wrap_id (x:=8*(n:Int)) (by omega) (by omega),wrap_id (x:=1+8*(n:Int)) (by omega) (by omega),Int.toNat_natCast]
    by_cases h1:s.size=1+8*n
    · rw[if_pos h1,show(((s.size:Int) !=1+8*(n:Int)):Bool)=false from by rw[bne_eq_false_iff_eq];omega]
      simp only[watchwordref9_GetAck.j0,Bool.false_eq_true,if_false]
      exact ref_GetAck_l (by omega) n k 1 [] (by simp only[List.length_nil];omega) (by omega) (by omega)
    · rw[if_neg h1,show(((s.size:Int) !=1+8*(n:Int)):Bool)=true from by rw[bne_iff_ne];omega]
      simp only[watchwordref9_GetAck.j0,if_true]
theorem parseR_flat:∀(l:List S47),(∀x∈l,AckOk x.f0 x.f1 x.f2 x.f3)->parseR l.length (l.flatMap hbytes)=l
  | [],_=>rfl
  | x::l,hr=>by
    rw[List.flatMap_cons,List.length_cons]
    unfold parseR
    rw[headAt_hbytes (hr x (by simp)),<-hbytes_len x,List.drop_left,parseR_flat l (λy hy=>hr y (by simp[hy]))]
theorem hbytes_headAt {b:List Int} (hb:Byt b) (h8:8<=b.length):hbytes (headAt b)++b.drop 8=b:=by
  match b,h8 with
  | c0::c1::c2::c3::c4::c5::c6::c7::r,_=>
    have g:∀x∈ [c0,c1,c2,c3,c4,c5,c6,c7],0<=x/\x<256:=λx hx=>hb x (by simp only[List.mem_cons,List.not_mem_nil,or_false]at hx |-;omega)
    have g0:=g c0 (by simp)
    have g1:=g c1 (by simp)
    have k4:=e4_num (g c2 (by simp)) (g c3 (by simp)) (g c4 (by simp)) (g c5 (by simp))
    have k2:=e2_num (g c6 (by simp)) (g c7 (by simp))
    have a0:headAt (c0::c1::c2::c3::c4::c5::c6::c7::r)=⟨c0,num [c2,c3,c4,c5],c1,num [c6,c7]⟩:=rfl
    rw[a0]
    unfold hbytes
    rw[k4,k2]
    unfold e1
    rw[Int.emod_eq_of_lt g0.1 g0.2,Int.emod_eq_of_lt g1.1 g1.2]
    rfl
theorem flat_parseR:∀(n:Nat) (b:List Int),Byt b->b.length=8*n->(parseR n b).flatMap hbytes=b
  |0,b,_,h=>by rw[List.eq_nil_of_length_eq_zero (by omega:b.length=0)];rfl
  | n+1,b,hb,h=>by
    unfold parseR
    rw[List.flatMap_cons,flat_parseR n (b.drop 8) (byt_drop 8 hb) (by rw[List.length_drop];omega),hbytes_headAt hb (by omega)]
theorem refAck_eq {b:List Int} (hb:Byt b):refAck b=getAck b:=by
  unfold refAck
  have hr:=byt_getD hb 0
  by_cases h1:b.length=1+8*(b.getD 0 0).toNat
  · rw[if_pos h1]
    unfold refEnd
    by_cases h2:heads 0 (parseR (b.getD 0 0).toNat (b.drop 1))=true
    · rw[if_pos h2]
      have hn:=parseR_len (b.getD 0 0).toNat (b.drop 1)
      have hf:=flat_parseR (b.getD 0 0).toNat (b.drop 1) (byt_drop 1 hb) (by rw[List.length_drop];omega)
      have hB:ackBytes (parseR (b.getD 0 0).toNat (b.drop 1))=b:=by
        unfold ackBytes
        rw[hf,hn]
        match b,h1 with
        | c::r,_=>
          have:(((c::r).getD 0 0).toNat :Int)=c:=Int.toNat_of_nonneg hr.1
          have hc:0<=c/\c<256:=hr
          rw[this]
          unfold e1
          rw[Int.emod_eq_of_lt hc.1 hc.2]
          rfl
      have:=get_ack h2
      rw[hB]at this
      exact this.symm
    · rw[if_neg h2]
      by_cases h3:(getAck b).2 =0
      · exfalso
        obtain⟨g1,g2⟩:=getAck_ok h3
        generalize (getAck b).1 =l at g1 g2
        have h4:=heads_len g1
        subst g2
        have hd:(ackBytes l).drop 1=l.flatMap hbytes:=by unfold ackBytes;rw[<-e1_len (l.length:Int),List.drop_left]
        have h0:(ackBytes l).getD 0 0=(l.length:Int):=by
          have:(ackBytes l).getD 0 0=(l.length:Int) % 256:=rfl
          rw[this];omega
        rw[h0,Int.toNat_natCast,hd,parseR_flat l (heads_range l 0 g1)]at h2
        exact h2 g1
      · exact(getAck_no h3).symm
  · rw[if_neg h1]
    by_cases h3:(getAck b).2 =0
    · exfalso
      obtain⟨g1,g2⟩:=getAck_ok h3
      generalize (getAck b).1 =l at g1 g2
      have h4:=heads_len g1
      subst g2
      have h0:(ackBytes l).getD 0 0=(l.length:Int):=by
        have:(ackBytes l).getD 0 0=(l.length:Int) % 256:=rfl
        rw[this];omega
      have hfl:∀m:List S47,(m.flatMap hbytes).length =8*m.length:=by
        intro m
        induction m with
        |nil=>rfl
        |cons x m ih=>rw[List.flatMap_cons,List.length_append,hbytes_len,List.length_cons,ih];omega
      apply h1
      rw[h0,Int.toNat_natCast]
      unfold ackBytes
      rw[List.length_append,e1_len,hfl]
    · exact(getAck_no h3).symm
end Ak
def PkOk (t r:Int) (xs:List Int) (us:List S45) (hs:List S47):Prop:=
  (1<=r/\r<=4)/\((t=1/\He.heard 0 xs=true/\us=[]/\hs=[])\/(t=4/\upd 0 us=true/\xs=[]/\hs=[])\/(t=5/\Ak.heads 0 hs=true/\xs=[]/\us=[]))
instance (t r:Int) (xs:List Int) (us:List S45) (hs:List S47):Decidable (PkOk t r xs us hs):=by unfold PkOk;infer_instance
def plist (t:Int) (xs:List Int) (us:List S45) (hs:List S47):List Int:=if t=1 then He.helloBytes xs else if t=4 then updB us else Ak.ackBytes hs
def pbytes (t r:Int) (xs:List Int) (us:List S45) (hs:List S47):List Int:=Hd.hdr t r (12+((plist t xs us hs).length :Int))++plist t xs us hs
theorem updB_len {l:List S45} (h:upd 0 l=true):(updB l).length <=85:=by
  have h4:=upd_len h
  have:∀m:List S45,(∀x∈m,UsOk x)->(m.flatMap ubytes).length <=21*m.length:=by
    intro m
    induction m with
    |nil=>intro _;simp
    | cons x m ih=>
      intro hm
      have h1:=ih (λy hy=>hm y (by simp[hy]))
      have h2:=usOk_len (hm x (by simp))
      rw[List.flatMap_cons,List.length_append,ubytes_len,List.length_cons]
      omega
  have h5:=this l (upd_ok l 0 h)
  unfold updB
  rw[List.length_append,e1_len]
  omega
theorem ackB_len {l:List S47} (h:Ak.heads 0 l=true):(Ak.ackBytes l).length <=33:=by
  have h4:=Ak.heads_len h
  have:∀m:List S47,(m.flatMap Ak.hbytes).length =8*m.length:=by
    intro m
    induction m with
    |nil=>rfl
    |cons x m ih=>rw[List.flatMap_cons,List.length_append,Ak.hbytes_len,List.length_cons,ih];omega
  unfold Ak.ackBytes
  rw[List.length_append,e1_len,this]
  omega
theorem plist_len {t r:Int} {xs:List Int} {us:List S45} {hs:List S47} (h:PkOk t r xs us hs):(plist t xs us hs).length <=85:=by
  rcases h.2 with⟨rfl,h,_,_⟩|⟨rfl,h,_,_⟩|⟨rfl,h,_,_⟩
  · have:=He.heard_len h
    unfold plist;rw[if_pos rfl];simp only[He.helloBytes,List.length_cons];omega
  · unfold plist;rw[if_neg (by decide),if_pos rfl];exact updB_len h
  · unfold plist;rw[if_neg (by decide),if_neg (by decide)];have:=ackB_len h;omega
theorem plist_byt {t r:Int} {xs:List Int} {us:List S45} {hs:List S47} (h:PkOk t r xs us hs):Byt (plist t xs us hs):=by
  rcases h.2 with⟨rfl,h,_,_⟩|⟨rfl,h,_,_⟩|⟨rfl,h,_,_⟩
  · unfold plist;rw[if_pos rfl];exact He.helloBytes_byt h
  · unfold plist;rw[if_neg (by decide),if_pos rfl];exact updB_byt _
  · unfold plist;rw[if_neg (by decide),if_neg (by decide)];exact Ak.ackBytes_byt _
theorem pbytes_len (t r:Int) (xs:List Int) (us:List S45) (hs:List S47):(pbytes t r xs us hs).length =12+(plist t xs us hs).length :=by
  unfold pbytes;rw[List.length_append,Hd.hdr_len]
theorem pbytes_byt {t r:Int} {xs:List Int} {us:List S45} {hs:List S47} (h:PkOk t r xs us hs):Byt (pbytes t r xs us hs):=byt_append (Hd.hdr_byt _ _ _) (plist_byt h)
theorem pk_head {t r:Int} {xs:List Int} {us:List S45} {hs:List S47} (h:PkOk t r xs us hs):Hd.HeadOk t r (12+((plist t xs us hs).length :Int)):=by
  have h1:=plist_len h
  refine⟨?_,h.1.1,h.1.2,by omega,by omega⟩
  rcases h.2 with⟨h,_⟩|⟨h,_⟩|⟨h,_⟩
  · exact .inl h
  · exact .inr (.inl h)
  · exact .inr (.inr h)
def listR (t:Int) (xs:List Int) (us:List S45) (hs:List S47):ByteArray × Bool:=
  if t=1 then(if He.heard 0 xs=true then(strOfNums (He.helloBytes xs),decide (us=[]/\hs=[]))else(⟨#[]⟩,false))
  else if t=4 then(if upd 0 us=true then(strOfNums (updB us),decide (xs=[]/\hs=[]))else(⟨#[]⟩,false))
  else if t=5 then(if Ak.heads 0 hs=true then(strOfNums (Ak.ackBytes hs),decide (xs=[]/\us=[]))else(⟨#[]⟩,false))
  else(⟨#[]⟩,false)
theorem many_eq {α β:Type} {a b c:Nat} (ha:a<=1000000000000000000) (hb:b<=1000000000000000000) (hc:c<=1000000000000000000):
    (wrap64 ((wrap64 ((wrap64 ((a:Int)+(b:Int)))+(c:Int)))-(a:Int))==0)=decide (b=0/\c=0)
    /\(wrap64 ((wrap64 ((wrap64 ((a:Int)+(b:Int)))+(c:Int)))-(b:Int))==0)=decide (a=0/\c=0)
    /\(wrap64 ((wrap64 ((wrap64 ((a:Int)+(b:Int)))+(c:Int)))-(c:Int))==0)=decide (a=0/\b=0):=by
  rw[wrap_id (x:=(a:Int)+(b:Int)) (by omega) (by omega),wrap_id (x:=(a:Int)+(b:Int)+(c:Int)) (by omega) (by omega),wrap_id (x:=(a:Int)+(b:Int)+(c:Int)-(a:Int)) (by omega) (by omega),
    wrap_id (x:=(a:Int)+(b:Int)+(c:Int)-(b:Int)) (by omega) (by omega),wrap_id (x:=(a:Int)+(b:Int)+(c:Int)-(c:Int)) (by omega) (by omega)]
  refine⟨?_,?_,?_⟩ <;> rw[Bool.eq_iff_iff,beq_iff_eq,decide_eq_true_eq] <;> omega
theorem nil_len {α β:Type} (l:List α) (m:List β):decide (l.length=0/\m.length=0)=decide (l=[]/\m=[]):=by
  rw[Bool.eq_iff_iff,decide_eq_true_eq,decide_eq_true_eq,List.length_eq_zero_iff,List.length_eq_zero_iff]
theorem packet_list_f {t r:Int} {xs:List Int} {us:List S45} {hs:List S47} {M:Nat} (hx:xs.length<=1000000000000000000) (ha:us.length<=1000000000000000000) (hh:hs.length<=1000000000000000000)
    (hM:∀x∈us,x.f3.length<M) (hM2:M<=9223372036854775807) {k:Nat} (hk:xs.length+us.length+hs.length+M<k) (hk2:35<=k):
    packet_list.f k t r xs us hs=some (listR t xs us hs):=by
  obtain⟨m1,m2,m3⟩:=many_eq (α:=Int) (β:=Int) hx ha hh
  unfold packet_list.f listR
  by_cases h1:t=1
  · rw[if_pos h1,if_pos h1,He.hello_Put_f (by omega) (show xs.length<k by omega),Option.bind_some]
    by_cases h:He.heard 0 xs=true
    · rw[if_pos h,if_pos h,if_pos rfl,m1,nil_len]
    · rw[if_neg h,if_neg h,if_neg (by decide)]
  rw[if_neg h1,if_neg h1]
  by_cases h4:t=4
  · rw[if_pos h4,if_pos h4,update_Put_f (by omega) hM hM2 (show us.length+M<k by omega) hk2,Option.bind_some]
    by_cases h:upd 0 us=true
    · rw[if_pos h,if_pos h,if_pos rfl,m2,nil_len]
    · rw[if_neg h,if_neg h,if_neg (by decide)]
  rw[if_neg h4,if_neg h4]
  by_cases h5:t=5
  · rw[if_pos h5,if_pos h5,Ak.ack_Put_f (by omega) (show hs.length<k by omega),Option.bind_some]
    by_cases h:Ak.heads 0 hs=true
    · rw[if_pos h,if_pos h,if_pos rfl,m3,nil_len]
    · rw[if_neg h,if_neg h,if_neg (by decide)]
  rw[if_neg h5,if_neg h5]
theorem listR_true {t:Int} {xs:List Int} {us:List S45} {hs:List S47} (h:(listR t xs us hs).2 =true) (r:Int) (hr:1<=r/\r<=4):
    PkOk t r xs us hs/\listR t xs us hs=(strOfNums (plist t xs us hs),true):=by
  unfold listR at h |-
  by_cases h1:t=1
  · rw[if_pos h1]at h |-
    by_cases g:He.heard 0 xs=true
    · rw[if_pos g]at h |-
      have e:=of_decide_eq_true h
      exact⟨⟨hr,.inl ⟨h1,g,e⟩⟩,by unfold plist;rw[if_pos h1,decide_eq_true e]⟩
    · rw[if_neg g]at h;cases h
  rw[if_neg h1]at h |-
  by_cases h4:t=4
  · rw[if_pos h4]at h |-
    by_cases g:upd 0 us=true
    · rw[if_pos g]at h |-
      have e:=of_decide_eq_true h
      exact⟨⟨hr,.inr (.inl ⟨h4,g,e⟩)⟩,by unfold plist;rw[if_neg h1,if_pos h4,decide_eq_true e]⟩
    · rw[if_neg g]at h;cases h
  rw[if_neg h4]at h |-
  by_cases h5:t=5
  · rw[if_pos h5]at h |-
    by_cases g:Ak.heads 0 hs=true
    · rw[if_pos g]at h |-
      have e:=of_decide_eq_true h
      exact⟨⟨hr,.inr (.inr ⟨h5,g,e⟩)⟩,by unfold plist;rw[if_neg h1,if_neg h4,decide_eq_true e]⟩
    · rw[if_neg g]at h;cases h
  rw[if_neg h5]at h;cases h
theorem listR_ok {t r:Int} {xs:List Int} {us:List S45} {hs:List S47} (h:PkOk t r xs us hs):(listR t xs us hs).2 =true:=by
  unfold listR
  rcases h.2 with⟨rfl,g,e⟩|⟨rfl,g,e⟩|⟨rfl,g,e⟩
  · rw[if_pos rfl,if_pos g];exact decide_eq_true e
  · rw[if_neg (by decide),if_pos rfl,if_pos g];exact decide_eq_true e
  · rw[if_neg (by decide),if_neg (by decide),if_pos rfl,if_pos g];exact decide_eq_true e
theorem listR_size (t:Int) (xs:List Int) (us:List S45) (hs:List S47):(listR t xs us hs).1.size <=85:=by
  unfold listR
  by_cases h1:t=1
  · rw[if_pos h1]
    by_cases g:He.heard 0 xs=true
    · rw[if_pos g];have:=He.heard_len g;simp only[strOf_size,He.helloBytes,List.length_cons];omega
    · rw[if_neg g];exact Nat.zero_le _
  rw[if_neg h1]
  by_cases h4:t=4
  · rw[if_pos h4]
    by_cases g:upd 0 us=true
    · rw[if_pos g];have:=updB_len g;simp only[strOf_size];exact this
    · rw[if_neg g];exact Nat.zero_le _
  rw[if_neg h4]
  by_cases h5:t=5
  · rw[if_pos h5]
    by_cases g:Ak.heads 0 hs=true
    · rw[if_pos g];have:=ackB_len g;simp only[strOf_size];omega
    · rw[if_neg g];exact Nat.zero_le _
  rw[if_neg h5];exact Nat.zero_le _
theorem packet_Put_f {t r:Int} {xs:List Int} {us:List S45} {hs:List S47} {M:Nat} (hx:xs.length<=1000000000000000000) (ha:us.length<=1000000000000000000) (hh:hs.length<=1000000000000000000)
    (hM:∀x∈us,x.f3.length<M) (hM2:M<=9223372036854775807) {k:Nat} (hk:xs.length+us.length+hs.length+M<k) (hk2:35<=k):
    packet_Put.f k t r xs us hs=some (if PkOk t r xs us hs then(strOfNums (pbytes t r xs us hs),0)else(⟨#[]⟩,1200)):=by
  have hz:=listR_size t xs us hs
  unfold packet_Put.f
  rw[packet_list_f hx ha hh hM hM2 hk hk2,Option.bind_some,Hd.head_Put_f (by omega),Option.bind_some,wrap_id (by omega) (by omega)]
  by_cases h2:(listR t xs us hs).2 =true
  · rw[if_pos h2]
    by_cases hr:1<=r/\r<=4
    · obtain⟨hp,e⟩:=listR_true h2 r hr
      have hl:=plist_len hp
      rw[e,if_pos (show Hd.HeadOk t r (12+(((strOfNums (plist t xs us hs)).size :Nat):Int))by rw[strOf_size];exact pk_head hp),if_pos hp]
      simp only[strOf_size,if_true]
      rw[if_pos (by rw[Hd.hdr_len];omega),strOf_append];rfl
    · rw[if_neg (λhh:Hd.HeadOk t r _=>hr ⟨hh.2.1,hh.2.2.1⟩),if_neg (λhh:PkOk t r xs us hs=>hr hh.1),if_neg (by decide)]
  · rw[if_neg h2,if_neg (λhh=>h2 (listR_ok hh))]
def getPkt (b:List Int):Option (Int × Int × List Int × List S45 × List S47):=
  if(Hd.getHead b).2.2.2 =0/\(Hd.getHead b).2.2.1 =(b.length:Int)then
    (if(Hd.getHead b).1 =1 then(if(He.getHello (b.drop 12)).2 =0 then some ((Hd.getHead b).1,(Hd.getHead b).2.1,(He.getHello (b.drop 12)).1,[],[])else none)
    else if(Hd.getHead b).1 =4 then(match getUpd (b.drop 12)with|some out=>some ((Hd.getHead b).1,(Hd.getHead b).2.1,[],out,[])|none=>none)
    else(if(Ak.getAck (b.drop 12)).2 =0 then some ((Hd.getHead b).1,(Hd.getHead b).2.1,[],[],(Ak.getAck (b.drop 12)).1)else none))
  else none
def tellP:Option (Int × Int × List Int × List S45 × List S47)->Int × Int × List Int × List S45 × List S47 × Int
  |some (t,r,xs,us,hs)=>(t,r,xs,us,hs,0)
  |none=>(0,0,[],[],[],1200)
theorem getHead_ok {b:List Int} (h:(Hd.getHead b).2.2.2 =0):Hd.HeadOk (Hd.getHead b).1 (Hd.getHead b).2.1 (Hd.getHead b).2.2.1 /\Hd.hdr (Hd.getHead b).1 (Hd.getHead b).2.1 (Hd.getHead b).2.2.1 =b.take 12/\12<=b.length:=by
  unfold Hd.getHead at h |-
  by_cases h0:b.length<12
  · rw[if_pos h0]at h;exact absurd h (by decide)
  rw[if_neg h0]at h |-
  by_cases h1:Hd.HeadOk (b.getD 1 0) (num ((b.drop 4).take 4)) (num ((b.drop 2).take 2))/\Hd.hdr (b.getD 1 0) (num ((b.drop 4).take 4)) (num ((b.drop 2).take 2))=b.take 12
  · rw[if_pos h1];exact⟨h1.1,h1.2,by omega⟩
  · rw[if_neg h1]at h;exact absurd h (by decide)
theorem getHello_no {b:List Int} (h:¬(He.getHello b).2 =0):¬((He.getHello b).2 =0):=h
theorem packet_Get_f {a:ByteArray} (hs:a.size<=140737488355328) {k:Nat} (hk:2000<=k):packet_Get.f k a=some (tellP (getPkt (B a))):=by
  obtain⟨k,rfl⟩:∃m,k=m+1:=⟨k-1,by omega⟩
  have hbl:=B_len a
  unfold packet_Get.f getPkt
  rw[Hd.head_Get_f (by omega),Option.bind_some]
  by_cases h0:(Hd.getHead (B a)).2.2.2 =0
  · rw[if_pos h0]
    obtain⟨g1,g2,g3⟩:=getHead_ok h0
    by_cases h1:(Hd.getHead (B a)).2.2.1 =(a.size:Int)
    · rw[show((Hd.getHead (B a)).2.2.1 !=(a.size:Int))=false from by rw[h1];exact bne_self_eq_false _,if_pos (⟨h0,by rw[h1,hbl]⟩:(Hd.getHead (B a)).2.2.2 =0/\(Hd.getHead (B a)).2.2.1 =((B a).length :Int))]
      have hz:a.size<=512:=by have:=g1.2.2.2.2;omega
      have hz2:(a.extract 12 a.size).size <=512:=by rw[size_tail];omega
      simp only[packet_Get.j0,Bool.false_eq_true,if_false]
      rw[if_pos (by omega)]
      generalize Hd.getHead (B a)=g at*
      by_cases h2:g.1=1
      · rw[if_pos h2,if_pos h2,He.hello_Get_f (by omega) (by omega),Option.bind_some,B_tail]
        by_cases h3:(He.getHello ((B a).drop 12)).2 =0
        · rw[if_pos h3,if_pos h3];rfl
        · rw[if_neg h3,if_neg h3];rfl
      rw[if_neg h2,if_neg h2]
      by_cases h4:g.1=4
      · rw[if_pos h4,if_pos h4,update_Get_f (by omega) (by omega),Option.bind_some,B_tail]
        cases hg:getUpd ((B a).drop 12)with
        |none=>simp only[tellU];exact(if_neg (show ¬((1000:Int)=0)by decide)).trans rfl
        |some out=>simp only[tellU,if_true];rfl
      rw[if_neg h4,if_neg h4,Ak.ack_Get_f (by omega) (by omega),Option.bind_some,B_tail]
      by_cases h3:(Ak.getAck ((B a).drop 12)).2 =0
      · rw[if_pos h3,if_pos h3];rfl
      · rw[if_neg h3,if_neg h3];rfl
    · rw[show((Hd.getHead (B a)).2.2.1 !=(a.size:Int))=true from bne_iff_ne.mpr h1,if_neg (λhh:(Hd.getHead (B a)).2.2.2 =0/\(Hd.getHead (B a)).2.2.1 =((B a).length :Int)=>h1 (by rw[hh.2,hbl]))]
      simp only[packet_Get.j0,if_true];rfl
  · rw[if_neg h0,if_neg (λhh:(Hd.getHead (B a)).2.2.2 =0/\(Hd.getHead (B a)).2.2.1 =((B a).length :Int)=>h0 hh.1)]
    simp only[packet_Get.j0,if_true];rfl
theorem getPkt_put {t r:Int} {xs:List Int} {us:List S45} {hs:List S47} (h:PkOk t r xs us hs):getPkt (pbytes t r xs us hs)=some (t,r,xs,us,hs):=by
  have hh:=pk_head h
  have hl:=pbytes_len t r xs us hs
  unfold getPkt
  rw[show Hd.getHead (pbytes t r xs us hs)=_ from Hd.get_hdr hh _,show(pbytes t r xs us hs).drop 12=plist t xs us hs from by
    unfold pbytes;rw[<-Hd.hdr_len t r (12+((plist t xs us hs).length :Int)),List.drop_left],hl]
  simp only
  rw[if_pos (by constructor <;> first|trivial|omega)]
  have p1:plist 1 xs us hs=He.helloBytes xs:=by unfold plist;rw[if_pos rfl]
  have p4:plist 4 xs us hs=updB us:=by unfold plist;rw[if_neg (by decide),if_pos rfl]
  have p5:plist 5 xs us hs=Ak.ackBytes hs:=by unfold plist;rw[if_neg (by decide),if_neg (by decide)]
  rcases h.2 with⟨rfl,g,rfl,rfl⟩|⟨rfl,g,rfl,rfl⟩|⟨rfl,g,rfl,rfl⟩
  · rw[p1,if_pos rfl,He.get_put g];rfl
  · rw[p4,if_neg (show ¬((4:Int)=1)by decide),if_pos rfl,getUpd_put g]
  · rw[p5,if_neg (show ¬((5:Int)=1)by decide),if_neg (show ¬((5:Int)=4)by decide),Ak.get_ack g];rfl
theorem getHello_ok {b:List Int} (h:(He.getHello b).2 =0):He.heard 0 (He.getHello b).1 =true/\He.helloBytes (He.getHello b).1 =b:=by
  unfold He.getHello at h |-
  by_cases hc:He.heard 0 (b.drop 1)=true/\He.helloBytes (b.drop 1)=b
  · rw[if_pos hc];exact hc
  · rw[if_neg hc]at h;exact absurd h (by decide)
theorem getPkt_some {b:List Int} {t r:Int} {xs:List Int} {us:List S45} {hs:List S47} (h:getPkt b=some (t,r,xs,us,hs)):PkOk t r xs us hs/\pbytes t r xs us hs=b:=by
  unfold getPkt at h
  by_cases h0:(Hd.getHead b).2.2.2 =0/\(Hd.getHead b).2.2.1 =(b.length:Int)
  · rw[if_pos h0]at h
    obtain⟨g1,g2,g3⟩:=getHead_ok h0.1
    have hsz:=h0.2
    have key:∀l:List Int,l=b.drop 12->Hd.hdr (Hd.getHead b).1 (Hd.getHead b).2.1 (12+(l.length:Int))++l=b:=by
      intro l hl
      have:12+(l.length:Int)=(Hd.getHead b).2.2.1 :=by rw[hl,List.length_drop,hsz];omega
      rw[this,g2,hl,List.take_append_drop]
    clear h0 g2
    generalize Hd.getHead b=g at*
    by_cases h2:g.1=1
    · rw[if_pos h2]at h
      by_cases h3:(He.getHello (b.drop 12)).2 =0
      · rw[if_pos h3]at h
        obtain⟨q1,q2⟩:=getHello_ok h3
        simp only[Option.some.injEq,Prod.mk.injEq]at h
        obtain⟨rfl,rfl,rfl,rfl,rfl⟩:=h
        refine⟨⟨⟨g1.2.1,g1.2.2.1⟩,.inl ⟨h2,q1,rfl,rfl⟩⟩,?_⟩
        unfold pbytes plist;rw[if_pos h2]
        exact key _ q2
      · rw[if_neg h3]at h;cases h
    rw[if_neg h2]at h
    by_cases h4:g.1=4
    · rw[if_pos h4]at h
      cases hg:getUpd (b.drop 12)with
      |none=>rw[hg]at h;cases h
      | some out=>
        rw[hg]at h
        obtain⟨q1,q2⟩:=getUpd_some hg
        simp only[Option.some.injEq,Prod.mk.injEq]at h
        obtain⟨rfl,rfl,rfl,rfl,rfl⟩:=h
        refine⟨⟨⟨g1.2.1,g1.2.2.1⟩,.inr (.inl ⟨h4,q1,rfl,rfl⟩)⟩,?_⟩
        unfold pbytes plist;rw[if_neg h2,if_pos h4]
        exact key _ q2
    rw[if_neg h4]at h
    by_cases h3:(Ak.getAck (b.drop 12)).2 =0
    · rw[if_pos h3]at h
      obtain⟨q1,q2⟩:=Ak.getAck_ok h3
      simp only[Option.some.injEq,Prod.mk.injEq]at h
      obtain⟨rfl,rfl,rfl,rfl,rfl⟩:=h
      have h5:g.1=5:=by rcases g1.1 with h|h|h <;> omega
      refine⟨⟨⟨g1.2.1,g1.2.2.1⟩,.inr (.inr ⟨h5,q1,rfl,rfl⟩)⟩,?_⟩
      unfold pbytes plist;rw[if_neg h2,if_neg h4]
      exact key _ q2
    · rw[if_neg h3]at h;cases h
  · rw[if_neg h0]at h;cases h
theorem pbytes_inj {t r:Int} {xs:List Int} {us:List S45} {hs:List S47} {t' r':Int} {xs':List Int} {us':List S45} {hs':List S47} (h:PkOk t r xs us hs) (h':PkOk t' r' xs' us' hs')
    (e:pbytes t r xs us hs=pbytes t' r' xs' us' hs'):t=t'/\r=r'/\xs=xs'/\us=us'/\hs=hs':=by
  have h1:=getPkt_put h
  rw[e,getPkt_put h']at h1
  simp only[Option.some.injEq,Prod.mk.injEq]at h1
  obtain⟨rfl,rfl,rfl,rfl,rfl⟩:=h1
  exact⟨rfl,rfl,rfl,rfl,rfl⟩
theorem SameP_f {t r:Int} {xs:List Int} {us:List S45} {hs:List S47} {t' r':Int} {xs':List Int} {us':List S45} {hs':List S47} {M:Nat} (hx:xs.length<=1000000000000000000) (ha:us.length<=1000000000000000000) (hh:hs.length<=1000000000000000000)
    (hM:∀x∈us,x.f3.length<M) (hM2:M<=9223372036854775807) {k:Nat} (hk:xs.length+us.length+hs.length+M<k):
    watchwordlaw0_SamePacket.f k t r xs us hs t' r' xs' us' hs'=some (decide (t=t'/\r=r'/\xs=xs'/\us=us'/\hs=hs')):=by
  unfold watchwordlaw0_SamePacket.f
  rw[He.SameInts_f (by omega) (show xs.length<k by omega),SameU_f (by omega) hM hM2 (show us.length+M<k by omega),Ak.SameH_f (by omega) (show hs.length<k by omega)]
  simp only[Option.bind_some,decide_eq_true_eq]
  by_cases h1:t=t'
  · by_cases h2:r=r'
    · by_cases h3:xs=xs'
      · by_cases h4:us=us'
        · rw[if_pos h1,if_pos h2,if_pos h3,if_pos h4];simp[h1,h2,h3,h4]
        · rw[if_pos h1,if_pos h2,if_pos h3,if_neg h4];simp[h4]
      · rw[if_pos h1,if_pos h2,if_neg h3];simp[h3]
    · rw[if_pos h1,if_neg h2];simp[h2]
  · rw[if_neg h1];simp[h1]
theorem awake_ok {k:Nat} (hk:800<=k):watchwordlaw12_awake.f k=some true:=
  at_rounds (g:=λk=>watchwordlaw12_awake.f k) watchwordlaw12_awake.mono hk (by decide+kernel)
end Go.Proofs.Ytbajimbccbckkaa.L12
