/- Written by a program of this session (out of what the print wrote for this seat): the functions' walks, packed. -/
import Derived.Test.YtbajimbccbckkaaZ12kx2
namespace Go.Proofs.Ytbajimbccbckkaa.Q12k
open Go.RowKit Go.Proofs.Ytbajimbccbckkaa.Stp Go.Proofs.YtbajimbccbckkaaW.PrintWords Go.Proofs.YtbajimbccbckkaaW.PrintLast Go.Proofs.YtbajimbccbckkaaW.PrintMore
attribute [local go_sem] max2_int min2_int max_two min_two max_three min_three max_four min_four
set_option linter.unusedVariables false
set_option linter.unusedSimpArgs false
def watchwordref1_Of.l0:Nat->ByteArray->Int->Int->Option (Int)
 |0,_,_,_=>none
 |k+1,x0,x3,x4=>if x4<(x0.size:Int)then(if 0<=x4 then(watchwordref1_Of.l0 k x0 (Go.bits .or .i64 (wrap64 (x3*256)) (wrap64 (bt x0 x4))) (wrap64 (x4+1)))else(none))else(some x3)
def watchwordref1_Of.f (k:Nat) (a0:ByteArray):Option (Int):=watchwordref1_Of.l0 k a0 0 0
theorem watchwordref1_Of.mono_l:∀k,(∀y0 y1 y2,LeO (watchwordref1_Of.l0 k y0 y1 y2) (watchwordref1_Of.l0 (k+1) y0 y1 y2))
 |0=>λ_ _ _ r h=>by simp[watchwordref1_Of.l0]at h
 |k+1=>by
  have ih0:=watchwordref1_Of.mono_l k
  ·intro y0 y1 y2
   unfold watchwordref1_Of.l0
   repeat' (with_reducible first|exact ih0 _ _ _|exact LeO.refl _|exact LeO.none _|refine LeO.ite ?_ ?_ |refine LeO.bind ?_ (λ_=>?_))
theorem watchwordref1_Of.mono:∀a0 k,LeO (watchwordref1_Of.f k a0) (watchwordref1_Of.f (k+1) a0):=by
 intro a0 k;have ih0:=watchwordref1_Of.mono_l k;unfold watchwordref1_Of.f
 repeat' (with_reducible first|exact ih0 _ _ _|exact LeO.refl _|exact LeO.none _|refine LeO.ite ?_ ?_ |refine LeO.bind ?_ (λ_=>?_))
set_option maxHeartbeats 8000000 in
set_option maxRecDepth 100000 in
theorem watchwordref1_Of.calls (k:Nat) (a0:ByteArray) (r:Int) (w:World) (h:watchwordref1_Of.f k a0=some r):
  Calls Try.prog 60 #[.string a0] w λe w'=>e= .returned (.int .i64 r)/\Drawn0 w w':=by
 have H:(watchwordref1_Of.l0 k a0 0 0)=some r:=h;clear h;have H':=Aside0.mk H;clear H
 go_enter Try.func60,Try.ntmps60
 go_wp2
 go_loopg [3,4] k (λkq v3 v4 w'=>∃(x1:Int) (x2:Int),v3= .int .i64 x1/\v4= .int .i64 x2/\Aside0 (watchwordref1_Of.l0 kq a0 x1 x2=some r)/\Aside0 (kq<=k)/\Drawn0 w w')
 case atStart=>exact⟨(0),(0),mK,mK,H',⟨Nat.le_refl _⟩,by repeat (first|exact Drawn0.refl _|apply Drawn0.step)⟩
 case round=>
  clear H';obtain⟨x1,x2,rfl,rfl,HA,HK1,⟨m1,rfl⟩⟩:=hrel;cases gk with
  |zero=>exact absurd HA.out (by simp[watchwordref1_Of.l0])
  |succ k1=>
   have H:=HA.out;clear HA;simp only[watchwordref1_Of.l0]at H
   by_cases c2:x2<(a0.size:Int)
   ·rw[if_pos c2]at H
    have c4:=decide_eq_true c2;clear c2
    by_cases c3:0<=x2
    ·rw[if_pos c3]at H
     have c9:=decide_eq_true c3;clear c3;have H':=Aside0.mk H;clear H;have p4:0<=(x2:Int):=of_decide_eq_true mE;have q4:x2<(a0.size:Int):=of_decide_eq_true mE;have hx4:=bt_at a0 x2;replace p4:=eq_true p4;replace q4:=eq_true q4;go_wp2
     go_roundg k1
     case measure=>have:=HK1.out;omega
     case rel=>exact⟨(Go.bits .or .i64 (wrap64 (x1*256)) (wrap64 (bt a0 x2))),(wrap64 (x2+1)),mK,mK,H',⟨by have:=HK1.out;omega⟩,by repeat (first|exact Drawn0.refl _|apply Drawn0.step)⟩
    ·rw[if_neg c3]at H
     exact absurd H mAM
   ·rw[if_neg c2]at H
    have c4:=decide_eq_false c2;clear c2;obtain rfl:=Option.some.inj H;go_wp2;go_ret;exact⟨by first|rfl|(simp;done)|(simp[*];done),by repeat (first|exact Drawn0.refl _|apply Drawn0.step)⟩
def watchwordref1_GetHead.f (k:Nat) (a0:ByteArray):Option (Int × Int × Int × Int):=if(a0.size:Int)<12 then(some (0,0,0,800))else(if 1<(a0.size:Int)then(if 2<=4 then(if 4<=(a0.size:Int)then((watchwordref1_Of.f k (a0.extract 2 4)).bind λt371=>(if 4<=8 then(if 8<=(a0.size:Int)then((watchwordref1_Of.f k (a0.extract 4 8)).bind λt372=>((watchwordref1_PutHead.f k (wrap64 (bt a0 1)) t372 t371).bind λbt373=>(if bt373.2=0 then(if 0<=12 then(if 12<=(a0.size:Int)then(if bt373.1.toList=(a0.extract 0 12).toList then(some (wrap64 (bt a0 1),t372,t371,0))else(some (0,0,0,800)))else(none))else(none))else(some (0,0,0,800)))))else(none))else(none)))else(none))else(none))else(none))
theorem watchwordref1_GetHead.mono:∀a0 k,LeO (watchwordref1_GetHead.f k a0) (watchwordref1_GetHead.f (k+1) a0):=by
 intro a0 k;unfold watchwordref1_GetHead.f
 repeat' (with_reducible first|exact watchwordref1_Of.mono _ _|exact watchwordref1_PutHead.mono _ _ _ _|exact LeO.refl _|exact LeO.none _|refine LeO.ite ?_ ?_ |refine LeO.bind ?_ (λ_=>?_))
set_option maxHeartbeats 8000000 in
set_option maxRecDepth 100000 in
theorem watchwordref1_GetHead.calls (k:Nat) (a0:ByteArray) (r1:Int) (r2:Int) (r3:Int) (r4:Int) (w:World) (h:watchwordref1_GetHead.f k a0=some (r1,r2,r3,r4)):
  Calls Try.prog 30 #[.string a0] w λe w'=>e= .returned (.tuple #[.int .i64 r1,.int .i64 r2,.int .i64 r3,.int .i64 r4])/\Below w.heap.size w w':=by
 have HB:=Aside0.mk (Below.refl w.heap.size w);have H:(if(a0.size:Int)<12 then(some (0,0,0,800))else(if 1<(a0.size:Int)then(if 2<=4 then(if 4<=(a0.size:Int)then((watchwordref1_Of.f k (a0.extract 2 4)).bind λt0=>(if 4<=8 then(if 8<=(a0.size:Int)then((watchwordref1_Of.f k (a0.extract 4 8)).bind λt1=>((watchwordref1_PutHead.f k (wrap64 (bt a0 1)) t1 t0).bind λbt373=>(if bt373.2=0 then(if 0<=12 then(if 12<=(a0.size:Int)then(if bt373.1.toList=(a0.extract 0 12).toList then(some (wrap64 (bt a0 1),t1,t0,0))else(some (0,0,0,800)))else(none))else(none))else(some (0,0,0,800)))))else(none))else(none)))else(none))else(none))else(none)))=some (r1,r2,r3,r4):=h;clear h
 by_cases c2:(a0.size:Int)<12
 ·rw[if_pos c2]at H
  have c4:=decide_eq_true c2;have ca:decide (a0.size<12)=true:=decide_eq_true mBQ;clear c2;simp only[Option.some.injEq,Prod.mk.injEq]at H;obtain⟨rfl,rfl,rfl,rfl⟩:=H
  go_enter Try.func30,Try.ntmps30
  go_wp2
  repeat (go_quiet (fail);try go_wp2)
  refine bodyPost_ret (results_list (rs:=[.tmp 2,.tmp 3,.tmp 4,.tmp 5]) rfl mAM (.tmp (.tmp (.tmp (.tmp .nil))))) rfl ?_;exact⟨by first|rfl|(simp[errW_none,errW_some] <;> rfl)|(simp[*,errW_none,errW_some] <;> rfl),by repeat (first|(with_reducible first|exact HB.out|apply below_alloc|apply pw_below_drewN|apply below_drew1)|exact HB.out)⟩
 ·rw[if_neg c2]at H
  have c4:=decide_eq_false c2;have ca:decide (a0.size<12)=false:=decide_eq_false mBQ;clear c2
  by_cases c3:1<(a0.size:Int)
  ·rw[if_pos c3]at H
   have ch:=decide_eq_true c3;have cj:decide (1<a0.size)=true:=decide_eq_true mBQ;clear c3
   by_cases c5:2<=4
   ·rw[if_pos c5]at H
    have cn:=eq_true c5;have cp:=decide_eq_true c5;clear c5
    by_cases c6:4<=(a0.size:Int)
    ·rw[if_pos c6]at H
     have c6p:4<=a0.size:=by omega
     have cu:=eq_true c6;have cw:=decide_eq_true c6;clear c6;obtain⟨t0,A0,H⟩:=bsE H;(try dsimp only at H);have A7:=Aside0.mk A0;clear A0
     by_cases c8:4<=8
     ·rw[if_pos c8]at H
      have c01:=eq_true c8;have c03:=decide_eq_true c8;clear c8
      by_cases c9:8<=(a0.size:Int)
      ·rw[if_pos c9]at H
       have c9p:8<=a0.size:=by omega
       have c08:=eq_true c9;have c0a:=decide_eq_true c9;clear c9;obtain⟨t1,A2,H⟩:=bsE H;(try dsimp only at H);have A3:=Aside0.mk A2;clear A2;obtain⟨⟨t2,t3⟩,A4,H⟩:=bsE H;(try dsimp only at H);have A5:=Aside0.mk A4;clear A4
       by_cases c12:t3=0
       ·rw[if_pos c12]at H
        have c0f:=beq_iff_eq.mpr c12;have c0h:=bne_eq_false_iff_eq.mpr c12;clear c12
        by_cases c13:0<=12
        ·rw[if_pos c13]at H
         have c0m:=eq_true c13;have c0o:=decide_eq_true c13;clear c13
         by_cases c14:12<=(a0.size:Int)
         ·rw[if_pos c14]at H
          have c14p:12<=a0.size:=by omega
          have c0t:=eq_true c14;have c0v:=decide_eq_true c14;clear c14
          by_cases c15:t2.toList=(a0.extract 0 12).toList
          ·rw[if_pos c15]at H
           have c10:=beq_iff_eq.mpr c15;have c16:=bne_eq_false_iff_eq.mpr c15;clear c15;simp only[Option.some.injEq,Prod.mk.injEq]at H;obtain⟨rfl,rfl,rfl,rfl⟩:=H;have p4:0<=(1:Int):=mBQ;have q4:1<a0.size:=mCP;have hx4:∀h:1<a0.size,((a0[1]'h).toNat :Int)=bt a0 1:=bt_at a0 1;clear p4;have qi4:(1<(a0.size:Int))=True:=eq_true (of_decide_eq_true mE);replace q4:=eq_true q4
           go_enter Try.func30,Try.ntmps30
           go_wp2_with (first|(go_at_call 60;(with_reducible refine(watchwordref1_Of.calls k (a0.extract 2 4) t0 _ A7.out).mono ?_);rintro e w' ⟨rfl,⟨nd,rfl⟩⟩;(try first|exact⟨rfl,_,World.drewN_drewN _ _ _⟩|exact⟨rfl,_,Eq.trans (World.drewN_drewN _ _ _) (congrArg (World.drewN _) (Nat.add_assoc _ _ _))⟩))|(go_at_call 60;(with_reducible refine(watchwordref1_Of.calls k (a0.extract 4 8) t1 _ A3.out).mono ?_);rintro e w' ⟨rfl,⟨nd,rfl⟩⟩;(try first|exact⟨rfl,_,World.drewN_drewN _ _ _⟩|exact⟨rfl,_,Eq.trans (World.drewN_drewN _ _ _) (congrArg (World.drewN _) (Nat.add_assoc _ _ _))⟩))|(go_at_call 25;(with_reducible refine(watchwordref1_PutHead.calls k (wrap64 (bt a0 1)) t1 t0 t2 t3 _ A5.out).mono ?_);rintro e w0 ⟨rfl,hb⟩;replace HB:=Aside0.mk (below_step mA hb);(try clear hb);(try clear hb2);(try clear hk);(try clear hi)))
           repeat (go_quiet (first|(go_at_call 60;(with_reducible refine(watchwordref1_Of.calls k (a0.extract 2 4) t0 _ A7.out).mono ?_);rintro e w' ⟨rfl,⟨nd,rfl⟩⟩;(try first|exact⟨rfl,_,World.drewN_drewN _ _ _⟩|exact⟨rfl,_,Eq.trans (World.drewN_drewN _ _ _) (congrArg (World.drewN _) (Nat.add_assoc _ _ _))⟩))|(go_at_call 60;(with_reducible refine(watchwordref1_Of.calls k (a0.extract 4 8) t1 _ A3.out).mono ?_);rintro e w' ⟨rfl,⟨nd,rfl⟩⟩;(try first|exact⟨rfl,_,World.drewN_drewN _ _ _⟩|exact⟨rfl,_,Eq.trans (World.drewN_drewN _ _ _) (congrArg (World.drewN _) (Nat.add_assoc _ _ _))⟩))|(go_at_call 25;(with_reducible refine(watchwordref1_PutHead.calls k (wrap64 (bt a0 1)) t1 t0 t2 t3 _ A5.out).mono ?_);rintro e w0 ⟨rfl,hb⟩;have n0_:=Aside0.mk (below_step mA hb);clear HB;have HB:=n0_;clear n0_;(try clear hb);(try clear hb2);(try clear hk);(try clear hi)));try go_wp2_with (first|(go_at_call 60;(with_reducible refine(watchwordref1_Of.calls k (a0.extract 2 4) t0 _ A7.out).mono ?_);rintro e w' ⟨rfl,⟨nd,rfl⟩⟩;(try first|exact⟨rfl,_,World.drewN_drewN _ _ _⟩|exact⟨rfl,_,Eq.trans (World.drewN_drewN _ _ _) (congrArg (World.drewN _) (Nat.add_assoc _ _ _))⟩))|(go_at_call 60;(with_reducible refine(watchwordref1_Of.calls k (a0.extract 4 8) t1 _ A3.out).mono ?_);rintro e w' ⟨rfl,⟨nd,rfl⟩⟩;(try first|exact⟨rfl,_,World.drewN_drewN _ _ _⟩|exact⟨rfl,_,Eq.trans (World.drewN_drewN _ _ _) (congrArg (World.drewN _) (Nat.add_assoc _ _ _))⟩))|(go_at_call 25;(with_reducible refine(watchwordref1_PutHead.calls k (wrap64 (bt a0 1)) t1 t0 t2 t3 _ A5.out).mono ?_);rintro e w0 ⟨rfl,hb⟩;have n0_:=Aside0.mk (below_step mA hb);clear HB;have HB:=n0_;clear n0_;(try clear hb);(try clear hb2);(try clear hk);(try clear hi))))
           refine bodyPost_ret (results_list (rs:=[.tmp 2,.tmp 3,.tmp 4,.tmp 5]) rfl mAM (.tmp (.tmp (.tmp (.tmp .nil))))) rfl ?_;exact⟨by first|rfl|(simp[errW_none,errW_some] <;> rfl)|(simp[*,errW_none,errW_some] <;> rfl),by repeat (first|(with_reducible first|exact HB.out|apply below_alloc|apply pw_below_drewN|apply below_drew1)|exact HB.out)⟩
          ·rw[if_neg c15]at H
           have c10:=beq_eq_false_iff_ne.mpr c15;have c16:=bne_iff_ne.mpr c15;simp only[Option.some.injEq,Prod.mk.injEq]at H;obtain⟨rfl,rfl,rfl,rfl⟩:=H;have p4:0<=(1:Int):=mBQ;have q4:1<a0.size:=mCP;have hx4:∀h:1<a0.size,((a0[1]'h).toNat :Int)=bt a0 1:=bt_at a0 1;clear p4;have qi4:(1<(a0.size:Int))=True:=eq_true (of_decide_eq_true mE);replace q4:=eq_true q4
           go_enter Try.func30,Try.ntmps30
           go_wp2_with (first|(go_at_call 60;(with_reducible refine(watchwordref1_Of.calls k (a0.extract 2 4) t0 _ A7.out).mono ?_);rintro e w' ⟨rfl,⟨nd,rfl⟩⟩;(try first|exact⟨rfl,_,World.drewN_drewN _ _ _⟩|exact⟨rfl,_,Eq.trans (World.drewN_drewN _ _ _) (congrArg (World.drewN _) (Nat.add_assoc _ _ _))⟩))|(go_at_call 60;(with_reducible refine(watchwordref1_Of.calls k (a0.extract 4 8) t1 _ A3.out).mono ?_);rintro e w' ⟨rfl,⟨nd,rfl⟩⟩;(try first|exact⟨rfl,_,World.drewN_drewN _ _ _⟩|exact⟨rfl,_,Eq.trans (World.drewN_drewN _ _ _) (congrArg (World.drewN _) (Nat.add_assoc _ _ _))⟩))|(go_at_call 25;(with_reducible refine(watchwordref1_PutHead.calls k (wrap64 (bt a0 1)) t1 t0 t2 t3 _ A5.out).mono ?_);rintro e w1 ⟨rfl,hb⟩;replace HB:=Aside0.mk (below_step mA hb);(try clear hb);(try clear hb2);(try clear hk);(try clear hi)))
           repeat (go_quiet (first|(go_at_call 60;(with_reducible refine(watchwordref1_Of.calls k (a0.extract 2 4) t0 _ A7.out).mono ?_);rintro e w' ⟨rfl,⟨nd,rfl⟩⟩;(try first|exact⟨rfl,_,World.drewN_drewN _ _ _⟩|exact⟨rfl,_,Eq.trans (World.drewN_drewN _ _ _) (congrArg (World.drewN _) (Nat.add_assoc _ _ _))⟩))|(go_at_call 60;(with_reducible refine(watchwordref1_Of.calls k (a0.extract 4 8) t1 _ A3.out).mono ?_);rintro e w' ⟨rfl,⟨nd,rfl⟩⟩;(try first|exact⟨rfl,_,World.drewN_drewN _ _ _⟩|exact⟨rfl,_,Eq.trans (World.drewN_drewN _ _ _) (congrArg (World.drewN _) (Nat.add_assoc _ _ _))⟩))|(go_at_call 25;(with_reducible refine(watchwordref1_PutHead.calls k (wrap64 (bt a0 1)) t1 t0 t2 t3 _ A5.out).mono ?_);rintro e w1 ⟨rfl,hb⟩;have n0_:=Aside0.mk (below_step mA hb);clear HB;have HB:=n0_;clear n0_;(try clear hb);(try clear hb2);(try clear hk);(try clear hi)));try go_wp2_with (first|(go_at_call 60;(with_reducible refine(watchwordref1_Of.calls k (a0.extract 2 4) t0 _ A7.out).mono ?_);rintro e w' ⟨rfl,⟨nd,rfl⟩⟩;(try first|exact⟨rfl,_,World.drewN_drewN _ _ _⟩|exact⟨rfl,_,Eq.trans (World.drewN_drewN _ _ _) (congrArg (World.drewN _) (Nat.add_assoc _ _ _))⟩))|(go_at_call 60;(with_reducible refine(watchwordref1_Of.calls k (a0.extract 4 8) t1 _ A3.out).mono ?_);rintro e w' ⟨rfl,⟨nd,rfl⟩⟩;(try first|exact⟨rfl,_,World.drewN_drewN _ _ _⟩|exact⟨rfl,_,Eq.trans (World.drewN_drewN _ _ _) (congrArg (World.drewN _) (Nat.add_assoc _ _ _))⟩))|(go_at_call 25;(with_reducible refine(watchwordref1_PutHead.calls k (wrap64 (bt a0 1)) t1 t0 t2 t3 _ A5.out).mono ?_);rintro e w1 ⟨rfl,hb⟩;have n0_:=Aside0.mk (below_step mA hb);clear HB;have HB:=n0_;clear n0_;(try clear hb);(try clear hb2);(try clear hk);(try clear hi))))
           refine bodyPost_ret (results_list (rs:=[.tmp 2,.tmp 3,.tmp 4,.tmp 5]) rfl mAM (.tmp (.tmp (.tmp (.tmp .nil))))) rfl ?_;exact⟨by first|rfl|(simp[errW_none,errW_some] <;> rfl)|(simp[*,errW_none,errW_some] <;> rfl),by repeat (first|(with_reducible first|exact HB.out|apply below_alloc|apply pw_below_drewN|apply below_drew1)|exact HB.out)⟩
         ·rw[if_neg c14]at H
          exact absurd H mAM
        ·rw[if_neg c13]at H
         exact absurd H mAM
       ·rw[if_neg c12]at H
        have c0f:=beq_eq_false_iff_ne.mpr c12;have c0h:=bne_iff_ne.mpr c12;simp only[Option.some.injEq,Prod.mk.injEq]at H;obtain⟨rfl,rfl,rfl,rfl⟩:=H;have p4:0<=(1:Int):=mBQ;have q4:1<a0.size:=mCP;have hx4:∀h:1<a0.size,((a0[1]'h).toNat :Int)=bt a0 1:=bt_at a0 1;clear p4;have qi4:(1<(a0.size:Int))=True:=eq_true (of_decide_eq_true mE);replace q4:=eq_true q4
        go_enter Try.func30,Try.ntmps30
        go_wp2_with (first|(go_at_call 60;(with_reducible refine(watchwordref1_Of.calls k (a0.extract 2 4) t0 _ A7.out).mono ?_);rintro e w' ⟨rfl,⟨nd,rfl⟩⟩;(try first|exact⟨rfl,_,World.drewN_drewN _ _ _⟩|exact⟨rfl,_,Eq.trans (World.drewN_drewN _ _ _) (congrArg (World.drewN _) (Nat.add_assoc _ _ _))⟩))|(go_at_call 60;(with_reducible refine(watchwordref1_Of.calls k (a0.extract 4 8) t1 _ A3.out).mono ?_);rintro e w' ⟨rfl,⟨nd,rfl⟩⟩;(try first|exact⟨rfl,_,World.drewN_drewN _ _ _⟩|exact⟨rfl,_,Eq.trans (World.drewN_drewN _ _ _) (congrArg (World.drewN _) (Nat.add_assoc _ _ _))⟩))|(go_at_call 25;(with_reducible refine(watchwordref1_PutHead.calls k (wrap64 (bt a0 1)) t1 t0 t2 t3 _ A5.out).mono ?_);rintro e w2 ⟨rfl,hb⟩;replace HB:=Aside0.mk (below_step mA hb);(try clear hb);(try clear hb2);(try clear hk);(try clear hi)))
        repeat (go_quiet (first|(go_at_call 60;(with_reducible refine(watchwordref1_Of.calls k (a0.extract 2 4) t0 _ A7.out).mono ?_);rintro e w' ⟨rfl,⟨nd,rfl⟩⟩;(try first|exact⟨rfl,_,World.drewN_drewN _ _ _⟩|exact⟨rfl,_,Eq.trans (World.drewN_drewN _ _ _) (congrArg (World.drewN _) (Nat.add_assoc _ _ _))⟩))|(go_at_call 60;(with_reducible refine(watchwordref1_Of.calls k (a0.extract 4 8) t1 _ A3.out).mono ?_);rintro e w' ⟨rfl,⟨nd,rfl⟩⟩;(try first|exact⟨rfl,_,World.drewN_drewN _ _ _⟩|exact⟨rfl,_,Eq.trans (World.drewN_drewN _ _ _) (congrArg (World.drewN _) (Nat.add_assoc _ _ _))⟩))|(go_at_call 25;(with_reducible refine(watchwordref1_PutHead.calls k (wrap64 (bt a0 1)) t1 t0 t2 t3 _ A5.out).mono ?_);rintro e w2 ⟨rfl,hb⟩;have n0_:=Aside0.mk (below_step mA hb);clear HB;have HB:=n0_;clear n0_;(try clear hb);(try clear hb2);(try clear hk);(try clear hi)));try go_wp2_with (first|(go_at_call 60;(with_reducible refine(watchwordref1_Of.calls k (a0.extract 2 4) t0 _ A7.out).mono ?_);rintro e w' ⟨rfl,⟨nd,rfl⟩⟩;(try first|exact⟨rfl,_,World.drewN_drewN _ _ _⟩|exact⟨rfl,_,Eq.trans (World.drewN_drewN _ _ _) (congrArg (World.drewN _) (Nat.add_assoc _ _ _))⟩))|(go_at_call 60;(with_reducible refine(watchwordref1_Of.calls k (a0.extract 4 8) t1 _ A3.out).mono ?_);rintro e w' ⟨rfl,⟨nd,rfl⟩⟩;(try first|exact⟨rfl,_,World.drewN_drewN _ _ _⟩|exact⟨rfl,_,Eq.trans (World.drewN_drewN _ _ _) (congrArg (World.drewN _) (Nat.add_assoc _ _ _))⟩))|(go_at_call 25;(with_reducible refine(watchwordref1_PutHead.calls k (wrap64 (bt a0 1)) t1 t0 t2 t3 _ A5.out).mono ?_);rintro e w2 ⟨rfl,hb⟩;have n0_:=Aside0.mk (below_step mA hb);clear HB;have HB:=n0_;clear n0_;(try clear hb);(try clear hb2);(try clear hk);(try clear hi))))
        refine bodyPost_ret (results_list (rs:=[.tmp 2,.tmp 3,.tmp 4,.tmp 5]) rfl mAM (.tmp (.tmp (.tmp (.tmp .nil))))) rfl ?_;exact⟨by first|rfl|(simp[errW_none,errW_some] <;> rfl)|(simp[*,errW_none,errW_some] <;> rfl),by repeat (first|(with_reducible first|exact HB.out|apply below_alloc|apply pw_below_drewN|apply below_drew1)|exact HB.out)⟩
      ·rw[if_neg c9]at H
       exact absurd H mAM
     ·rw[if_neg c8]at H
      exact absurd H mAM
    ·rw[if_neg c6]at H
     exact absurd H mAM
   ·rw[if_neg c5]at H
    exact absurd H mAM
  ·rw[if_neg c3]at H
   exact absurd H mAM
def watchwordref9_GetHello.l0:Nat->ByteArray->List Int->Int->Option (List Int × Int)
 |0,_,_,_=>none
 |k+1,x0,x4,x5=>if x5<(x0.size:Int)then(if 0<=x5 then(if x4.length<17592186044416 then(watchwordref9_GetHello.l0 k x0 (x4++[wrap64 (bt x0 x5)]) (wrap64 (x5+1)))else(none))else(none))else(if x0.toList=([]:List UInt8)then(some (([]:List Int),900))else(if 0<(x0.size:Int)then(if(wrap64 (bt x0 0))=(x4.length:Int)then((watchwordref9_HeardMay.f k x4).bind λt378=>(if t378=true then(some (x4,0))else(some (([]:List Int),900))))else(some (([]:List Int),900)))else(none)))
def watchwordref9_GetHello.f (k:Nat) (a0:ByteArray):Option (List Int × Int):=watchwordref9_GetHello.l0 k a0 ([]:List Int) 1
theorem watchwordref9_GetHello.mono_l:∀k,(∀y0 y1 y2,LeO (watchwordref9_GetHello.l0 k y0 y1 y2) (watchwordref9_GetHello.l0 (k+1) y0 y1 y2))
 |0=>λ_ _ _ r h=>by simp[watchwordref9_GetHello.l0]at h
 |k+1=>by
  have ih0:=watchwordref9_GetHello.mono_l k
  ·intro y0 y1 y2
   unfold watchwordref9_GetHello.l0
   repeat' (with_reducible first|exact ih0 _ _ _|exact watchwordref9_HeardMay.mono _ _|exact LeO.refl _|exact LeO.none _|refine LeO.ite ?_ ?_ |refine LeO.bind ?_ (λ_=>?_))
theorem watchwordref9_GetHello.mono:∀a0 k,LeO (watchwordref9_GetHello.f k a0) (watchwordref9_GetHello.f (k+1) a0):=by
 intro a0 k;have ih0:=watchwordref9_GetHello.mono_l k;unfold watchwordref9_GetHello.f
 repeat' (with_reducible first|exact ih0 _ _ _|exact watchwordref9_HeardMay.mono _ _|exact LeO.refl _|exact LeO.none _|refine LeO.ite ?_ ?_ |refine LeO.bind ?_ (λ_=>?_))
set_option maxHeartbeats 8000000 in
set_option maxRecDepth 100000 in
theorem watchwordref9_GetHello.calls (k:Nat) (a0:ByteArray) (r1:List Int) (r2:Int) (w:World) (h:watchwordref9_GetHello.f k a0=some (r1,r2)):
  Calls Try.prog 31 #[.string a0] w λe w'=>∃v0_:Value,e= .returned (.tuple #[v0_,.int .i64 r2])/\Kd.R (Kd.int .i64) 3 w' w.heap.size (λ_=>True) v0_ r1/\Below w.heap.size w w':=by
 have HB:=Aside0.mk (Below.refl w.heap.size w);have H:(watchwordref9_GetHello.l0 k a0 ([]:List Int) 1)=some (r1,r2):=h;clear h;have H':=Aside0.mk H;clear H
 go_enter Try.func31,Try.ntmps31
 go_wp2
 go_loopg [4,5] k (λkq v4 v5 w'=>∃(x1:List Int) (x2:Int),v5= .int .i64 x2/\Aside0 (watchwordref9_GetHello.l0 kq a0 x1 x2=some (r1,r2))/\Aside0 (kq<=k)/\Aside0 (Kd.R (Kd.int .i64) 3 w' w.heap.size (λ_=>True) v4 x1)/\Aside0 (Below w.heap.size w w'))
 case atStart=>exact⟨(([]:List Int)),(1),mK,H',⟨Nat.le_refl _⟩,⟨by first|exact Kd.R_nil _ _ _ _ _|exact Kd.N_nil _ _ _ _ _|exact Kd.V_nil _ _ _ _ _|exact Kd.Q_nil _ _ _ _ _|exact Kd.S_nil _ _ _ _ _⟩,⟨by repeat (first|(with_reducible first|exact HB.out|apply below_alloc|apply pw_below_drewN|apply below_drew1)|exact HB.out)⟩⟩
 case round=>
  clear H';obtain⟨x1,x2,rfl,HA,HK1,O0,HB⟩:=hrel;cases gk with
  |zero=>exact absurd HA.out (by simp[watchwordref9_GetHello.l0])
  |succ k1=>
   have H:=HA.out;clear HA;simp only[watchwordref9_GetHello.l0]at H
   by_cases c2:x2<(a0.size:Int)
   ·rw[if_pos c2]at H
    have c4:=decide_eq_true c2;clear c2
    by_cases c3:0<=x2
    ·rw[if_pos c3]at H
     have cc:=decide_eq_true c3;clear c3
     by_cases c5:x1.length<17592186044416
     ·rw[if_pos c5]at H
      have L0:=Aside0.mk c5;clear c5;obtain⟨y3,Y0⟩:∃y_:List Int,y_=(x1++[wrap64 (bt a0 x2)]):=⟨_,rfl⟩
      replace H:(watchwordref9_GetHello.l0 k1 a0 y3 (wrap64 (x2+1)))=some (r1,r2):=by first|(rw[Y0];with_reducible exact H)|(have H2_:=(Option.bind_some _ _).symm.trans H;rw[Y0];with_reducible exact H2_)|(have H2_:=(Option.bind_some _ _).symm.trans H;with_reducible exact H2_)|with_reducible exact H|(rw[Y0];exact H)|exact H
      have Y1:=Aside0.mk Y0;clear Y0;have H':=Aside0.mk H;clear H;have p4:0<=(x2:Int):=of_decide_eq_true mE;have q4:x2<(a0.size:Int):=of_decide_eq_true mE;have hx4:=bt_at a0 x2;replace p4:=eq_true p4;replace q4:=eq_true q4
      go_wp2_with (first|((with_reducible refine gate_builtin (b:= .append) (xs:=#[.tmp 12,.tmp 17]) rfl ?_);(try (refine gate_guard mBV ?_;dsimp only));at_builtin;refine Kd.R_append (Kd.int .i64) (w0:=w) w.heap.size rfl (.tmp 12) (.tmp 17) 22 3 (.int .i64 0) 8 rfl Try.underlying22 info3 rfl mAQ mBQ u4 x1 (wrap64 (bt a0 x2)) [.int .i64 (wrap64 (bt a0 x2))] (λ_=>True) (λ_=>False) rfl rfl ?aP (λ_ hk=>hk.elim) ?aF ?aO ?aB ?aS ?aL ?_;(case aP=>exact rfl);(case aB=>exact mA);(case aF=>exact(λ_ _=>trivial));(case aO=>exact mN);(case aS=>exact(below_size mA));(case aL=>have:=L0.out;omega);intro v376 w6 ho hb hg hat;rw[<-Y1.out]at ho;replace HB:=Aside0.mk (hb);have O1:=Aside0.mk (ho);clear O0;clear ho hb hg hat))
      go_roundg k1
      case measure=>have:=HK1.out;omega
      case rel=>exact⟨(y3),(wrap64 (x2+1)),mK,H',⟨by have:=HK1.out;omega⟩,⟨by(with_reducible repeat (first|apply Kd.R_alloc|apply Kd.R_drewN|apply Kd.R_drew));exact O1.out⟩,⟨by repeat (first|(with_reducible first|exact HB.out|apply below_alloc|apply pw_below_drewN|apply below_drew1)|exact HB.out)⟩⟩
     ·rw[if_neg c5]at H
      exact absurd H mAM
    ·rw[if_neg c3]at H
     exact absurd H mAM
   ·rw[if_neg c2]at H
    have c4:=decide_eq_false c2;clear c2
    by_cases c7:a0.toList=([]:List UInt8)
    ·rw[if_pos c7]at H
     have cq:=beq_iff_eq.mpr c7;have cs:=bne_eq_false_iff_eq.mpr c7;clear c7;simp only[Option.some.injEq,Prod.mk.injEq]at H;obtain⟨rfl,rfl⟩:=H;go_wp2
     go_ret2
     exact⟨_,by first|rfl|(simp[errW_none,errW_some] <;> rfl)|(simp[*,errW_none,errW_some] <;> rfl),by first|exact Kd.R_nil _ _ _ _ _|exact Kd.N_nil _ _ _ _ _|exact Kd.V_nil _ _ _ _ _|exact Kd.Q_nil _ _ _ _ _|exact Kd.S_nil _ _ _ _ _,by repeat (first|(with_reducible first|exact HB.out|apply below_alloc|apply pw_below_drewN|apply below_drew1)|exact HB.out)⟩
    ·rw[if_neg c7]at H
     have cq:=beq_eq_false_iff_ne.mpr c7;have cs:=bne_iff_ne.mpr c7
     by_cases c8:0<(a0.size:Int)
     ·rw[if_pos c8]at H
      have c00:=decide_eq_true c8;have c02:decide (0<a0.size)=true:=decide_eq_true mBQ;clear c8
      by_cases c10:(wrap64 (bt a0 0))=(x1.length:Int)
      ·rw[if_pos c10]at H
       have c06:=beq_iff_eq.mpr c10;have c08:=bne_eq_false_iff_eq.mpr c10;clear c10;obtain⟨t0,A0,H⟩:=bsE H;(try dsimp only at H);have A1:=Aside0.mk A0;clear A0
       by_cases c12:t0=true
       ·subst c12
        rw[if_pos rfl]at H;simp only[Option.some.injEq,Prod.mk.injEq]at H;obtain⟨rfl,rfl⟩:=H;have p9:0<=(0:Int):=mBQ;have q9:0<a0.size:=mBW;have hx9:∀h:0<a0.size,((a0[0]'h).toNat :Int)=bt a0 0:=bt_at a0 0;clear p9;have qi9:(0<(a0.size:Int))=True:=eq_true (of_decide_eq_true mE);replace q9:=eq_true q9;obtain⟨s0,s1,s2⟩:=Kd.R_slice O0.out;subst s2
        go_wp2_with (first|(go_at_call 39;(with_reducible refine(watchwordref9_HeardMay.calls k1 _ _ x1 true _ ?side1 ?side2 A1.out).mono ?_);(case side1=>repeat (first|exact(Kd.R_reads' O0.out).2.2 |(with_reducible refine Kd.C_alloc ?_ _)|(with_reducible refine Kd.C_drewN ?_ _)|(with_reducible refine Kd.C_drew ?_)));(case side2=>exact(Kd.R_reads' O0.out).2.1);rintro e w' ⟨rfl,⟨nd,rfl⟩⟩))
        go_ret2
        exact⟨_,by first|rfl|(simp[errW_none,errW_some] <;> rfl)|(simp[*,errW_none,errW_some] <;> rfl),by(with_reducible repeat (first|apply Kd.R_alloc|apply Kd.R_drewN|apply Kd.R_drew));exact O0.out,by repeat (first|(with_reducible first|exact HB.out|apply below_alloc|apply pw_below_drewN|apply below_drew1)|exact HB.out)⟩
       ·replace c12:=Bool.eq_false_iff.mpr c12
        subst c12;rw[if_neg (show ¬(false=true)by decide)]at H;simp only[Option.some.injEq,Prod.mk.injEq]at H;obtain⟨rfl,rfl⟩:=H;have p9:0<=(0:Int):=mBQ;have q9:0<a0.size:=mBW;have hx9:∀h:0<a0.size,((a0[0]'h).toNat :Int)=bt a0 0:=bt_at a0 0;clear p9;have qi9:(0<(a0.size:Int))=True:=eq_true (of_decide_eq_true mE);replace q9:=eq_true q9;obtain⟨s3,s4,s5⟩:=Kd.R_slice O0.out;subst s5
        go_wp2_with (first|(go_at_call 39;(with_reducible refine(watchwordref9_HeardMay.calls k1 _ _ x1 false _ ?side1 ?side2 A1.out).mono ?_);(case side1=>repeat (first|exact(Kd.R_reads' O0.out).2.2 |(with_reducible refine Kd.C_alloc ?_ _)|(with_reducible refine Kd.C_drewN ?_ _)|(with_reducible refine Kd.C_drew ?_)));(case side2=>exact(Kd.R_reads' O0.out).2.1);rintro e w' ⟨rfl,⟨nd,rfl⟩⟩))
        go_ret2
        exact⟨_,by first|rfl|(simp[errW_none,errW_some] <;> rfl)|(simp[*,errW_none,errW_some] <;> rfl),by first|exact Kd.R_nil _ _ _ _ _|exact Kd.N_nil _ _ _ _ _|exact Kd.V_nil _ _ _ _ _|exact Kd.Q_nil _ _ _ _ _|exact Kd.S_nil _ _ _ _ _,by repeat (first|(with_reducible first|exact HB.out|apply below_alloc|apply pw_below_drewN|apply below_drew1)|exact HB.out)⟩
      ·rw[if_neg c10]at H
       have c06:=beq_eq_false_iff_ne.mpr c10;have c08:=bne_iff_ne.mpr c10;simp only[Option.some.injEq,Prod.mk.injEq]at H;obtain⟨rfl,rfl⟩:=H;have p9:0<=(0:Int):=mBQ;have q9:0<a0.size:=mBW;have hx9:∀h:0<a0.size,((a0[0]'h).toNat :Int)=bt a0 0:=bt_at a0 0;clear p9;have qi9:(0<(a0.size:Int))=True:=eq_true (of_decide_eq_true mE);replace q9:=eq_true q9;obtain⟨s6,s7,s8⟩:=Kd.R_slice O0.out;subst s8;go_wp2
       go_ret2
       exact⟨_,by first|rfl|(simp[errW_none,errW_some] <;> rfl)|(simp[*,errW_none,errW_some] <;> rfl),by first|exact Kd.R_nil _ _ _ _ _|exact Kd.N_nil _ _ _ _ _|exact Kd.V_nil _ _ _ _ _|exact Kd.Q_nil _ _ _ _ _|exact Kd.S_nil _ _ _ _ _,by repeat (first|(with_reducible first|exact HB.out|apply below_alloc|apply pw_below_drewN|apply below_drew1)|exact HB.out)⟩
     ·rw[if_neg c8]at H
      exact absurd H mAM
mutual
def watchwordref1_GetLsa.j0:Nat->ByteArray->Int->Bool->Option (Int × Int × Int × (List (S109)) × Int × Int)
 |0,_,_,_=>none
 |k+1,x0,x1,x22=>if x22=true then(some (0,0,0,([]:List (S109)),0,700))else(if 0<=x1 then(if x1<(x0.size:Int)then(if 0<=(wrap64 (x1+1))then(if(wrap64 (x1+1))<(x0.size:Int)then(if 0<=(wrap64 (x1+2))then(if(wrap64 (x1+2))<=(wrap64 (x1+6))then(if(wrap64 (x1+6))<=(x0.size:Int)then((watchwordref1_Of.f k (x0.extract ((wrap64 (x1+2)):Int).toNat ((wrap64 (x1+6)):Int).toNat)).bind λt380=>(if 0<=(wrap64 (x1+6))then(if(wrap64 (x1+6))<(x0.size:Int)then(if(wrap64 ((wrap64 (x1+9))+(wrap64 (3*(wrap64 (bt x0 (wrap64 (x1+6))))))))>(x0.size:Int)then(watchwordref1_GetLsa.j1 k x0 x1 (wrap64 (bt x0 (wrap64 (x1+6)))) (wrap64 ((wrap64 (x1+9))+(wrap64 (3*(wrap64 (bt x0 (wrap64 (x1+6)))))))) true (wrap64 (bt x0 (wrap64 (x1+1)))) t380 (wrap64 (bt x0 x1)))else(watchwordref1_GetLsa.j1 k x0 x1 (wrap64 (bt x0 (wrap64 (x1+6)))) (wrap64 ((wrap64 (x1+9))+(wrap64 (3*(wrap64 (bt x0 (wrap64 (x1+6)))))))) (decide ((wrap64 (bt x0 (wrap64 (x1+6))))>4)) (wrap64 (bt x0 (wrap64 (x1+1)))) t380 (wrap64 (bt x0 x1))))else(none))else(none)))else(none))else(none))else(none))else(none))else(none))else(none))else(none))
def watchwordref1_GetLsa.j1:Nat->ByteArray->Int->Int->Int->Bool->Int->Int->Int->Option (Int × Int × Int × (List (S109)) × Int × Int)
 |0,_,_,_,_,_,_,_,_=>none
 |k+1,x0,x1,x8,x9,x58,x382000,x382001,x382002=>if x58=true then(some (0,0,0,([]:List (S109)),0,700))else(watchwordref1_GetLsa.l0 k x0 x1 x8 x9 0 x382000 x382001 x382002 ([]:List (S109)))
def watchwordref1_GetLsa.l0:Nat->ByteArray->Int->Int->Int->Int->Int->Int->Int->List (S109)->Option (Int × Int × Int × (List (S109)) × Int × Int)
 |0,_,_,_,_,_,_,_,_,_=>none
 |k+1,x0,x1,x8,x9,x10,x382000,x382001,x382002,x382003=>if x10<x8 then(if 0<=(wrap64 ((wrap64 (x1+7))+(wrap64 (3*x10))))then(if(wrap64 ((wrap64 (x1+7))+(wrap64 (3*x10))))<(x0.size:Int)then(if 0<=(wrap64 ((wrap64 ((wrap64 (x1+7))+(wrap64 (3*x10))))+1))then(if(wrap64 ((wrap64 ((wrap64 (x1+7))+(wrap64 (3*x10))))+1))<=(wrap64 ((wrap64 ((wrap64 (x1+7))+(wrap64 (3*x10))))+3))then(if(wrap64 ((wrap64 ((wrap64 (x1+7))+(wrap64 (3*x10))))+3))<=(x0.size:Int)then((watchwordref1_Of.f k (x0.extract ((wrap64 ((wrap64 ((wrap64 (x1+7))+(wrap64 (3*x10))))+1)):Int).toNat ((wrap64 ((wrap64 ((wrap64 (x1+7))+(wrap64 (3*x10))))+3)):Int).toNat)).bind λt382=>(if x382003.length<8796093022208 then(watchwordref1_GetLsa.l0 k x0 x1 x8 x9 (wrap64 (x10+1)) x382000 x382001 x382002 (x382003++[(⟨wrap64 (bt x0 (wrap64 ((wrap64 (x1+7))+(wrap64 (3*x10))))),t382⟩:S109)]))else(none)))else(none))else(none))else(none))else(none))else(none))else((watchwordref1_PutLsa.f k x382000 x382001 x382002 x382003).bind λbt386=>(if bt386.2=0 then(if 0<=x1 then(if x1<=x9 then(if x9<=(x0.size:Int)then(if bt386.1.toList=(x0.extract (x1:Int).toNat (x9:Int).toNat).toList then(some (x382000,x382001,x382002,x382003,x9,0))else(some (0,0,0,([]:List (S109)),0,700)))else(none))else(none))else(none))else(some (0,0,0,([]:List (S109)),0,700))))
end
def watchwordref1_GetLsa.f (k:Nat) (a0:ByteArray) (a1:Int):Option (Int × Int × Int × (List (S109)) × Int × Int):=if a1<0 then(watchwordref1_GetLsa.j0 k a0 a1 true)else(watchwordref1_GetLsa.j0 k a0 a1 (decide (a1>(wrap64 ((a0.size:Int)-7)))))
theorem watchwordref1_GetLsa.mono_l:∀k,(∀y0 y1 y2,LeO (watchwordref1_GetLsa.j0 k y0 y1 y2) (watchwordref1_GetLsa.j0 (k+1) y0 y1 y2))/\(∀y0 y1 y2 y3 y4 y5 y6 y7,LeO (watchwordref1_GetLsa.j1 k y0 y1 y2 y3 y4 y5 y6 y7) (watchwordref1_GetLsa.j1 (k+1) y0 y1 y2 y3 y4 y5 y6 y7))/\(∀y0 y1 y2 y3 y4 y5 y6 y7 y8,LeO (watchwordref1_GetLsa.l0 k y0 y1 y2 y3 y4 y5 y6 y7 y8) (watchwordref1_GetLsa.l0 (k+1) y0 y1 y2 y3 y4 y5 y6 y7 y8))
 |0=>⟨λ_ _ _ r h=>by simp[watchwordref1_GetLsa.j0]at h,λ_ _ _ _ _ _ _ _ r h=>by simp[watchwordref1_GetLsa.j1]at h,λ_ _ _ _ _ _ _ _ _ r h=>by simp[watchwordref1_GetLsa.l0]at h⟩
 |k+1=>by
  obtain⟨ih0,ih1,ih2⟩:=watchwordref1_GetLsa.mono_l k;refine⟨?_,?_,?_⟩
  ·intro y0 y1 y2
   unfold watchwordref1_GetLsa.j0
   repeat' (with_reducible first|exact ih0 _ _ _|exact ih1 _ _ _ _ _ _ _ _|exact ih2 _ _ _ _ _ _ _ _ _|exact watchwordref1_Of.mono _ _|exact watchwordref1_PutLsa.mono _ _ _ _ _|exact LeO.refl _|exact LeO.none _|refine LeO.ite ?_ ?_ |refine LeO.bind ?_ (λ_=>?_))
  ·intro y0 y1 y2 y3 y4 y5 y6 y7
   unfold watchwordref1_GetLsa.j1
   repeat' (with_reducible first|exact ih0 _ _ _|exact ih1 _ _ _ _ _ _ _ _|exact ih2 _ _ _ _ _ _ _ _ _|exact watchwordref1_Of.mono _ _|exact watchwordref1_PutLsa.mono _ _ _ _ _|exact LeO.refl _|exact LeO.none _|refine LeO.ite ?_ ?_ |refine LeO.bind ?_ (λ_=>?_))
  ·intro y0 y1 y2 y3 y4 y5 y6 y7 y8
   unfold watchwordref1_GetLsa.l0
   repeat' (with_reducible first|exact ih0 _ _ _|exact ih1 _ _ _ _ _ _ _ _|exact ih2 _ _ _ _ _ _ _ _ _|exact watchwordref1_Of.mono _ _|exact watchwordref1_PutLsa.mono _ _ _ _ _|exact LeO.refl _|exact LeO.none _|refine LeO.ite ?_ ?_ |refine LeO.bind ?_ (λ_=>?_))
theorem watchwordref1_GetLsa.mono:∀a0 a1 k,LeO (watchwordref1_GetLsa.f k a0 a1) (watchwordref1_GetLsa.f (k+1) a0 a1):=by
 intro a0 a1 k;obtain⟨ih0,ih1,ih2⟩:=watchwordref1_GetLsa.mono_l k;unfold watchwordref1_GetLsa.f
 repeat' (with_reducible first|exact ih0 _ _ _|exact ih1 _ _ _ _ _ _ _ _|exact ih2 _ _ _ _ _ _ _ _ _|exact watchwordref1_Of.mono _ _|exact watchwordref1_PutLsa.mono _ _ _ _ _|exact LeO.refl _|exact LeO.none _|refine LeO.ite ?_ ?_ |refine LeO.bind ?_ (λ_=>?_))
def watchwordref1_GetLsa.T3:Bool × List (List Nat × List Nat):=(true,[([],[]),([],[]),([0,1],[0,1]),([2],[2]),([],[]),([],[]),([5],[5]),([4,6],[4,6]),([7],[7]),([],[]),([],[]),([10],[10]),([],[]),([12],[12]),([9,11,13],[9,11,13]),([14],[14]),([3,8,15],[3,8,15]),([],[]),([17,16,15,0,1,2,3,4,5,6,7,8,9,10,11,12,13,14,15,16,17],[16,17])])
def watchwordref1_GetLsa.B3:List Nat:=[0,0,3,7,0,0,32,112,240,0,0,1024,0,4096,15872,32256,65535,0,262143]
theorem watchwordref1_GetLsa.tab3:rtab .any (opsOf Try.f61 3)=watchwordref1_GetLsa.T3:=by kernel_rfl
theorem watchwordref1_GetLsa.bits3:waitsOk watchwordref1_GetLsa.T3.2 watchwordref1_GetLsa.B3=true:=by kernel_rfl
def watchwordref1_GetLsa.T12:Bool × List (List Nat × List Nat):=(true,[([],[]),([0],[0]),([],[]),([],[]),([2,3],[2,3]),([4],[4]),([],[]),([],[]),([7],[7]),([],[]),([9],[9]),([6,8,10],[6,8,10]),([11],[11]),([5,12],[5,12]),([13],[13]),([1,14,12],[1,14]),([0,1,2,3,4,5,6,7,8,9,10,11,12,13,14,15],[]),([16,15,15,0,1,2,3,4,5,6,7,8,9,10,11,12,13,14,15],[15,16])])
def watchwordref1_GetLsa.B12:List Nat:=[0,1,0,0,12,28,0,0,128,0,512,1984,4032,8188,16380,32767,65535,131071]
theorem watchwordref1_GetLsa.tab12:rtab .any (opsOf Try.f61 12)=watchwordref1_GetLsa.T12:=by kernel_rfl
theorem watchwordref1_GetLsa.bits12:waitsOk watchwordref1_GetLsa.T12.2 watchwordref1_GetLsa.B12=true:=by kernel_rfl
set_option maxHeartbeats 8000000 in
set_option maxRecDepth 100000 in
theorem watchwordref1_GetLsa.calls (k:Nat) (a0:ByteArray) (a1:Int) (r1:Int) (r2:Int) (r3:Int) (r4:List (S109)) (r5:Int) (r6:Int) (w:World) (h:watchwordref1_GetLsa.f k a0 a1=some (r1,r2,r3,r4,r5,r6)):
  Calls Try.prog 61 #[.string a0,.int .i64 a1] w λe w'=>∃v3_:Value,e= .returned (.tuple #[.agg #[.int .i64 r1,.int .i64 r2,.int .i64 r3,v3_],.int .i64 r5,.int .i64 r6])/\Kd.R k109 109 w' w.heap.size (λ_=>True) v3_ r4/\Below w.heap.size w w':=by
 have hu45:=Try.underlying45;have hu109:=Try.underlying109;have HB:=Aside0.mk (Below.refl w.heap.size w);have H:(if a1<0 then(watchwordref1_GetLsa.j0 k a0 a1 true)else(watchwordref1_GetLsa.j0 k a0 a1 (decide (a1>(wrap64 ((a0.size:Int)-7))))))=some (r1,r2,r3,r4,r5,r6):=h;clear h;have K0:=Aside0.mk H;clear H
 go_enter Try.func61,Try.ntmps61
 go_upto_region 1 with(first|((with_reducible refine gate_dst (N:=4) rfl ?_);(try (refine gate_guard mBV ?_;dsimp only));refine bxV (N:=4) (cs:=#[.int .i64 0,.int .i64 0,.int .i64 0,.slice none 0 0]) (t:=45) (h:=?_);intro g0 hg w4 hbox hb;have B0:=Aside0.mk (hbox);have G0:=Aside0.mk ((mJ:w.heap.size<=g0));have G1:=Aside0.mk ((mJ:w.heap.size<=g0));replace HB:=Aside0.mk (below_step mA hb);clear hb hbox hg))
 (try simp only[Act.put,List.setIfInBounds_toArray,List.set_cons_zero,List.set_cons_succ])
 go_cut [22] (λv22 wc=>∃(kq:Nat) (x2:Bool),v22= .bool x2/\Aside0 (watchwordref1_GetLsa.j0 kq a0 a1 x2=some (r1,r2,r3,r4,r5,r6))/\Aside0 (kq<=k)/\Aside0 (wc.heap[g0]? =some (.cells #[.int .i64 0,.int .i64 0,.int .i64 0,(.slice none 0 0)] 45 (0,0)))/\Aside0 (Below w.heap.size w wc))
 case first=>
  have H:=K0.out;clear K0
  by_cases c5:a1<0
  ·rw[if_pos c5]at H
   have c7:=decide_eq_true c5;clear c5
   (first|rw[c7]|(simp only[i64_w,i32_w];rw[c7])|skip)
   have H':=Aside0.mk H;clear H;go_wp2;go_meet
   case rel=>exact⟨_,(true),mK,H',⟨by first|omega|exact Nat.le_refl _⟩,⟨by(with_reducible repeat (first|refine blk_drewN ?_ _|refine blk_drew ?_ |refine blk_alloc ?_ _));exact B0.out⟩,⟨by repeat (first|(with_reducible first|exact HB.out|apply below_alloc|apply pw_below_drewN|apply below_drew1|refine below_set ?_ G1.out)|exact HB.out)⟩⟩
  ·rw[if_neg c5]at H
   have c7:=decide_eq_false c5;clear c5
   (first|rw[c7]|(simp only[i64_w,i32_w];rw[c7])|skip)
   have H':=Aside0.mk H;clear H;go_wp2;go_meet
   case rel=>exact⟨_,(decide (a1>(wrap64 ((a0.size:Int)-7)))),mK,H',⟨by first|omega|exact Nat.le_refl _⟩,⟨by(with_reducible repeat (first|refine blk_drewN ?_ _|refine blk_drew ?_ |refine blk_alloc ?_ _));exact B0.out⟩,⟨by repeat (first|(with_reducible first|exact HB.out|apply below_alloc|apply pw_below_drewN|apply below_drew1|refine below_set ?_ G1.out)|exact HB.out)⟩⟩
 case rest=>
  clear K0;(try clear p2);(try clear c5);(try clear c7);obtain⟨kq,x2,rfl,HA,HJ2,B0,HB⟩:=hcut;cases kq with
  |zero=>exact absurd HA.out (by simp[watchwordref1_GetLsa.j0])
  |succ j2=>
   have H:=HA.out;clear HA;simp only[watchwordref1_GetLsa.j0]at H
   by_cases c6:x2=true
   ·subst c6
    rw[if_pos rfl]at H;simp only[Option.some.injEq,Prod.mk.injEq]at H;obtain⟨rfl,rfl,rfl,rfl,rfl,rfl⟩:=H;obtain⟨z0,z1,z2,z3⟩:=bc4 B0.out;have z4:=blk_frozen B0.out
    go_wp2_with (first|((with_reducible refine gate_store (t:=45) (p:=4) rfl ?_);refine stV (t:=45) (p:=4) (w1:=((((wc.setCell ⟨g0,0,none⟩ (.int .i64 0)).setCell ⟨g0,1,none⟩ (.int .i64 0)).setCell ⟨g0,2,none⟩ (.int .i64 0)).setCell ⟨g0,3,none⟩ (.slice none 0 0))) (h:=?_);intro w8 hw;replace B0:Aside0 (w8.heap[g0]? =some (.cells #[.int .i64 0,.int .i64 0,.int .i64 0,.slice none 0 0] 45 (0,0))):=⟨mM⟩;replace HB:Aside0 (Below w.heap.size w w8):=⟨mBI⟩;clear hw))
    refine bodyPost_ret (results_ctt rfl _ _ g0 45 #[.int .i64 0,.int .i64 0,.int .i64 0,.slice none 0 0] (0,0) _ rfl mB Try.underlying45 rfl mAD) rfl ?_;exact⟨_,by first|rfl|(simp[errW_none,errW_some] <;> rfl)|(simp[*,errW_none,errW_some] <;> rfl),by first|exact Kd.R_nil _ _ _ _ _|exact Kd.N_nil _ _ _ _ _|exact Kd.V_nil _ _ _ _ _|exact Kd.Q_nil _ _ _ _ _|exact Kd.S_nil _ _ _ _ _,by repeat (first|(with_reducible first|exact HB.out|apply below_alloc|apply pw_below_drewN|apply below_drew1|refine below_set ?_ G1.out)|exact HB.out)⟩
   ·replace c6:=Bool.eq_false_iff.mpr c6
    subst c6;rw[if_neg (show ¬(false=true)by decide)]at H
    by_cases c9:0<=a1
    ·rw[if_pos c9]at H
     have cm:=decide_eq_true c9;clear c9
     by_cases cp:a1<(a0.size:Int)
     ·rw[if_pos cp]at H
      have cq:=decide_eq_true cp;clear cp;obtain⟨j3,j4⟩:∃j_:Int,(wrap64 (a1+1))=j_:=⟨_,rfl⟩
      replace H:(if 0<=(j3)then(if(j3)<(a0.size:Int)then(if 0<=(wrap64 (a1+2))then(if(wrap64 (a1+2))<=(wrap64 (a1+6))then(if(wrap64 (a1+6))<=(a0.size:Int)then((watchwordref1_Of.f j2 (a0.extract ((wrap64 (a1+2)):Int).toNat ((wrap64 (a1+6)):Int).toNat)).bind λt0=>(if 0<=(wrap64 (a1+6))then(if(wrap64 (a1+6))<(a0.size:Int)then(if(wrap64 ((wrap64 (a1+9))+(wrap64 (3*(wrap64 (bt a0 (wrap64 (a1+6))))))))>(a0.size:Int)then(watchwordref1_GetLsa.j1 j2 a0 a1 (wrap64 (bt a0 (wrap64 (a1+6)))) (wrap64 ((wrap64 (a1+9))+(wrap64 (3*(wrap64 (bt a0 (wrap64 (a1+6)))))))) true (wrap64 (bt a0 (j3))) t0 (wrap64 (bt a0 a1)))else(watchwordref1_GetLsa.j1 j2 a0 a1 (wrap64 (bt a0 (wrap64 (a1+6)))) (wrap64 ((wrap64 (a1+9))+(wrap64 (3*(wrap64 (bt a0 (wrap64 (a1+6)))))))) (decide ((wrap64 (bt a0 (wrap64 (a1+6))))>4)) (wrap64 (bt a0 (j3))) t0 (wrap64 (bt a0 a1))))else(none))else(none)))else(none))else(none))else(none))else(none))else(none))=some (r1,r2,r3,r4,r5,r6):=by first|(rw[j4]at H;exact H)|(simp only[j4]at H |-;exact H)
      have j5:(IntKind.i64.wrap (a1+1))=j3:=(i64_w _).trans j4
      by_cases cr:0<=(j3)
      ·rw[if_pos cr]at H
       have ct:=decide_eq_true cr;clear cr
       by_cases cu:(j3)<(a0.size:Int)
       ·rw[if_pos cu]at H
        have cv:=decide_eq_true cu;clear cu;obtain⟨j6,j7⟩:∃j_:Int,(wrap64 (a1+2))=j_:=⟨_,rfl⟩
        replace H:(if 0<=(j6)then(if(j6)<=(wrap64 (a1+6))then(if(wrap64 (a1+6))<=(a0.size:Int)then((watchwordref1_Of.f j2 (a0.extract ((j6):Int).toNat ((wrap64 (a1+6)):Int).toNat)).bind λt0=>(if 0<=(wrap64 (a1+6))then(if(wrap64 (a1+6))<(a0.size:Int)then(if(wrap64 ((wrap64 (a1+9))+(wrap64 (3*(wrap64 (bt a0 (wrap64 (a1+6))))))))>(a0.size:Int)then(watchwordref1_GetLsa.j1 j2 a0 a1 (wrap64 (bt a0 (wrap64 (a1+6)))) (wrap64 ((wrap64 (a1+9))+(wrap64 (3*(wrap64 (bt a0 (wrap64 (a1+6)))))))) true (wrap64 (bt a0 (j3))) t0 (wrap64 (bt a0 a1)))else(watchwordref1_GetLsa.j1 j2 a0 a1 (wrap64 (bt a0 (wrap64 (a1+6)))) (wrap64 ((wrap64 (a1+9))+(wrap64 (3*(wrap64 (bt a0 (wrap64 (a1+6)))))))) (decide ((wrap64 (bt a0 (wrap64 (a1+6))))>4)) (wrap64 (bt a0 (j3))) t0 (wrap64 (bt a0 a1))))else(none))else(none)))else(none))else(none))else(none))=some (r1,r2,r3,r4,r5,r6):=by first|(rw[j7]at H;exact H)|(simp only[j7]at H |-;exact H)
        have j8:(IntKind.i64.wrap (a1+2))=j6:=(i64_w _).trans j7
        by_cases cw:0<=(j6)
        ·rw[if_pos cw]at H
         have cx:=eq_true cw;have cy:=decide_eq_true cw;clear cw
         by_cases cz:(j6)<=(wrap64 (a1+6))
         ·rw[if_pos cz]at H
          have c00:=eq_true cz;have c01:=decide_eq_true cz
          by_cases c19:(wrap64 (a1+6))<=(a0.size:Int)
          ·rw[if_pos c19]at H
           have c04:=eq_true c19;have c06:=decide_eq_true c19;obtain⟨t0,A0,H⟩:=bsE H;(try dsimp only at H);have A1:=Aside0.mk A0;clear A0;obtain⟨j9,ja⟩:∃j_:Int,(wrap64 (a1+6))=j_:=⟨_,rfl⟩
           replace H:(if 0<=(j9)then(if(j9)<(a0.size:Int)then(if(wrap64 ((wrap64 (a1+9))+(wrap64 (3*(wrap64 (bt a0 (j9)))))))>(a0.size:Int)then(watchwordref1_GetLsa.j1 j2 a0 a1 (wrap64 (bt a0 (j9))) (wrap64 ((wrap64 (a1+9))+(wrap64 (3*(wrap64 (bt a0 (j9))))))) true (wrap64 (bt a0 (j3))) t0 (wrap64 (bt a0 a1)))else(watchwordref1_GetLsa.j1 j2 a0 a1 (wrap64 (bt a0 (j9))) (wrap64 ((wrap64 (a1+9))+(wrap64 (3*(wrap64 (bt a0 (j9))))))) (decide ((wrap64 (bt a0 (j9)))>4)) (wrap64 (bt a0 (j3))) t0 (wrap64 (bt a0 a1))))else(none))else(none))=some (r1,r2,r3,r4,r5,r6):=by first|(rw[ja]at H;exact H)|(simp only[ja]at H |-;exact H)
           (try rw[ja]at c00)
           (try rw[ja]at c01)
           (try rw[ja]at cz)
           (try rw[ja]at c04)
           (try rw[ja]at c06)
           (try rw[ja]at c19)
           (try rw[ja]at A1)
           have jb:(IntKind.i64.wrap (a1+6))=j9:=(i64_w _).trans ja
           by_cases c22:0<=(j9)
           ·rw[if_pos c22]at H
            have c0b:=decide_eq_true c22;clear c22
            by_cases c23:(j9)<(a0.size:Int)
            ·rw[if_pos c23]at H
             have c0g:=decide_eq_true c23;clear c23;have K1:=Aside0.mk H;clear H;(try go_wp2);replace B0:=Aside0.mk (blk_drew B0.out);replace HB:=Aside0.mk (below_drew1 HB.out);have p0:0<=(a1:Int):=of_decide_eq_true mE;have q0:a1<(a0.size:Int):=of_decide_eq_true mE;have hx11:=bt_at a0 a1;replace p0:=eq_true p0;replace q0:=eq_true q0;have p3:0<=((j3):Int):=of_decide_eq_true mE;have q3:(j3)<(a0.size:Int):=of_decide_eq_true mE;have hx15:=bt_at a0 (j3);replace p3:=eq_true p3;replace q3:=eq_true q3;refine start_ (n:=19) (S:=λw'=>True) (ds:=[]) mk_19_0 mAD rfl rfl trivial (λhHeld=>?_);refine with_tabW watchwordref1_GetLsa.tab3 watchwordref1_GetLsa.bits3 (λHT_ HW_=>?_);generalize wc.drew=w9 at B0 HB hHeld |-;refine pV 0 24 mk_19_1 ?_;refine pV 1 25 mk_19_2 ?_;refine pV 4 28 #[true,true,false,false,true,false,false,false,false,false,false,false,false,false,false,false,false,false,false] ?_;refine pV 5 29 #[true,true,false,false,true,true,false,false,false,false,false,false,false,false,false,false,false,false,false] ?_;refine pV 6 30 #[true,true,false,false,true,true,true,false,false,false,false,false,false,false,false,false,false,false,false] ?_;refine pV 9 33 #[true,true,false,false,true,true,true,false,false,true,false,false,false,false,false,false,false,false,false] ?_;refine pV 10 34 #[true,true,false,false,true,true,true,false,false,true,true,false,false,false,false,false,false,false,false] ?_;refine pV 11 35 #[true,true,false,false,true,true,true,false,false,true,true,true,false,false,false,false,false,false,false] ?_;refine pV 12 36 #[true,true,false,false,true,true,true,false,false,true,true,true,true,false,false,false,false,false,false] ?_;refine pV 13 37 #[true,true,false,false,true,true,true,false,false,true,true,true,true,true,false,false,false,false,false] ?_;refine pV 14 38 #[true,true,false,false,true,true,true,false,false,true,true,true,true,true,true,false,false,false,false] ?_;refine take_ (i:=2) (N:=some 26) (v:=?_) (a':=?_) #[true,true,true,false,true,true,true,false,false,true,true,true,true,true,true,false,false,false,false] rfl rfl (take_ofW HT_.out HW_.out mAD) (λ_ _ _ h=>h) (Or.inl ⟨by rfl,?_⟩) hHeld ?_ ?_;rotate_left;(·intro w' _;go_simp;with_reducible rfl);rotate_left;(·simp only[Act.put,List.setIfInBounds_toArray,List.set_cons_zero,List.set_cons_succ,i64_w,i32_w];rfl);refine pV 3 27 #[true,true,true,true,true,true,true,false,false,true,true,true,true,true,true,false,false,false,false] ?_;refine take_ (i:=7) (N:=some 31) (v:=?_) (a':=?_) #[true,true,true,true,true,true,true,true,false,true,true,true,true,true,true,false,false,false,false] rfl rfl (take_ofW HT_.out HW_.out mAD) (λ_ _ _ h=>h) (Or.inl ⟨by rfl,?_⟩) hHeld ?_ ?_;rotate_left;(·intro w' _;go_simp;with_reducible rfl);rotate_left;(·simp only[Act.put,List.setIfInBounds_toArray,List.set_cons_zero,List.set_cons_succ,i64_w,i32_w];rfl);refine pV 8 32 mk_19_15 ?_;refine join_ (σ:=Nat) 1 mk_19_18 (λs_=>[(39,.int .i64 t0),(7,.pointer (some ⟨s_,0,none⟩)),(40,.agg #[.int .i64 (wrap64 (bt a0 (j3))),.int .i64 t0,.int .i64 (wrap64 (bt a0 a1)),.slice none 0 0])]) (λs_ w'=>(w'.heap[g0]? =some (.cells #[.int .i64 0,.int .i64 0,.int .i64 0,.slice none 0 0] 45 (0,0)))/\(w'.heap[s_]? =some (.cells #[.int .i64 0,.int .i64 0,.int .i64 0,.slice none 0 0] 45 (0,0)))/\(w.heap.size<=s_)/\(w.heap.size<=s_)/\(g0≠s_)/\(s_≠g0)/\(Below w.heap.size w w')) ?_ ?_
             rotate_left
             ·intro hCont
              refine two_ (i:=15) (j:=17) (Ni:=some 39) (Nj:=some 7) mk_19_16 #[true,true,true,true,true,true,true,true,true,true,true,true,true,true,true,false,false,true,false] rfl rfl rfl rfl (two_of HT_.out mAD) mAQ mAQ (λK hK=>?_) (λK hK=>?_)
              ·skip
               refine goes_ Try.func60 mAD rfl #[.string (a0.extract ((j6):Int).toNat ((j9):Int).toNat)] mBV rfl rfl mCJ ?_
               with_reducible refine(watchwordref1_Of.calls j2 (a0.extract ((j6):Int).toNat ((j9):Int).toNat) t0 _ A1.out).mono ?_
               rintro e w' ⟨rfl,⟨nd,rfl⟩⟩;refine⟨_,rfl,?_⟩;refine hK.out _ _ trivial (λhHeld=>?_);clear hK K;refine nV 39 (h:=?_);refine pV 16 40 mk_19_17 ?_;refine oV 17 (some 7) mk_19_18 (h:=λK hK=>?_);refine box_step ?hg (N:=7) ?hd (cs:=#[.int .i64 0,.int .i64 0,.int .i64 0,.slice none 0 0]) (t:=45) ?hr ?_;(case hd=>rfl);(case hg=>rfl);(case hr=>first|(go_simp;done)|(go_simp;rfl));intro g1 hg wa hbox hb;have B1:=Aside0.mk (hbox);have G2:=Aside0.mk ((mT:w.heap.size<=g1));have G3:=Aside0.mk ((mT:w.heap.size<=g1));replace HB:=Aside0.mk (below_step mC hb);have N0:=Aside0.mk ((mAW:g0≠g1));have N1:=Aside0.mk ((mAX:g1≠g0));replace B0:=Aside0.mk (blk_below mB hb);clear hb hbox hg;refine hK.out _ _ trivial (λhHeld=>?_);clear hK K;refine nV 7 (h:=?_);exact norm_ mAS (hCont (g1) _ ⟨mB,mL,G2.out,G3.out,N0.out,N1.out,mD⟩)
              ·skip
               refine box_step ?hg (N:=7) ?hd (cs:=#[.int .i64 0,.int .i64 0,.int .i64 0,.slice none 0 0]) (t:=45) ?hr ?_;(case hd=>rfl);(case hg=>rfl);(case hr=>first|(go_simp;done)|(go_simp;rfl));intro g1 hg wa hbox hb;have B1:=Aside0.mk (hbox);have G2:=Aside0.mk ((mT:w.heap.size<=g1));have G3:=Aside0.mk ((mT:w.heap.size<=g1));replace HB:=Aside0.mk (below_step mC hb);have N0:=Aside0.mk ((mAW:g0≠g1));have N1:=Aside0.mk ((mAX:g1≠g0));replace B0:=Aside0.mk (blk_below mB hb);clear hb hbox hg;refine hK.out _ _ trivial (λhHeld=>?_);clear hK K;refine nV 7 (h:=?_);refine oV 15 (some 39) #[true,true,true,true,true,true,true,true,true,true,true,true,true,true,true,true,false,true,false] (h:=λK hK=>?_);refine goes_ Try.func60 mAD rfl #[.string (a0.extract ((j6):Int).toNat ((j9):Int).toNat)] mBV rfl rfl mCJ ?_
               with_reducible refine(watchwordref1_Of.calls j2 (a0.extract ((j6):Int).toNat ((j9):Int).toNat) t0 _ A1.out).mono ?_
               rintro e w' ⟨rfl,⟨nd,rfl⟩⟩;refine⟨_,rfl,?_⟩;refine hK.out _ _ trivial (λhHeld=>?_);clear hK K;refine nV 39 (h:=?_);refine pV 16 40 mk_19_18 ?_;exact norm_ mAS (hCont (g1) _ ⟨mB,mL,G2.out,G3.out,N0.out,N1.out,mD⟩)
             rintro g1 wb ⟨h0_,h1_,h2_,h3_,h4_,h5_,h6_⟩;replace B0:Aside0 (wb.heap[g0]? =some (.cells #[.int .i64 0,.int .i64 0,.int .i64 0,.slice none 0 0] 45 (0,0))):=⟨h0_⟩;have B1:Aside0 (wb.heap[g1]? =some (.cells #[.int .i64 0,.int .i64 0,.int .i64 0,.slice none 0 0] 45 (0,0))):=⟨h1_⟩;have G2:Aside0 (w.heap.size<=g1):=⟨h2_⟩;have G3:Aside0 (w.heap.size<=g1):=⟨h3_⟩;have N0:Aside0 (g0≠g1):=⟨h4_⟩;have N1:Aside0 (g1≠g0):=⟨h5_⟩;replace HB:Aside0 (Below w.heap.size w wb):=⟨h6_⟩;clear h0_ h1_ h2_ h3_ h4_ h5_ h6_;have hHeld:=trivial;refine norm_ (a':=?_) ?_ ?_;rotate_left;(·simp only[putAll,Act.put,List.setIfInBounds_toArray,List.set_cons_zero,List.set_cons_succ];rfl);refine one_ (i:=18) (N:=none) mk_19_19 rfl rfl (one_of HT_.out mAD) mAQ (λK hK=>?_);have hs29:wb.cell? ⟨g1,0,none⟩=some (.int .i64 0):=(blk_cell B1.out 0).trans rfl;have hfs29:=blk_frozen B1.out 0;have hns29_0:=N0.out;have hms29_0:=N1.out;have hs30:wb.cell? ⟨g1,1,none⟩=some (.int .i64 0):=(blk_cell B1.out 1).trans rfl;have hfs30:=blk_frozen B1.out 1;have hns30_0:=N0.out;have hms30_0:=N1.out;have hs31:wb.cell? ⟨g1,2,none⟩=some (.int .i64 0):=(blk_cell B1.out 2).trans rfl;have hfs31:=blk_frozen B1.out 2;have hns31_0:=N0.out;have hms31_0:=N1.out;have hs32:wb.cell? ⟨g1,3,none⟩=some (.slice none 0 0):=(blk_cell B1.out 3).trans rfl;have hfs32:=blk_frozen B1.out 3;have hns32_0:=N0.out;have hms32_0:=N1.out;refine skip_ (w1:=?_) mBV rfl ?_ ?_;rotate_left
             ·go_simp
              rfl
             refine hK.out _ _ trivial (λhHeld=>?_);clear hK K;refine done_ (done_of HT_.out mAD) ?_;have p4:0<=((j9):Int):=of_decide_eq_true mE;have q4:(j9)<(a0.size:Int):=of_decide_eq_true mE;have hx24:=bt_at a0 (j9);replace p4:=eq_true p4;replace q4:=eq_true q4
             go_upto_region 6 with(fail)
             go_cut [58] (λv58 wc=>∃(kq:Nat) (x3:Bool),v58= .bool x3/\Aside0 (watchwordref1_GetLsa.j1 kq a0 a1 (wrap64 (bt a0 (j9))) (wrap64 ((wrap64 (a1+9))+(wrap64 (3*(wrap64 (bt a0 (j9))))))) x3 (wrap64 (bt a0 (j3))) t0 (wrap64 (bt a0 a1))=some (r1,r2,r3,r4,r5,r6))/\Aside0 (kq<=j2)/\Aside0 (wc.heap[g0]? =some (.cells #[.int .i64 0,.int .i64 0,.int .i64 0,(.slice none 0 0)] 45 (0,0)))/\Aside0 (wc.heap[g1]? =some (.cells #[.int .i64 (wrap64 (bt a0 (j3))),.int .i64 t0,.int .i64 (wrap64 (bt a0 a1)),(.slice none 0 0)] 45 (0,0)))/\Aside0 (Below w.heap.size w wc))
             case first=>
              have H:=K1.out;clear K1
              by_cases c33:(wrap64 ((wrap64 (a1+9))+(wrap64 (3*(wrap64 (bt a0 (j9)))))))>(a0.size:Int)
              ·rw[if_pos c33]at H
               have c0l:decide ((a0.size:Int)<(wrap64 ((wrap64 (a1+9))+(wrap64 (3*(wrap64 (bt a0 (j9))))))))=true:=decide_eq_true c33;clear c33
               (first|rw[c0l]|(simp only[i64_w,i32_w];rw[c0l])|skip)
               have H':=Aside0.mk H;clear H;go_wp2;go_meet
               case rel=>exact⟨_,(true),mK,H',⟨by have:=HJ2.out;first|omega|exact Nat.le_refl _⟩,⟨by(with_reducible repeat (first|refine blk_drewN ?_ _|refine blk_drew ?_ |refine blk_alloc ?_ _));refine blk_far ?_ N0.out _;(with_reducible repeat (first|refine blk_drewN ?_ _|refine blk_drew ?_ |refine blk_alloc ?_ _));refine blk_far ?_ N0.out _;(with_reducible repeat (first|refine blk_drewN ?_ _|refine blk_drew ?_ |refine blk_alloc ?_ _));refine blk_far ?_ N0.out _;(with_reducible repeat (first|refine blk_drewN ?_ _|refine blk_drew ?_ |refine blk_alloc ?_ _));refine blk_far ?_ N0.out _;(with_reducible repeat (first|refine blk_drewN ?_ _|refine blk_drew ?_ |refine blk_alloc ?_ _));exact B0.out⟩,⟨by(with_reducible repeat (first|refine blk_drewN ?_ _|refine blk_drew ?_ |refine blk_alloc ?_ _));refine blk_put (cs:=#[.int .i64 (wrap64 (bt a0 (j3))),.int .i64 t0,.int .i64 (wrap64 (bt a0 a1)),.slice none 0 0]) ?_ 3 _ rfl;(with_reducible repeat (first|refine blk_drewN ?_ _|refine blk_drew ?_ |refine blk_alloc ?_ _));refine blk_put (cs:=#[.int .i64 (wrap64 (bt a0 (j3))),.int .i64 t0,.int .i64 0,.slice none 0 0]) ?_ 2 _ rfl;(with_reducible repeat (first|refine blk_drewN ?_ _|refine blk_drew ?_ |refine blk_alloc ?_ _));refine blk_put (cs:=#[.int .i64 (wrap64 (bt a0 (j3))),.int .i64 0,.int .i64 0,.slice none 0 0]) ?_ 1 _ rfl;(with_reducible repeat (first|refine blk_drewN ?_ _|refine blk_drew ?_ |refine blk_alloc ?_ _));refine blk_put (cs:=#[.int .i64 0,.int .i64 0,.int .i64 0,.slice none 0 0]) ?_ 0 _ rfl;(with_reducible repeat (first|refine blk_drewN ?_ _|refine blk_drew ?_ |refine blk_alloc ?_ _));exact B1.out⟩,⟨by repeat (first|(with_reducible first|exact HB.out|apply below_alloc|apply pw_below_drewN|apply below_drew1|refine below_set ?_ G1.out|refine below_set ?_ G3.out)|exact HB.out)⟩⟩
              ·rw[if_neg c33]at H
               have c0l:decide ((a0.size:Int)<(wrap64 ((wrap64 (a1+9))+(wrap64 (3*(wrap64 (bt a0 (j9))))))))=false:=decide_eq_false c33;clear c33
               (first|rw[c0l]|(simp only[i64_w,i32_w];rw[c0l])|skip)
               have H':=Aside0.mk H;clear H;go_wp2;go_meet
               case rel=>exact⟨_,(decide ((wrap64 (bt a0 (j9)))>4)),(by first|rfl|(simp;done)|(simp only[<-ja] <;> (first|rfl|simp))|(simp[*];done)),H',⟨by have:=HJ2.out;first|omega|exact Nat.le_refl _⟩,⟨by(with_reducible repeat (first|refine blk_drewN ?_ _|refine blk_drew ?_ |refine blk_alloc ?_ _));refine blk_far ?_ N0.out _;(with_reducible repeat (first|refine blk_drewN ?_ _|refine blk_drew ?_ |refine blk_alloc ?_ _));refine blk_far ?_ N0.out _;(with_reducible repeat (first|refine blk_drewN ?_ _|refine blk_drew ?_ |refine blk_alloc ?_ _));refine blk_far ?_ N0.out _;(with_reducible repeat (first|refine blk_drewN ?_ _|refine blk_drew ?_ |refine blk_alloc ?_ _));refine blk_far ?_ N0.out _;(with_reducible repeat (first|refine blk_drewN ?_ _|refine blk_drew ?_ |refine blk_alloc ?_ _));exact B0.out⟩,⟨by(with_reducible repeat (first|refine blk_drewN ?_ _|refine blk_drew ?_ |refine blk_alloc ?_ _));refine blk_put (cs:=#[.int .i64 (wrap64 (bt a0 (j3))),.int .i64 t0,.int .i64 (wrap64 (bt a0 a1)),.slice none 0 0]) ?_ 3 _ rfl;(with_reducible repeat (first|refine blk_drewN ?_ _|refine blk_drew ?_ |refine blk_alloc ?_ _));refine blk_put (cs:=#[.int .i64 (wrap64 (bt a0 (j3))),.int .i64 t0,.int .i64 0,.slice none 0 0]) ?_ 2 _ rfl;(with_reducible repeat (first|refine blk_drewN ?_ _|refine blk_drew ?_ |refine blk_alloc ?_ _));refine blk_put (cs:=#[.int .i64 (wrap64 (bt a0 (j3))),.int .i64 0,.int .i64 0,.slice none 0 0]) ?_ 1 _ rfl;(with_reducible repeat (first|refine blk_drewN ?_ _|refine blk_drew ?_ |refine blk_alloc ?_ _));refine blk_put (cs:=#[.int .i64 0,.int .i64 0,.int .i64 0,.slice none 0 0]) ?_ 0 _ rfl;(with_reducible repeat (first|refine blk_drewN ?_ _|refine blk_drew ?_ |refine blk_alloc ?_ _));exact B1.out⟩,⟨by repeat (first|(with_reducible first|exact HB.out|apply below_alloc|apply pw_below_drewN|apply below_drew1|refine below_set ?_ G1.out|refine below_set ?_ G3.out)|exact HB.out)⟩⟩
             case rest=>
              clear K1;(try clear c1);(try clear p1);(try clear q1);(try clear hx1);(try clear c2);(try clear p2);(try clear q2);(try clear hx2);(try clear c3);(try clear c5);(try clear c7);(try clear c6);(try clear p6);(try clear c9);(try clear cm);(try clear cp);(try clear cq);(try clear p0);(try clear q0);(try clear hx11);(try clear cr);(try clear ct);(try clear cu);(try clear cv);(try clear p3);(try clear q3);(try clear hx15);(try clear cw);(try clear cx);(try clear cy);(try clear cz);(try clear c00);(try clear c01);(try clear c19);(try clear c04);(try clear c06);(try clear c22);(try clear c0b);(try clear c23);(try clear c0g);(try clear p4);(try clear q4);(try clear hx24);(try clear c33);(try clear c0l);(try clear z0);(try clear z1);(try clear z2);(try clear z3);(try clear z4);(try clear hfz7_1);(try clear hfz7_2);(try clear hfz7_3);(try clear p0);(try clear p3);(try clear p2);(try clear p4);(try clear q0);(try clear q3);(try clear q4);obtain⟨kq,x3,rfl,HA,HJ24,B0,B1,HB⟩:=hcut;cases kq with
              |zero=>exact absurd HA.out (by simp[watchwordref1_GetLsa.j1])
              |succ jc=>
               have H:=HA.out;clear HA;simp only[watchwordref1_GetLsa.j1]at H
               by_cases c34:x3=true
               ·subst c34
                rw[if_pos rfl]at H;simp only[Option.some.injEq,Prod.mk.injEq]at H;obtain⟨rfl,rfl,rfl,rfl,rfl,rfl⟩:=H;have n0:=N0.out;have n1:=N1.out;obtain⟨z5,z6,z7,z8⟩:=bc4 B0.out;have z9:=blk_frozen B0.out
                go_wp2_with (first|((with_reducible refine gate_store (t:=45) (p:=4) rfl ?_);refine stV (t:=45) (p:=4) (w1:=((((wc.setCell ⟨g0,0,none⟩ (.int .i64 0)).setCell ⟨g0,1,none⟩ (.int .i64 0)).setCell ⟨g0,2,none⟩ (.int .i64 0)).setCell ⟨g0,3,none⟩ (.slice none 0 0))) (h:=?_);intro wf hw;replace B0:Aside0 (wf.heap[g0]? =some (.cells #[.int .i64 0,.int .i64 0,.int .i64 0,.slice none 0 0] 45 (0,0))):=⟨mM⟩;replace B1:Aside0 (wf.heap[g1]? =some (.cells #[.int .i64 (wrap64 (bt a0 (j3))),.int .i64 t0,.int .i64 (wrap64 (bt a0 a1)),.slice none 0 0] 45 (0,0))):=⟨mQ⟩;replace HB:Aside0 (Below w.heap.size w wf):=⟨mAR⟩;clear hw))
                refine bodyPost_ret (results_ctt rfl _ _ g0 45 #[.int .i64 0,.int .i64 0,.int .i64 0,.slice none 0 0] (0,0) _ rfl mB Try.underlying45 rfl mAD) rfl ?_;exact⟨_,by first|rfl|(simp[errW_none,errW_some] <;> rfl)|(simp only[<-j4,<-j7,<-ja];first|rfl|(simp[errW_none,errW_some] <;> rfl))|(simp[*,errW_none,errW_some] <;> rfl),by first|exact Kd.R_nil _ _ _ _ _|exact Kd.N_nil _ _ _ _ _|exact Kd.V_nil _ _ _ _ _|exact Kd.Q_nil _ _ _ _ _|exact Kd.S_nil _ _ _ _ _,by repeat (first|(with_reducible first|exact HB.out|apply below_alloc|apply pw_below_drewN|apply below_drew1|refine below_set ?_ G1.out|refine below_set ?_ G3.out)|exact HB.out)⟩
               ·replace c34:=Bool.eq_false_iff.mpr c34
                subst c34;rw[if_neg (show ¬(false=true)by decide)]at H;have H':=Aside0.mk H;clear H;go_wp2
                go_loopg [10] jc (λkq v10 w'=>∃(x4:Int) (x5:List (S109)) (u382003:Value),v10= .int .i64 x4/\Aside0 (watchwordref1_GetLsa.l0 kq a0 a1 (wrap64 (bt a0 (j9))) (wrap64 ((wrap64 (a1+9))+(wrap64 (3*(wrap64 (bt a0 (j9))))))) x4 (wrap64 (bt a0 (j3))) t0 (wrap64 (bt a0 a1)) x5=some (r1,r2,r3,r4,r5,r6))/\Aside0 (kq<=jc)/\Aside0 (Kd.R k109 109 w' w.heap.size (λ_=>True) u382003 x5)/\Aside0 (w'.heap[g0]? =some (.cells #[.int .i64 0,.int .i64 0,.int .i64 0,(.slice none 0 0)] 45 (0,0)))/\Aside0 (w'.heap[g1]? =some (.cells #[.int .i64 (wrap64 (bt a0 (j3))),.int .i64 t0,.int .i64 (wrap64 (bt a0 a1)),u382003] 45 (0,0)))/\Aside0 (Below w.heap.size w w'))
                case atStart=>exact⟨(0),(([]:List (S109))),(.slice none 0 0),mK,H',⟨Nat.le_refl _⟩,⟨by first|exact Kd.R_nil _ _ _ _ _|exact Kd.N_nil _ _ _ _ _|exact Kd.V_nil _ _ _ _ _|exact Kd.Q_nil _ _ _ _ _|exact Kd.S_nil _ _ _ _ _⟩,⟨by(with_reducible repeat (first|refine blk_drewN ?_ _|refine blk_drew ?_ |refine blk_alloc ?_ _));exact B0.out⟩,⟨by(with_reducible repeat (first|refine blk_drewN ?_ _|refine blk_drew ?_ |refine blk_alloc ?_ _));exact B1.out⟩,⟨by repeat (first|(with_reducible first|exact HB.out|apply below_alloc|apply pw_below_drewN|apply below_drew1|refine below_set ?_ G1.out|refine below_set ?_ G3.out)|exact HB.out)⟩⟩
                case round=>
                 clear H';(try clear c1);(try clear p1);(try clear q1);(try clear hx1);(try clear c2);(try clear p2);(try clear q2);(try clear hx2);(try clear c3);(try clear c5);(try clear c7);(try clear c6);(try clear p6);(try clear c9);(try clear cm);(try clear cp);(try clear cq);(try clear p0);(try clear q0);(try clear hx11);(try clear cr);(try clear ct);(try clear cu);(try clear cv);(try clear p3);(try clear q3);(try clear hx15);(try clear cw);(try clear cx);(try clear cy);(try clear cz);(try clear c00);(try clear c01);(try clear c19);(try clear c04);(try clear c06);(try clear c22);(try clear c0b);(try clear c23);(try clear c0g);(try clear p4);(try clear q4);(try clear hx24);(try clear c33);(try clear c0l);(try clear c34);(try clear c35);(try clear z5);(try clear z6);(try clear z7);(try clear z8);(try clear z0);(try clear z1);(try clear z2);(try clear z3);(try clear z9);(try clear hfz36_1);(try clear hfz36_2);(try clear hfz36_3);(try clear z4);(try clear hfz7_1);(try clear hfz7_2);(try clear hfz7_3);(try clear p1);(try clear p0);(try clear p3);(try clear p2);(try clear p4);(try clear p6);(try clear q1);(try clear q0);(try clear q3);(try clear q2);(try clear q4);obtain⟨x4,x5,u382003,rfl,HA,HK3,O0,B0,B1,HB⟩:=hrel;cases gk with
                 |zero=>exact absurd HA.out (by simp[watchwordref1_GetLsa.l0])
                 |succ k3=>
                  have H:=HA.out;clear HA;simp only[watchwordref1_GetLsa.l0]at H
                  by_cases c38:x4<(wrap64 (bt a0 (j9)))
                  ·rw[if_pos c38]at H
                   have c1j:=decide_eq_true c38;clear c38;obtain⟨jd,je⟩:∃j_:Int,(wrap64 ((wrap64 (a1+7))+(wrap64 (3*x4))))=j_:=⟨_,rfl⟩
                   replace H:(if 0<=(jd)then(if(jd)<(a0.size:Int)then(if 0<=(wrap64 ((jd)+1))then(if(wrap64 ((jd)+1))<=(wrap64 ((jd)+3))then(if(wrap64 ((jd)+3))<=(a0.size:Int)then((watchwordref1_Of.f k3 (a0.extract ((wrap64 ((jd)+1)):Int).toNat ((wrap64 ((jd)+3)):Int).toNat)).bind λt1=>(if x5.length<8796093022208 then(watchwordref1_GetLsa.l0 k3 a0 a1 (wrap64 (bt a0 (j9))) (wrap64 ((wrap64 (a1+9))+(wrap64 (3*(wrap64 (bt a0 (j9))))))) (wrap64 (x4+1)) (wrap64 (bt a0 (j3))) t0 (wrap64 (bt a0 a1)) (x5++[(⟨wrap64 (bt a0 (jd)),t1⟩:S109)]))else(none)))else(none))else(none))else(none))else(none))else(none))=some (r1,r2,r3,r4,r5,r6):=by first|(rw[je]at H;exact H)|(simp only[je]at H |-;exact H)
                   have jf:(IntKind.i64.wrap ((wrap64 (a1+7))+(wrap64 (3*x4))))=jd:=(i64_w _).trans je
                   by_cases c40:0<=(jd)
                   ·rw[if_pos c40]at H
                    have c1o:=decide_eq_true c40;clear c40
                    by_cases c41:(jd)<(a0.size:Int)
                    ·rw[if_pos c41]at H
                     have c1t:=decide_eq_true c41;clear c41;obtain⟨jg,jh⟩:∃j_:Int,(wrap64 ((jd)+1))=j_:=⟨_,rfl⟩
                     replace H:(if 0<=(jg)then(if(jg)<=(wrap64 ((jd)+3))then(if(wrap64 ((jd)+3))<=(a0.size:Int)then((watchwordref1_Of.f k3 (a0.extract ((jg):Int).toNat ((wrap64 ((jd)+3)):Int).toNat)).bind λt1=>(if x5.length<8796093022208 then(watchwordref1_GetLsa.l0 k3 a0 a1 (wrap64 (bt a0 (j9))) (wrap64 ((wrap64 (a1+9))+(wrap64 (3*(wrap64 (bt a0 (j9))))))) (wrap64 (x4+1)) (wrap64 (bt a0 (j3))) t0 (wrap64 (bt a0 a1)) (x5++[(⟨wrap64 (bt a0 (jd)),t1⟩:S109)]))else(none)))else(none))else(none))else(none))=some (r1,r2,r3,r4,r5,r6):=by first|(rw[jh]at H;exact H)|(simp only[jh]at H |-;exact H)
                     have ji:(IntKind.i64.wrap ((jd)+1))=jg:=(i64_w _).trans jh
                     by_cases c44:0<=(jg)
                     ·rw[if_pos c44]at H
                      have c1y:=eq_true c44;have c20:=decide_eq_true c44;clear c44
                      by_cases c45:(jg)<=(wrap64 ((jd)+3))
                      ·rw[if_pos c45]at H
                       have c27:=eq_true c45;have c29:=decide_eq_true c45
                       by_cases c46:(wrap64 ((jd)+3))<=(a0.size:Int)
                       ·rw[if_pos c46]at H
                        have c2d:=eq_true c46;have c2f:=decide_eq_true c46;obtain⟨t1,A2,H⟩:=bsE H;(try dsimp only at H);have A3:=Aside0.mk A2;clear A2
                        by_cases c48:x5.length<8796093022208
                        ·rw[if_pos c48]at H
                         have L0:=Aside0.mk c48;clear c48;obtain⟨y9,Y0⟩:∃y_:List (S109),y_=(x5++[(⟨wrap64 (bt a0 (jd)),t1⟩:S109)]):=⟨_,rfl⟩
                         replace H:(watchwordref1_GetLsa.l0 k3 a0 a1 (wrap64 (bt a0 (j9))) (wrap64 ((wrap64 (a1+9))+(wrap64 (3*(wrap64 (bt a0 (j9))))))) (wrap64 (x4+1)) (wrap64 (bt a0 (j3))) t0 (wrap64 (bt a0 a1)) y9)=some (r1,r2,r3,r4,r5,r6):=by first|(rw[Y0];with_reducible exact H)|(have H2_:=(Option.bind_some _ _).symm.trans H;rw[Y0];with_reducible exact H2_)|(have H2_:=(Option.bind_some _ _).symm.trans H;with_reducible exact H2_)|with_reducible exact H|(rw[Y0];exact H)|exact H
                         have Y1:=Aside0.mk Y0;clear Y0;have H':=Aside0.mk H;clear H;(try go_wp2);replace O0:=Aside0.mk (Kd.R_drew O0.out);replace B0:=Aside0.mk (blk_drew B0.out);replace B1:=Aside0.mk (blk_drew B1.out);replace HB:=Aside0.mk (below_drew1 HB.out);have p5:0<=((jd):Int):=of_decide_eq_true mE;have q5:(jd)<(a0.size:Int):=of_decide_eq_true mE;have hx42:=bt_at a0 (jd);replace p5:=eq_true p5;replace q5:=eq_true q5;refine start_ (n:=18) (S:=λw'=>w'.cell? ⟨g1,0,none⟩=some (.int .i64 (wrap64 (bt a0 (j3))))/\w'.cell? ⟨g1,1,none⟩=some (.int .i64 t0)/\w'.cell? ⟨g1,2,none⟩=some (.int .i64 (wrap64 (bt a0 a1)))/\w'.cell? ⟨g1,3,none⟩=some (u382003)) (ds:=[17]) mk_18_0 mAD rfl rfl ⟨(blk_cell B1.out 0).trans rfl,(blk_cell B1.out 1).trans rfl,(blk_cell B1.out 2).trans rfl,(blk_cell B1.out 3).trans rfl⟩ (λhHeld=>?_);refine with_tabW watchwordref1_GetLsa.tab12 watchwordref1_GetLsa.bits12 (λHT_ HW_=>?_);generalize wr.drew=wg at O0 B0 B1 HB hHeld |-;refine pV 0 70 mk_18_1 ?_;refine pV 2 72 #[true,false,true,false,false,false,false,false,false,false,false,false,false,false,false,false,false,false] ?_;refine pV 3 73 #[true,false,true,true,false,false,false,false,false,false,false,false,false,false,false,false,false,false] ?_;refine pV 6 76 #[true,false,true,true,false,false,true,false,false,false,false,false,false,false,false,false,false,false] ?_;refine pV 7 77 #[true,false,true,true,false,false,true,true,false,false,false,false,false,false,false,false,false,false] ?_;refine pV 8 78 #[true,false,true,true,false,false,true,true,true,false,false,false,false,false,false,false,false,false] ?_;refine pV 9 79 #[true,false,true,true,false,false,true,true,true,true,false,false,false,false,false,false,false,false] ?_;refine pV 10 80 #[true,false,true,true,false,false,true,true,true,true,true,false,false,false,false,false,false,false] ?_;refine pV 11 81 #[true,false,true,true,false,false,true,true,true,true,true,true,false,false,false,false,false,false] ?_;refine tV 1 (some 71) #[true,true,true,true,false,false,true,true,true,true,true,true,false,false,false,false,false,false] (hy:=Or.inl ⟨by rfl,by rintro w' ⟨s0,s1,s2,s3⟩;go_simp;with_reducible rfl⟩) (h:=?_);refine tV 4 (some 74) #[true,true,true,true,true,false,true,true,true,true,true,true,false,false,false,false,false,false] (hy:=Or.inl ⟨by rfl,by rintro w' ⟨s0,s1,s2,s3⟩;go_simp;with_reducible rfl⟩) (h:=?_);refine pV 5 75 mk_18_12 ?_;refine oV 12 (some 82) mk_18_13 (h:=λK hK=>?_);refine goes_ Try.func60 mAD rfl #[.string (a0.extract ((jg):Int).toNat ((wrap64 ((jd)+3)):Int).toNat)] mBV rfl rfl (by(try simp only[List.map_toArray,List.map_cons,List.map_nil]);first|done|(simp only[je,jh];rfl)|rfl|(simp only[List.length_drop,List.length_take];rfl)) ?_
                         with_reducible refine(watchwordref1_Of.calls k3 (a0.extract ((jg):Int).toNat ((wrap64 ((jd)+3)):Int).toNat) t1 _ A3.out).mono ?_
                         rintro e w' ⟨rfl,⟨nd,rfl⟩⟩;refine⟨_,rfl,?_⟩;refine hK.out _ _ ⟨(blk_cell B1.out 0).trans rfl,(blk_cell B1.out 1).trans rfl,(blk_cell B1.out 2).trans rfl,(blk_cell B1.out 3).trans rfl⟩ (λhHeld=>?_);clear hK K;refine nV 82 (h:=?_);refine pV 13 83 mk_18_14 ?_;refine oV 14 (some 84) mk_18_15 (h:=λK hK=>?_);refine value_ (w1:=?_) (v:=?_) mBV rfl ?_ ?_;rotate_left 2
                         ·go_simp
                          constructor
                          ·rfl
                          ·rfl
                         refine hK.out _ _ ⟨(blk_cell (blk_alloc B1.out _) 0).trans rfl,(blk_cell (blk_alloc B1.out _) 1).trans rfl,(blk_cell (blk_alloc B1.out _) 2).trans rfl,(blk_cell (blk_alloc B1.out _) 3).trans rfl⟩ (λhHeld=>?_);clear hK K;refine nV 84 (h:=?_);refine oV 15 (some 85) mk_18_16 (h:=λK hK=>?_);refine Kd.R_append_step k109 (w0:=w) w.heap.size mBV (.tmp 71) (.tmp 84) 43 109 (.agg #[(.int .i64 0),(.int .i64 0)]) 16 rfl Try.underlying43 info109 rfl mAQ mBQ u382003 x5 (⟨wrap64 (bt a0 (jd)),t1⟩:S109) [.int .i64 (wrap64 (bt a0 (jd))),.int .i64 t1] (λ_=>True) (λ_=>False) rfl rfl ?aP (λ_ hk=>hk.elim) ?aF ?aO ?aB ?aS ?aL ?_
                         (case aP=>exact k109_mkM _ _ _ (⟨wrap64 (bt a0 (jd)),t1⟩:S109))
                         (case aB=>exact mD)
                         (case aF=>exact(λ_ _=>trivial))
                         (case aO=>exact mN)
                         (case aS=>exact(below_size mD))
                         (case aL=>have:=L0.out;omega)
                         intro v384 wi ho hb hg hat;rw[<-Y1.out]at ho;replace B0:=Aside0.mk (blk_grown (g:=g0) (o:= .cells #[.int .i64 0,.int .i64 0,.int .i64 0,.slice none 0 0] 45 (0,0)) mB hg (Kd.R_ne O0.out B0.out mAQ));replace B1:=Aside0.mk (blk_grown (g:=g1) (o:= .cells #[.int .i64 (wrap64 (bt a0 (j3))),.int .i64 t0,.int .i64 (wrap64 (bt a0 a1)),u382003] 45 (0,0)) mL hg (Kd.R_ne O0.out B1.out mAQ));replace HB:=Aside0.mk (hb);have O1:=Aside0.mk (ho);clear O0;clear ho hb hg hat;obtain⟨s4,s5,s6⟩:=Kd.R_slice O1.out
                         (first|subst s6|(injection s6 with f1_ f2_ f3_;have f4_:=f1_.symm;have f5_:=f3_.symm;clear f1_ f2_ f3_;subst f4_;subst f5_))
                         refine hK.out _ _ ⟨(blk_cell B1.out 0).trans rfl,(blk_cell B1.out 1).trans rfl,(blk_cell B1.out 2).trans rfl,(blk_cell B1.out 3).trans rfl⟩ (λhHeld=>?_);clear hK K;refine nV 85 (h:=?_);refine pV 16 86 mk_18_17 ?_;refine last_ (i:=17) (N:=none) mk_18_18 rfl rfl (one_of HT_.out mAD) mAQ (λK hK=>?_);have hs52:wi.cell? ⟨g1,3,none⟩=some (u382003):=(blk_cell B1.out 3).trans rfl;have hfs52:=blk_frozen B1.out 3;have hns52_0:=N0.out;have hms52_0:=N1.out;refine skip_ (w1:=?_) mBV rfl ?_ ?_;rotate_left
                         ·go_simp
                          rfl
                         refine hK.out _ _ ?_;clear hK K;refine done_ (done_of HT_.out mAD) ?_;(try go_wp2)
                         go_roundg k3
                         case measure=>have:=HJ2.out;have:=HJ24.out;have:=HK3.out;omega
                         case rel=>exact⟨(wrap64 (x4+1)),(y9),(.slice s4 y9.length s5),mK,H',⟨by have:=HJ2.out;have:=HJ24.out;have:=HK3.out;omega⟩,⟨by(with_reducible repeat (first|apply Kd.R_alloc|apply Kd.R_drewN|apply Kd.R_drew));exact Kd.R_mono (Kd.R_far (p:=⟨g1,3,none⟩) (Kd.R_types O1.out B1.out mAQ) (λ_ hk=>hk.2) (.slice s4 y9.length s5)) (λ_ hk=>trivial)⟩,⟨by(with_reducible repeat (first|refine blk_drewN ?_ _|refine blk_drew ?_ |refine blk_alloc ?_ _));refine blk_far ?_ N0.out _;(with_reducible repeat (first|refine blk_drewN ?_ _|refine blk_drew ?_ |refine blk_alloc ?_ _));exact B0.out⟩,⟨by(with_reducible repeat (first|refine blk_drewN ?_ _|refine blk_drew ?_ |refine blk_alloc ?_ _));refine blk_put (cs:=#[.int .i64 (wrap64 (bt a0 (j3))),.int .i64 t0,.int .i64 (wrap64 (bt a0 a1)),u382003]) ?_ 3 _ rfl;(with_reducible repeat (first|refine blk_drewN ?_ _|refine blk_drew ?_ |refine blk_alloc ?_ _));exact B1.out⟩,⟨by repeat (first|(with_reducible first|exact HB.out|apply below_alloc|apply pw_below_drewN|apply below_drew1|refine below_set ?_ G1.out|refine below_set ?_ G3.out)|exact HB.out)⟩⟩
                        ·rw[if_neg c48]at H
                         exact absurd H mAM
                       ·rw[if_neg c46]at H
                        exact absurd H mAM
                      ·rw[if_neg c45]at H
                       exact absurd H mAM
                     ·rw[if_neg c44]at H
                      exact absurd H mAM
                    ·rw[if_neg c41]at H
                     exact absurd H mAM
                   ·rw[if_neg c40]at H
                    exact absurd H mAM
                  ·rw[if_neg c38]at H
                   have c1j:=decide_eq_false c38;clear c38;obtain⟨⟨t2,t3⟩,A4,H⟩:=bsE H;(try dsimp only at H);have A5:=Aside0.mk A4;clear A4
                   by_cases c54:t3=0
                   ·rw[if_pos c54]at H
                    have c2w:=beq_iff_eq.mpr c54;have c2y:=bne_eq_false_iff_eq.mpr c54;clear c54
                    by_cases c55:0<=a1
                    ·rw[if_pos c55]at H
                     have c36:=eq_true c55;have c39:=decide_eq_true c55;clear c55
                     by_cases c56:a1<=(wrap64 ((wrap64 (a1+9))+(wrap64 (3*(wrap64 (bt a0 (j9)))))))
                     ·rw[if_pos c56]at H
                      have c3e:=eq_true c56;have c3g:=decide_eq_true c56
                      by_cases c57:(wrap64 ((wrap64 (a1+9))+(wrap64 (3*(wrap64 (bt a0 (j9)))))))<=(a0.size:Int)
                      ·rw[if_pos c57]at H
                       have c3k:=eq_true c57;have c3m:=decide_eq_true c57
                       by_cases c58:t2.toList=(a0.extract (a1:Int).toNat ((wrap64 ((wrap64 (a1+9))+(wrap64 (3*(wrap64 (bt a0 (j9))))))):Int).toNat).toList
                       ·rw[if_pos c58]at H
                        have c3q:=beq_iff_eq.mpr c58;have c3s:=bne_eq_false_iff_eq.mpr c58;clear c58;simp only[Option.some.injEq,Prod.mk.injEq]at H;obtain⟨rfl,rfl,rfl,rfl,rfl,rfl⟩:=H;have n2:=N1.out;have n3:=N0.out;obtain⟨za,zb,zc,zd⟩:=bc4 B1.out;have ze:=blk_frozen B1.out;obtain⟨s7,s8,s9⟩:=Kd.R_slice O0.out;subst s9
                        go_wp2_with (first|((with_reducible refine gate_callee (f:=54) rfl ?_);refine goesL_ (some 89) rfl rfl Try.func54 mAD rfl #[.agg #[.int .i64 (wrap64 (bt a0 (j3))),.int .i64 t0,.int .i64 (wrap64 (bt a0 a1)),.slice s7 x5.length s8]] rfl mAT ?_;(with_reducible refine(watchwordref1_PutLsa.calls k3 (wrap64 (bt a0 (j3))) t0 (wrap64 (bt a0 a1)) _ _ x5 t2 t3 _ ?side1 ?side2 A5.out).mono ?_);(case side1=>repeat (first|exact(Kd.R_reads' O0.out).2.2 |(with_reducible refine Kd.C_alloc ?_ _)|(with_reducible refine Kd.C_drewN ?_ _)|(with_reducible refine Kd.C_drew ?_)));(case side2=>exact(Kd.R_reads' O0.out).2.1);rintro e wk ⟨rfl,hb⟩;refine⟨_,rfl,?_⟩;replace O0:=Aside0.mk (Kd.R_below mN hb);replace B0:=Aside0.mk (blk_below mB hb);replace B1:=Aside0.mk (blk_below mL hb);replace HB:=Aside0.mk (below_step mD hb);(try clear hb);obtain⟨zf,zg,zh,zi⟩:=bc4 B1.out;have zj:=blk_frozen B1.out;obtain⟨zk,zl,zm,zn⟩:=bc4 B0.out;have zo:=blk_frozen B0.out)|((with_reducible refine gate_store (t:=45) (p:=4) rfl ?_);refine stV (t:=45) (p:=4) (w1:=((((wk.setCell ⟨g0,0,none⟩ (.int .i64 (wrap64 (bt a0 (j3))))).setCell ⟨g0,1,none⟩ (.int .i64 t0)).setCell ⟨g0,2,none⟩ (.int .i64 (wrap64 (bt a0 a1)))).setCell ⟨g0,3,none⟩ (.slice s7 x5.length s8))) (h:=?_);intro wm hw;replace O0:Aside0 (Kd.R k109 109 wm w.heap.size (λ_=>True) (.slice s7 x5.length s8) x5):=⟨(by rw[hw];exact(by(with_reducible repeat (first|apply Kd.R_alloc|apply Kd.R_drewN|apply Kd.R_drew));exact Kd.R_mono (Kd.R_far (p:=⟨g0,3,none⟩) (Kd.R_far (p:=⟨g0,2,none⟩) (Kd.R_far (p:=⟨g0,1,none⟩) (Kd.R_far (p:=⟨g0,0,none⟩) (Kd.R_types O0.out B0.out mAQ) (λ_ hk=>hk.2) (.int .i64 (wrap64 (bt a0 (j3))))) (λ_ hk=>hk.2) (.int .i64 t0)) (λ_ hk=>hk.2) (.int .i64 (wrap64 (bt a0 a1)))) (λ_ hk=>hk.2) (.slice s7 x5.length s8)) (λ_ hk=>trivial)))⟩;replace B0:Aside0 (wm.heap[g0]? =some (.cells #[.int .i64 (wrap64 (bt a0 (j3))),.int .i64 t0,.int .i64 (wrap64 (bt a0 a1)),.slice s7 x5.length s8] 45 (0,0))):=⟨(by rw[hw];exact(by(with_reducible repeat (first|refine blk_drewN ?_ _|refine blk_drew ?_ |refine blk_alloc ?_ _));refine blk_put (cs:=#[.int .i64 (wrap64 (bt a0 (j3))),.int .i64 t0,.int .i64 (wrap64 (bt a0 a1)),.slice none 0 0]) ?_ 3 _ rfl;(with_reducible repeat (first|refine blk_drewN ?_ _|refine blk_drew ?_ |refine blk_alloc ?_ _));refine blk_put (cs:=#[.int .i64 (wrap64 (bt a0 (j3))),.int .i64 t0,.int .i64 0,.slice none 0 0]) ?_ 2 _ rfl;(with_reducible repeat (first|refine blk_drewN ?_ _|refine blk_drew ?_ |refine blk_alloc ?_ _));refine blk_put (cs:=#[.int .i64 (wrap64 (bt a0 (j3))),.int .i64 0,.int .i64 0,.slice none 0 0]) ?_ 1 _ rfl;(with_reducible repeat (first|refine blk_drewN ?_ _|refine blk_drew ?_ |refine blk_alloc ?_ _));refine blk_put (cs:=#[.int .i64 0,.int .i64 0,.int .i64 0,.slice none 0 0]) ?_ 0 _ rfl;(with_reducible repeat (first|refine blk_drewN ?_ _|refine blk_drew ?_ |refine blk_alloc ?_ _));exact B0.out))⟩;replace B1:Aside0 (wm.heap[g1]? =some (.cells #[.int .i64 (wrap64 (bt a0 (j3))),.int .i64 t0,.int .i64 (wrap64 (bt a0 a1)),.slice s7 x5.length s8] 45 (0,0))):=⟨mQ⟩;replace HB:Aside0 (Below w.heap.size w wm):=⟨mAR⟩;clear hw))
                        refine bodyPost_ret (results_ctt rfl _ _ g0 45 #[.int .i64 (wrap64 (bt a0 (j3))),.int .i64 t0,.int .i64 (wrap64 (bt a0 a1)),.slice s7 x5.length s8] (0,0) _ rfl mB Try.underlying45 rfl mAD) rfl ?_;exact⟨_,by first|rfl|(simp[errW_none,errW_some] <;> rfl)|(simp only[<-j4,<-j7,<-ja];first|rfl|(simp[errW_none,errW_some] <;> rfl))|(simp[*,errW_none,errW_some] <;> rfl),by(with_reducible repeat (first|apply Kd.R_alloc|apply Kd.R_drewN|apply Kd.R_drew));exact O0.out,by repeat (first|(with_reducible first|exact HB.out|apply below_alloc|apply pw_below_drewN|apply below_drew1|refine below_set ?_ G1.out|refine below_set ?_ G3.out)|exact HB.out)⟩
                       ·rw[if_neg c58]at H
                        have c3q:=beq_eq_false_iff_ne.mpr c58;have c3s:=bne_iff_ne.mpr c58;simp only[Option.some.injEq,Prod.mk.injEq]at H;obtain⟨rfl,rfl,rfl,rfl,rfl,rfl⟩:=H;have n4:=N1.out;have n5:=N0.out;obtain⟨zp,zq,zr,zs⟩:=bc4 B1.out;have zt:=blk_frozen B1.out;obtain⟨sa,sb,sc⟩:=Kd.R_slice O0.out;subst sc
                        go_wp2_with (first|((with_reducible refine gate_callee (f:=54) rfl ?_);refine goesL_ (some 89) rfl rfl Try.func54 mAD rfl #[.agg #[.int .i64 (wrap64 (bt a0 (j3))),.int .i64 t0,.int .i64 (wrap64 (bt a0 a1)),.slice sa x5.length sb]] rfl mAT ?_;(with_reducible refine(watchwordref1_PutLsa.calls k3 (wrap64 (bt a0 (j3))) t0 (wrap64 (bt a0 a1)) _ _ x5 t2 t3 _ ?side1 ?side2 A5.out).mono ?_);(case side1=>repeat (first|exact(Kd.R_reads' O0.out).2.2 |(with_reducible refine Kd.C_alloc ?_ _)|(with_reducible refine Kd.C_drewN ?_ _)|(with_reducible refine Kd.C_drew ?_)));(case side2=>exact(Kd.R_reads' O0.out).2.1);rintro e wn ⟨rfl,hb⟩;refine⟨_,rfl,?_⟩;replace O0:=Aside0.mk (Kd.R_below mN hb);replace B0:=Aside0.mk (blk_below mB hb);replace B1:=Aside0.mk (blk_below mL hb);replace HB:=Aside0.mk (below_step mD hb);(try clear hb);obtain⟨zu,zv,zw,zx⟩:=bc4 B0.out;have zy:=blk_frozen B0.out)|((with_reducible refine gate_store (t:=45) (p:=4) rfl ?_);refine stV (t:=45) (p:=4) (w1:=((((wn.setCell ⟨g0,0,none⟩ (.int .i64 0)).setCell ⟨g0,1,none⟩ (.int .i64 0)).setCell ⟨g0,2,none⟩ (.int .i64 0)).setCell ⟨g0,3,none⟩ (.slice none 0 0))) (h:=?_);intro wp hw;replace O0:Aside0 (Kd.R k109 109 wp w.heap.size (λ_=>True) (.slice sa x5.length sb) x5):=⟨mAE⟩;replace B0:Aside0 (wp.heap[g0]? =some (.cells #[.int .i64 0,.int .i64 0,.int .i64 0,.slice none 0 0] 45 (0,0))):=⟨mM⟩;replace B1:Aside0 (wp.heap[g1]? =some (.cells #[.int .i64 (wrap64 (bt a0 (j3))),.int .i64 t0,.int .i64 (wrap64 (bt a0 a1)),.slice sa x5.length sb] 45 (0,0))):=⟨mQ⟩;replace HB:Aside0 (Below w.heap.size w wp):=⟨mAR⟩;clear hw))
                        refine bodyPost_ret (results_ctt rfl _ _ g0 45 #[.int .i64 0,.int .i64 0,.int .i64 0,.slice none 0 0] (0,0) _ rfl mB Try.underlying45 rfl mAD) rfl ?_;exact⟨_,by first|rfl|(simp[errW_none,errW_some] <;> rfl)|(simp only[<-j4,<-j7,<-ja];first|rfl|(simp[errW_none,errW_some] <;> rfl))|(simp[*,errW_none,errW_some] <;> rfl),by first|exact Kd.R_nil _ _ _ _ _|exact Kd.N_nil _ _ _ _ _|exact Kd.V_nil _ _ _ _ _|exact Kd.Q_nil _ _ _ _ _|exact Kd.S_nil _ _ _ _ _,by repeat (first|(with_reducible first|exact HB.out|apply below_alloc|apply pw_below_drewN|apply below_drew1|refine below_set ?_ G1.out|refine below_set ?_ G3.out)|exact HB.out)⟩
                      ·rw[if_neg c57]at H
                       exact absurd H mAM
                     ·rw[if_neg c56]at H
                      exact absurd H mAM
                    ·rw[if_neg c55]at H
                     exact absurd H mAM
                   ·rw[if_neg c54]at H
                    have c2w:=beq_eq_false_iff_ne.mpr c54;have c2y:=bne_iff_ne.mpr c54;simp only[Option.some.injEq,Prod.mk.injEq]at H;obtain⟨rfl,rfl,rfl,rfl,rfl,rfl⟩:=H;have n6:=N1.out;have n7:=N0.out;obtain⟨zz,z00,z01,z02⟩:=bc4 B1.out;have z03:=blk_frozen B1.out;obtain⟨sd,se,sf⟩:=Kd.R_slice O0.out;subst sf
                    go_wp2_with (first|((with_reducible refine gate_callee (f:=54) rfl ?_);refine goesL_ (some 89) rfl rfl Try.func54 mAD rfl #[.agg #[.int .i64 (wrap64 (bt a0 (j3))),.int .i64 t0,.int .i64 (wrap64 (bt a0 a1)),.slice sd x5.length se]] rfl mAT ?_;(with_reducible refine(watchwordref1_PutLsa.calls k3 (wrap64 (bt a0 (j3))) t0 (wrap64 (bt a0 a1)) _ _ x5 t2 t3 _ ?side1 ?side2 A5.out).mono ?_);(case side1=>repeat (first|exact(Kd.R_reads' O0.out).2.2 |(with_reducible refine Kd.C_alloc ?_ _)|(with_reducible refine Kd.C_drewN ?_ _)|(with_reducible refine Kd.C_drew ?_)));(case side2=>exact(Kd.R_reads' O0.out).2.1);rintro e wq ⟨rfl,hb⟩;refine⟨_,rfl,?_⟩;replace O0:=Aside0.mk (Kd.R_below mN hb);replace B0:=Aside0.mk (blk_below mB hb);replace B1:=Aside0.mk (blk_below mL hb);replace HB:=Aside0.mk (below_step mD hb);(try clear hb);obtain⟨z04,z05,z06,z07⟩:=bc4 B0.out;have z08:=blk_frozen B0.out)|((with_reducible refine gate_store (t:=45) (p:=4) rfl ?_);refine stV (t:=45) (p:=4) (w1:=((((wq.setCell ⟨g0,0,none⟩ (.int .i64 0)).setCell ⟨g0,1,none⟩ (.int .i64 0)).setCell ⟨g0,2,none⟩ (.int .i64 0)).setCell ⟨g0,3,none⟩ (.slice none 0 0))) (h:=?_);intro wt hw;replace O0:Aside0 (Kd.R k109 109 wt w.heap.size (λ_=>True) (.slice sd x5.length se) x5):=⟨mAE⟩;replace B0:Aside0 (wt.heap[g0]? =some (.cells #[.int .i64 0,.int .i64 0,.int .i64 0,.slice none 0 0] 45 (0,0))):=⟨mM⟩;replace B1:Aside0 (wt.heap[g1]? =some (.cells #[.int .i64 (wrap64 (bt a0 (j3))),.int .i64 t0,.int .i64 (wrap64 (bt a0 a1)),.slice sd x5.length se] 45 (0,0))):=⟨mQ⟩;replace HB:Aside0 (Below w.heap.size w wt):=⟨mAR⟩;clear hw))
                    refine bodyPost_ret (results_ctt rfl _ _ g0 45 #[.int .i64 0,.int .i64 0,.int .i64 0,.slice none 0 0] (0,0) _ rfl mB Try.underlying45 rfl mAD) rfl ?_;exact⟨_,by first|rfl|(simp[errW_none,errW_some] <;> rfl)|(simp only[<-j4,<-j7,<-ja];first|rfl|(simp[errW_none,errW_some] <;> rfl))|(simp[*,errW_none,errW_some] <;> rfl),by first|exact Kd.R_nil _ _ _ _ _|exact Kd.N_nil _ _ _ _ _|exact Kd.V_nil _ _ _ _ _|exact Kd.Q_nil _ _ _ _ _|exact Kd.S_nil _ _ _ _ _,by repeat (first|(with_reducible first|exact HB.out|apply below_alloc|apply pw_below_drewN|apply below_drew1|refine below_set ?_ G1.out|refine below_set ?_ G3.out)|exact HB.out)⟩
            ·rw[if_neg c23]at H
             exact absurd H mAM
           ·rw[if_neg c22]at H
            exact absurd H mAM
          ·rw[if_neg c19]at H
           exact absurd H mAM
         ·rw[if_neg cz]at H
          exact absurd H mAM
        ·rw[if_neg cw]at H
         exact absurd H mAM
       ·rw[if_neg cu]at H
        exact absurd H mAM
      ·rw[if_neg cr]at H
       exact absurd H mAM
     ·rw[if_neg cp]at H
      exact absurd H mAM
    ·rw[if_neg c9]at H
     exact absurd H mAM
mutual
def watchwordref9_GetUpdate.l0:Nat->ByteArray->List (S45)->Int->Option ((List (S45)) × Int)
 |0,_,_,_=>none
 |k+1,x0,x4,x5=>if x0.toList=([]:List UInt8)then(watchwordref9_GetUpdate.j1 k x0 x4 x5 false)else(if 0<(x0.size:Int)then(watchwordref9_GetUpdate.j1 k x0 x4 x5 (decide ((x4.length:Int)<(wrap64 (bt x0 0)))))else(none))
def watchwordref9_GetUpdate.j1:Nat->ByteArray->List (S45)->Int->Bool->Option ((List (S45)) × Int)
 |0,_,_,_,_=>none
 |k+1,x0,x4,x5,x18=>if x18=true then((watchwordref1_GetLsa.f k x0 x5).bind λbt388=>(if bt388.2.2.2.2.2=0 then(if x4.length<2932031007402 then(watchwordref9_GetUpdate.l0 k x0 (x4++[(⟨bt388.1,bt388.2.1,bt388.2.2.1,bt388.2.2.2.1⟩:S45)]) bt388.2.2.2.2.1)else(none))else(some (([]:List (S45)),1000))))else(if x5=(x0.size:Int)then((watchwordref9_UpdateMay.f k x4).bind λt400=>(if t400=true then(some (x4,0))else(some (([]:List (S45)),1000))))else(some (([]:List (S45)),1000)))
end
def watchwordref9_GetUpdate.f (k:Nat) (a0:ByteArray):Option ((List (S45)) × Int):=watchwordref9_GetUpdate.l0 k a0 ([]:List (S45)) 1
theorem watchwordref9_GetUpdate.mono_l:∀k,(∀y0 y1 y2,LeO (watchwordref9_GetUpdate.l0 k y0 y1 y2) (watchwordref9_GetUpdate.l0 (k+1) y0 y1 y2))/\(∀y0 y1 y2 y3,LeO (watchwordref9_GetUpdate.j1 k y0 y1 y2 y3) (watchwordref9_GetUpdate.j1 (k+1) y0 y1 y2 y3))
 |0=>⟨λ_ _ _ r h=>by simp[watchwordref9_GetUpdate.l0]at h,λ_ _ _ _ r h=>by simp[watchwordref9_GetUpdate.j1]at h⟩
 |k+1=>by
  obtain⟨ih0,ih1⟩:=watchwordref9_GetUpdate.mono_l k;refine⟨?_,?_⟩
  ·intro y0 y1 y2
   unfold watchwordref9_GetUpdate.l0
   repeat' (with_reducible first|exact ih0 _ _ _|exact ih1 _ _ _ _|exact watchwordref1_GetLsa.mono _ _ _|exact watchwordref9_UpdateMay.mono _ _|exact LeO.refl _|exact LeO.none _|refine LeO.ite ?_ ?_ |refine LeO.bind ?_ (λ_=>?_))
  ·intro y0 y1 y2 y3
   unfold watchwordref9_GetUpdate.j1
   repeat' (with_reducible first|exact ih0 _ _ _|exact ih1 _ _ _ _|exact watchwordref1_GetLsa.mono _ _ _|exact watchwordref9_UpdateMay.mono _ _|exact LeO.refl _|exact LeO.none _|refine LeO.ite ?_ ?_ |refine LeO.bind ?_ (λ_=>?_))
theorem watchwordref9_GetUpdate.mono:∀a0 k,LeO (watchwordref9_GetUpdate.f k a0) (watchwordref9_GetUpdate.f (k+1) a0):=by
 intro a0 k;obtain⟨ih0,ih1⟩:=watchwordref9_GetUpdate.mono_l k;unfold watchwordref9_GetUpdate.f
 repeat' (with_reducible first|exact ih0 _ _ _|exact ih1 _ _ _ _|exact watchwordref1_GetLsa.mono _ _ _|exact watchwordref9_UpdateMay.mono _ _|exact LeO.refl _|exact LeO.none _|refine LeO.ite ?_ ?_ |refine LeO.bind ?_ (λ_=>?_))
set_option maxHeartbeats 8000000 in
set_option maxRecDepth 100000 in
theorem watchwordref9_GetUpdate.calls (k:Nat) (a0:ByteArray) (r1:List (S45)) (r2:Int) (w:World) (h:watchwordref9_GetUpdate.f k a0=some (r1,r2)):
  Calls Try.prog 32 #[.string a0] w λe w'=>∃v0_:Value,e= .returned (.tuple #[v0_,.int .i64 r2])/\Kd.S k45 45 w' w.heap.size (λ_=>True) v0_ r1/\Below w.heap.size w w':=by
 have hu45:=Try.underlying45;have HB:=Aside0.mk (Below.refl w.heap.size w);have H:(watchwordref9_GetUpdate.l0 k a0 ([]:List (S45)) 1)=some (r1,r2):=h;clear h;have H':=Aside0.mk H;clear H
 go_enter Try.func32,Try.ntmps32
 go_wp2
 go_loopg [4,5] k (λkq v4 v5 w'=>∃(x1:List (S45)) (x2:Int),v5= .int .i64 x2/\Aside0 (watchwordref9_GetUpdate.l0 kq a0 x1 x2=some (r1,r2))/\Aside0 (kq<=k)/\Aside0 (Kd.S k45 45 w' w.heap.size (λ_=>True) v4 x1)/\Aside0 (Below w.heap.size w w'))
 case atStart=>exact⟨(([]:List (S45))),(1),mK,H',⟨Nat.le_refl _⟩,⟨by first|exact Kd.S_nil _ _ _ _ _|exact Kd.N_nil _ _ _ _ _|exact Kd.V_nil _ _ _ _ _|exact Kd.Q_nil _ _ _ _ _|exact Kd.R_nil _ _ _ _ _⟩,⟨by repeat (first|(with_reducible first|exact HB.out|apply below_alloc|apply pw_below_drewN|apply below_drew1)|exact HB.out)⟩⟩
 case round=>
  clear H';obtain⟨x1,x2,rfl,HA,HK1,O0,HB⟩:=hrel;cases gk with
  |zero=>exact absurd HA.out (by simp[watchwordref9_GetUpdate.l0])
  |succ k1=>
   have H:=HA.out;clear HA;simp only[watchwordref9_GetUpdate.l0]at H;have K0:=Aside0.mk H;clear H
   go_upto_region 3 with(fail)
   go_cut [18] (λv18 wc=>∃(kq:Nat) (x3:Bool),v18= .bool x3/\Aside0 (watchwordref9_GetUpdate.j1 kq a0 x1 x2 x3=some (r1,r2))/\Aside0 (kq<=k1)/\Aside0 (Kd.S k45 45 wc w.heap.size (λ_=>True) u4 x1)/\Aside0 (Below w.heap.size w wc))
   case first=>
    have H:=K0.out;clear K0
    by_cases c3:a0.toList=([]:List UInt8)
    ·rw[if_pos c3]at H
     have c2:=beq_iff_eq.mpr c3;have c5:=bne_eq_false_iff_eq.mpr c3;clear c3
     (first|rw[c2]|(simp only[i64_w,i32_w];rw[c2])|skip)
     have H':=Aside0.mk H;clear H;go_wp2;go_meet
     case rel=>exact⟨_,(false),mK,H',⟨by have:=HK1.out;first|omega|exact Nat.le_refl _⟩,⟨by(with_reducible repeat (first|apply Kd.S_alloc|apply Kd.S_drewN|apply Kd.S_drew));exact O0.out⟩,⟨by repeat (first|(with_reducible first|exact HB.out|apply below_alloc|apply pw_below_drewN|apply below_drew1)|exact HB.out)⟩⟩
    ·rw[if_neg c3]at H
     have c2:=beq_eq_false_iff_ne.mpr c3;have c5:=bne_iff_ne.mpr c3
     (first|rw[c2]|(simp only[i64_w,i32_w];rw[c2])|skip)
     by_cases c4:0<(a0.size:Int)
     ·rw[if_pos c4]at H
      have cf:=decide_eq_true c4;have ch:decide (0<a0.size)=true:=decide_eq_true mBQ;clear c4;have H':=Aside0.mk H;clear H;obtain⟨s0,s1,s2⟩:=Kd.S_slice O0.out;subst s2;have p5:0<=(0:Int):=mBQ;have q5:0<a0.size:=mBW;have hx5:∀h:0<a0.size,((a0[0]'h).toNat :Int)=bt a0 0:=bt_at a0 0;clear p5;have qi5:(0<(a0.size:Int))=True:=eq_true (of_decide_eq_true mE);replace q5:=eq_true q5;go_wp2;go_meet
      case rel=>exact⟨_,(decide ((x1.length:Int)<(wrap64 (bt a0 0)))),mK,H',⟨by have:=HK1.out;first|omega|exact Nat.le_refl _⟩,⟨by(with_reducible repeat (first|apply Kd.S_alloc|apply Kd.S_drewN|apply Kd.S_drew));exact O0.out⟩,⟨by repeat (first|(with_reducible first|exact HB.out|apply below_alloc|apply pw_below_drewN|apply below_drew1)|exact HB.out)⟩⟩
     ·rw[if_neg c4]at H
      exact absurd H mAM
   case rest=>
    clear K0;(try clear p2);(try clear c3);(try clear c2);(try clear c5);(try clear c4);(try clear cf);(try clear ch);(try clear p5);(try clear q5);(try clear hx5);(try clear qi5);(try clear p6);(try clear p5);(try clear q5);obtain⟨kq,x3,rfl,HA,HJ1,O0,HB⟩:=hcut;cases kq with
    |zero=>exact absurd HA.out (by simp[watchwordref9_GetUpdate.j1])
    |succ j0=>
     have H:=HA.out;clear HA;simp only[watchwordref9_GetUpdate.j1]at H
     by_cases c7:x3=true
     ·subst c7
      rw[if_pos rfl]at H;obtain⟨⟨t0,t1,t2,t3,t4,t5⟩,A0,H⟩:=bsE H;(try dsimp only at H);have A8:=Aside0.mk A0;clear A0
      by_cases c9:t5=0
      ·rw[if_pos c9]at H
       have cq:=beq_iff_eq.mpr c9;have ct:=bne_eq_false_iff_eq.mpr c9;clear c9
       by_cases cw:x1.length<2932031007402
       ·rw[if_pos cw]at H
        have L0:=Aside0.mk cw;clear cw;obtain⟨y4,Y0⟩:∃y_:List (S45),y_=(x1++[(⟨t0,t1,t2,t3⟩:S45)]):=⟨_,rfl⟩
        replace H:(watchwordref9_GetUpdate.l0 j0 a0 y4 t4)=some (r1,r2):=by first|(rw[Y0];with_reducible exact H)|(have H2_:=(Option.bind_some _ _).symm.trans H;rw[Y0];with_reducible exact H2_)|(have H2_:=(Option.bind_some _ _).symm.trans H;with_reducible exact H2_)|with_reducible exact H|(rw[Y0];exact H)|exact H
        have Y1:=Aside0.mk Y0;clear Y0;have H':=Aside0.mk H;clear H
        go_wp2_with (first|((with_reducible refine gate_callee (f:=61) rfl ?_);refine cLV (some 22) Try.func61 #[.string a0,.int .i64 x2] (h:=?_);(with_reducible refine(watchwordref1_GetLsa.calls j0 a0 x2 t0 t1 t2 t3 t4 t5 _ A8.out).mono ?_);rintro e w2 ⟨v392,rfl,ho0,hb⟩;refine⟨_,rfl,?_⟩;replace O0:=Aside0.mk (Kd.S_elder' mAF (Kd.R_base ho0) hb);have O1:=Aside0.mk (Kd.R_lower ho0 (below_size mA));replace HB:=Aside0.mk (below_step mA hb);(try clear hb);(try clear ho0))|((with_reducible refine gate_dst (N:=6) rfl ?_);(try (refine gate_guard mBV ?_;dsimp only));refine bxV (N:=6) (cs:=#[.int .i64 0,.int .i64 0,.int .i64 0,.slice none 0 0]) (t:=45) (h:=?_);intro g0 hg w3 hbox hb;replace O0:=Aside0.mk (Kd.S_below (Kd.S_elderB mAF g0 (Nat.le_of_eq hg.symm)) hb);replace O1:=Aside0.mk (Kd.R_below mX hb);have B0:=Aside0.mk (hbox);have G0:=Aside0.mk ((mJ:w.heap.size<=g0));have G1:=Aside0.mk ((mJ:w.heap.size<=g0));replace HB:=Aside0.mk (below_step mA hb);clear hb hbox hg;obtain⟨z0,z1,z2,z3⟩:=bc4 B0.out;have z4:=blk_frozen B0.out;obtain⟨s3,s4,s5⟩:=Kd.R_slice O1.out;subst s5)|((with_reducible refine gate_store (t:=45) (p:=6) rfl ?_);refine stV (t:=45) (p:=6) (w1:=((((w3.setCell ⟨g0,0,none⟩ (.int .i64 t0)).setCell ⟨g0,1,none⟩ (.int .i64 t1)).setCell ⟨g0,2,none⟩ (.int .i64 t2)).setCell ⟨g0,3,none⟩ (.slice s3 t3.length s4))) (h:=?_);intro w5 hw;replace O0:Aside0 (Kd.S k45 45 w5 w.heap.size (λk_=>some k_≠(.slice s3 t3.length s4:Value).ownBlock /\k_≠g0) u4 x1):=⟨mBK⟩;replace O1:Aside0 (Kd.R k109 109 w5 w.heap.size (λ_=>True) (.slice s3 t3.length s4) t3):=⟨mBN⟩;replace B0:Aside0 (w5.heap[g0]? =some (.cells #[.int .i64 t0,.int .i64 t1,.int .i64 t2,.slice s3 t3.length s4] 45 (0,0))):=⟨mW⟩;replace HB:Aside0 (Below w.heap.size w w5):=⟨mBI⟩;clear hw;obtain⟨z5,z6,z7,z8⟩:=bc4 B0.out;have z9:=blk_frozen B0.out)|((with_reducible refine gate_builtin (b:= .append) (xs:=#[.tmp 28,.tmp 30]) rfl ?_);(try (refine gate_guard mBV ?_;dsimp only));at_builtin;refine Kd.S_append k45 (w0:=w) w.heap.size rfl (.tmp 28) (.tmp 30) 23 45 (.agg #[(.int .i64 0),(.int .i64 0),(.int .i64 0),(.slice none 0 0)]) 48 rfl Try.underlying23 info45 rfl mAQ mBQ u4 x1 (⟨t0,t1,t2,t3⟩:S45) [.int .i64 t0,.int .i64 t1,.int .i64 t2,.slice s3 t3.length s4] (λk_=>k_≠g0) (λk_=>some k_=(.slice s3 t3.length s4:Value).ownBlock) rfl rfl ?aP (λk_ hk_=>((Kd.R_mono (ok':=λk_=>((λk_=>k_≠g0)) k_/\some k_≠(u4:Value).ownBlock) (Kd.R_types (Kd.R_apart' (O1.out) (Kd.S_typed O0.out) mAQ) B0.out mAQ) (λk_ hk=>⟨hk.2,hk.1.2⟩))).1 k_ hk_.symm) ?aF ?aO ?aB ?aS ?aL ?_;(case aP=>exact k45_mkM _ _ _ (⟨t0,t1,t2,t3⟩:S45) (Kd.R_mono (Kd.R_tight rfl (Kd.R_mono (ok':=λk_=>((λk_=>k_≠g0)) k_/\some k_≠(u4:Value).ownBlock) (Kd.R_types (Kd.R_apart' (O1.out) (Kd.S_typed O0.out) mAQ) B0.out mAQ) (λk_ hk=>⟨hk.2,hk.1.2⟩))) (λ_ h_=>h_)));(case aB=>exact mC);(case aF=>exact(λk_ hk=>Kd.freshB (g:=g0) (o:= .cells #[.int .i64 t0,.int .i64 t1,.int .i64 t2,.slice s3 t3.length s4] 45 (0,0)) mB k_ hk));(case aO=>exact mCM);(case aS=>exact(below_size mC));(case aL=>have:=L0.out;omega);intro v398 w7 ho hb hg hat;rw[<-Y1.out]at ho;replace B0:=Aside0.mk (blk_grown (g:=g0) (o:= .cells #[.int .i64 t0,.int .i64 t1,.int .i64 t2,.slice s3 t3.length s4] 45 (0,0)) mB hg (Kd.S_away O0.out (λ_ hk=>hk.2)));replace HB:=Aside0.mk (hb);have O2:=Aside0.mk (ho);clear O0 O1;clear ho hb hg hat))
        go_roundg j0
        case measure=>have:=HK1.out;have:=HJ1.out;omega
        case rel=>exact⟨(y4),(t4),mK,H',⟨by have:=HK1.out;have:=HJ1.out;omega⟩,⟨by(with_reducible repeat (first|apply Kd.S_alloc|apply Kd.S_drewN|apply Kd.S_drew));exact Kd.S_mono O2.out (λ_ hk=>trivial)⟩,⟨by repeat (first|(with_reducible first|exact HB.out|apply below_alloc|apply pw_below_drewN|apply below_drew1|refine below_set ?_ G1.out)|exact HB.out)⟩⟩
       ·rw[if_neg cw]at H
        exact absurd H mAM
      ·rw[if_neg c9]at H
       have cq:=beq_eq_false_iff_ne.mpr c9;have ct:=bne_iff_ne.mpr c9;simp only[Option.some.injEq,Prod.mk.injEq]at H;obtain⟨rfl,rfl⟩:=H
       go_wp2_with (first|((with_reducible refine gate_callee (f:=61) rfl ?_);refine cLV (some 22) Try.func61 #[.string a0,.int .i64 x2] (h:=?_);(with_reducible refine(watchwordref1_GetLsa.calls j0 a0 x2 t0 t1 t2 t3 t4 t5 _ A8.out).mono ?_);rintro e w8 ⟨v392,rfl,ho0,hb⟩;refine⟨_,rfl,?_⟩;replace O0:=Aside0.mk (Kd.S_elder' mAF (Kd.R_base ho0) hb);have O1:=Aside0.mk (Kd.R_lower ho0 (below_size mA));replace HB:=Aside0.mk (below_step mA hb);(try clear hb);(try clear ho0))|((with_reducible refine gate_dst (N:=6) rfl ?_);(try (refine gate_guard mBV ?_;dsimp only));refine bxV (N:=6) (cs:=#[.int .i64 0,.int .i64 0,.int .i64 0,.slice none 0 0]) (t:=45) (h:=?_);intro g0 hg w9 hbox hb;replace O0:=Aside0.mk (Kd.S_below (Kd.S_elderB mAF g0 (Nat.le_of_eq hg.symm)) hb);replace O1:=Aside0.mk (Kd.R_below mX hb);have B0:=Aside0.mk (hbox);have G0:=Aside0.mk ((mJ:w.heap.size<=g0));have G1:=Aside0.mk ((mJ:w.heap.size<=g0));replace HB:=Aside0.mk (below_step mA hb);clear hb hbox hg;obtain⟨za,zb,zc,zd⟩:=bc4 B0.out;have ze:=blk_frozen B0.out;obtain⟨s6,s7,s8⟩:=Kd.R_slice O1.out;subst s8)|((with_reducible refine gate_store (t:=45) (p:=6) rfl ?_);refine stV (t:=45) (p:=6) (w1:=((((w9.setCell ⟨g0,0,none⟩ (.int .i64 t0)).setCell ⟨g0,1,none⟩ (.int .i64 t1)).setCell ⟨g0,2,none⟩ (.int .i64 t2)).setCell ⟨g0,3,none⟩ (.slice s6 t3.length s7))) (h:=?_);intro wb hw;replace O0:Aside0 (Kd.S k45 45 wb w.heap.size (λk_=>some k_≠(.slice s6 t3.length s7:Value).ownBlock /\k_≠g0) u4 x1):=⟨mBJ⟩;replace O1:Aside0 (Kd.R k109 109 wb w.heap.size (λ_=>True) (.slice s6 t3.length s7) t3):=⟨mBM⟩;replace B0:Aside0 (wb.heap[g0]? =some (.cells #[.int .i64 t0,.int .i64 t1,.int .i64 t2,.slice s6 t3.length s7] 45 (0,0))):=⟨mW⟩;replace HB:Aside0 (Below w.heap.size w wb):=⟨mBI⟩;clear hw))
       go_ret2
       exact⟨_,by first|rfl|(simp[errW_none,errW_some] <;> rfl)|(simp[*,errW_none,errW_some] <;> rfl),by first|exact Kd.S_nil _ _ _ _ _|exact Kd.N_nil _ _ _ _ _|exact Kd.V_nil _ _ _ _ _|exact Kd.Q_nil _ _ _ _ _|exact Kd.R_nil _ _ _ _ _,by repeat (first|(with_reducible first|exact HB.out|apply below_alloc|apply pw_below_drewN|apply below_drew1|refine below_set ?_ G1.out)|exact HB.out)⟩
     ·replace c7:=Bool.eq_false_iff.mpr c7
      subst c7;rw[if_neg (show ¬(false=true)by decide)]at H
      by_cases c23:x2=(a0.size:Int)
      ·rw[if_pos c23]at H
       have c05:=beq_iff_eq.mpr c23;have c07:=bne_eq_false_iff_eq.mpr c23;clear c23;obtain⟨t6,A4,H⟩:=bsE H;(try dsimp only at H);have A5:=Aside0.mk A4;clear A4
       by_cases c25:t6=true
       ·subst c25
        rw[if_pos rfl]at H;simp only[Option.some.injEq,Prod.mk.injEq]at H;obtain⟨rfl,rfl⟩:=H;obtain⟨s9,sa,sb⟩:=Kd.S_slice O0.out;subst sb
        go_wp2_with (first|(go_at_call 40;(with_reducible refine(watchwordref9_UpdateMay.calls j0 _ _ x1 true _ ?side1 ?side2 A5.out).mono ?_);(case side1=>repeat (first|exact(Kd.S_reads' O0.out).2.2 |(with_reducible refine Kd.C_alloc ?_ _)|(with_reducible refine Kd.C_drewN ?_ _)|(with_reducible refine Kd.C_drew ?_)));(case side2=>exact(Kd.S_reads' O0.out).2.1);rintro e wd ⟨rfl,hb⟩;replace O0:=Aside0.mk (Kd.S_below mAF hb);replace HB:=Aside0.mk (below_step mA hb);(try clear hb);(try clear hb2);(try clear hk);(try clear hi)))
        go_ret2
        exact⟨_,by first|rfl|(simp[errW_none,errW_some] <;> rfl)|(simp[*,errW_none,errW_some] <;> rfl),by(with_reducible repeat (first|apply Kd.S_alloc|apply Kd.S_drewN|apply Kd.S_drew));exact O0.out,by repeat (first|(with_reducible first|exact HB.out|apply below_alloc|apply pw_below_drewN|apply below_drew1)|exact HB.out)⟩
       ·replace c25:=Bool.eq_false_iff.mpr c25
        subst c25;rw[if_neg (show ¬(false=true)by decide)]at H;simp only[Option.some.injEq,Prod.mk.injEq]at H;obtain⟨rfl,rfl⟩:=H;obtain⟨sc,sd,se⟩:=Kd.S_slice O0.out;subst se
        go_wp2_with (first|(go_at_call 40;(with_reducible refine(watchwordref9_UpdateMay.calls j0 _ _ x1 false _ ?side1 ?side2 A5.out).mono ?_);(case side1=>repeat (first|exact(Kd.S_reads' O0.out).2.2 |(with_reducible refine Kd.C_alloc ?_ _)|(with_reducible refine Kd.C_drewN ?_ _)|(with_reducible refine Kd.C_drew ?_)));(case side2=>exact(Kd.S_reads' O0.out).2.1);rintro e we ⟨rfl,hb⟩;replace O0:=Aside0.mk (Kd.S_below mAF hb);replace HB:=Aside0.mk (below_step mA hb);(try clear hb);(try clear hb2);(try clear hk);(try clear hi)))
        go_ret2
        exact⟨_,by first|rfl|(simp[errW_none,errW_some] <;> rfl)|(simp[*,errW_none,errW_some] <;> rfl),by first|exact Kd.S_nil _ _ _ _ _|exact Kd.N_nil _ _ _ _ _|exact Kd.V_nil _ _ _ _ _|exact Kd.Q_nil _ _ _ _ _|exact Kd.R_nil _ _ _ _ _,by repeat (first|(with_reducible first|exact HB.out|apply below_alloc|apply pw_below_drewN|apply below_drew1)|exact HB.out)⟩
      ·rw[if_neg c23]at H
       have c05:=beq_eq_false_iff_ne.mpr c23;have c07:=bne_iff_ne.mpr c23;simp only[Option.some.injEq,Prod.mk.injEq]at H;obtain⟨rfl,rfl⟩:=H;go_wp2
       go_ret2
       exact⟨_,by first|rfl|(simp[errW_none,errW_some] <;> rfl)|(simp[*,errW_none,errW_some] <;> rfl),by first|exact Kd.S_nil _ _ _ _ _|exact Kd.N_nil _ _ _ _ _|exact Kd.V_nil _ _ _ _ _|exact Kd.Q_nil _ _ _ _ _|exact Kd.R_nil _ _ _ _ _,by repeat (first|(with_reducible first|exact HB.out|apply below_alloc|apply pw_below_drewN|apply below_drew1)|exact HB.out)⟩
mutual
def watchwordref9_GetAck.j0:Nat->ByteArray->Bool->Option ((List (S47)) × Int)
 |0,_,_=>none
 |k+1,x0,x17=>if x17=true then(some (([]:List (S47)),1100))else(watchwordref9_GetAck.l0 k x0 ([]:List (S47)) 1)
def watchwordref9_GetAck.l0:Nat->ByteArray->List (S47)->Int->Option ((List (S47)) × Int)
 |0,_,_,_=>none
 |k+1,x0,x4,x5=>if x5<(x0.size:Int)then(if 0<=x5 then(if 0<=(wrap64 (x5+1))then(if(wrap64 (x5+1))<(x0.size:Int)then(if 0<=(wrap64 (x5+2))then(if(wrap64 (x5+2))<=(wrap64 (x5+6))then(if(wrap64 (x5+6))<=(x0.size:Int)then((watchwordref1_Of.f k (x0.extract ((wrap64 (x5+2)):Int).toNat ((wrap64 (x5+6)):Int).toNat)).bind λt401=>(if 0<=(wrap64 (x5+6))then(if(wrap64 (x5+6))<=(wrap64 (x5+8))then(if(wrap64 (x5+8))<=(x0.size:Int)then((watchwordref1_Of.f k (x0.extract ((wrap64 (x5+6)):Int).toNat ((wrap64 (x5+8)):Int).toNat)).bind λt402=>(if x4.length<4398046511104 then(watchwordref9_GetAck.l0 k x0 (x4++[(⟨wrap64 (bt x0 x5),t401,wrap64 (bt x0 (wrap64 (x5+1))),t402⟩:S47)]) (wrap64 (x5+8)))else(none)))else(none))else(none))else(none)))else(none))else(none))else(none))else(none))else(none))else(none))else((watchwordref9_AckMay.f k x4).bind λt406=>(if t406=true then(some (x4,0))else(some (([]:List (S47)),1100))))
end
def watchwordref9_GetAck.f (k:Nat) (a0:ByteArray):Option ((List (S47)) × Int):=if a0.toList=([]:List UInt8)then(watchwordref9_GetAck.j0 k a0 true)else(if 0<(a0.size:Int)then(watchwordref9_GetAck.j0 k a0 ((a0.size:Int) !=(wrap64 (1+(wrap64 (8*(wrap64 (bt a0 0))))))))else(none))
theorem watchwordref9_GetAck.mono_l:∀k,(∀y0 y1,LeO (watchwordref9_GetAck.j0 k y0 y1) (watchwordref9_GetAck.j0 (k+1) y0 y1))/\(∀y0 y1 y2,LeO (watchwordref9_GetAck.l0 k y0 y1 y2) (watchwordref9_GetAck.l0 (k+1) y0 y1 y2))
 |0=>⟨λ_ _ r h=>by simp[watchwordref9_GetAck.j0]at h,λ_ _ _ r h=>by simp[watchwordref9_GetAck.l0]at h⟩
 |k+1=>by
  obtain⟨ih0,ih1⟩:=watchwordref9_GetAck.mono_l k;refine⟨?_,?_⟩
  ·intro y0 y1
   unfold watchwordref9_GetAck.j0
   repeat' (with_reducible first|exact ih0 _ _|exact ih1 _ _ _|exact watchwordref1_Of.mono _ _|exact watchwordref9_AckMay.mono _ _|exact LeO.refl _|exact LeO.none _|refine LeO.ite ?_ ?_ |refine LeO.bind ?_ (λ_=>?_))
  ·intro y0 y1 y2
   unfold watchwordref9_GetAck.l0
   repeat' (with_reducible first|exact ih0 _ _|exact ih1 _ _ _|exact watchwordref1_Of.mono _ _|exact watchwordref9_AckMay.mono _ _|exact LeO.refl _|exact LeO.none _|refine LeO.ite ?_ ?_ |refine LeO.bind ?_ (λ_=>?_))
theorem watchwordref9_GetAck.mono:∀a0 k,LeO (watchwordref9_GetAck.f k a0) (watchwordref9_GetAck.f (k+1) a0):=by
 intro a0 k;obtain⟨ih0,ih1⟩:=watchwordref9_GetAck.mono_l k;unfold watchwordref9_GetAck.f
 repeat' (with_reducible first|exact ih0 _ _|exact ih1 _ _ _|exact watchwordref1_Of.mono _ _|exact watchwordref9_AckMay.mono _ _|exact LeO.refl _|exact LeO.none _|refine LeO.ite ?_ ?_ |refine LeO.bind ?_ (λ_=>?_))
def watchwordref9_GetAck.T7:Bool × List (List Nat × List Nat):=(true,[([],[]),([],[]),([],[]),([1,2],[1,2]),([3],[3]),([],[]),([],[]),([6],[6]),([5,7],[5,7]),([8],[8]),([],[]),([],[]),([11],[11]),([],[]),([13],[13]),([10,12,14],[10,12,14]),([15],[15]),([],[]),([],[]),([18],[18]),([],[]),([20],[20]),([17,19,21],[17,19,21]),([22,16],[22]),([4,9,16,23],[4,9,16,23]),([24],[24]),([0,25,23],[0,25]),([26,26,0,1,2,3,4,5,6,7,8,9,10,11,12,13,14,15,16,17,18,19,20,21,22,23,24,25,26],[0,26])])
def watchwordref9_GetAck.B7:List Nat:=[0,0,0,6,14,0,0,64,224,480,0,0,2048,0,8192,31744,64512,0,0,262144,0,1048576,4063232,8387584,16777214,33554430,67108863,134217727]
theorem watchwordref9_GetAck.tab7:rtab .any (opsOf Try.f33 7)=watchwordref9_GetAck.T7:=by kernel_rfl
theorem watchwordref9_GetAck.bits7:waitsOk watchwordref9_GetAck.T7.2 watchwordref9_GetAck.B7=true:=by kernel_rfl
set_option maxHeartbeats 8000000 in
set_option maxRecDepth 100000 in
theorem watchwordref9_GetAck.calls (k:Nat) (a0:ByteArray) (r1:List (S47)) (r2:Int) (w:World) (h:watchwordref9_GetAck.f k a0=some (r1,r2)):
  Calls Try.prog 33 #[.string a0] w λe w'=>∃v0_:Value,e= .returned (.tuple #[v0_,.int .i64 r2])/\Kd.R k47 47 w' w.heap.size (λ_=>True) v0_ r1/\Below w.heap.size w w':=by
 have hu47:=Try.underlying47;have HB:=Aside0.mk (Below.refl w.heap.size w);have H:(if a0.toList=([]:List UInt8)then(watchwordref9_GetAck.j0 k a0 true)else(if 0<(a0.size:Int)then(watchwordref9_GetAck.j0 k a0 ((a0.size:Int) !=(wrap64 (1+(wrap64 (8*(wrap64 (bt a0 0))))))))else(none)))=some (r1,r2):=h;clear h;have K0:=Aside0.mk H;clear H
 go_enter Try.func33,Try.ntmps33
 go_upto_region 1 with(fail)
 go_cut [17] (λv17 wc=>∃(kq:Nat) (x1:Bool),v17= .bool x1/\Aside0 (watchwordref9_GetAck.j0 kq a0 x1=some (r1,r2))/\Aside0 (kq<=k)/\Aside0 (Below w.heap.size w wc))
 case first=>
  have H:=K0.out;clear K0
  by_cases c3:a0.toList=([]:List UInt8)
  ·rw[if_pos c3]at H
   have c2:=beq_iff_eq.mpr c3;have c5:=bne_eq_false_iff_eq.mpr c3;clear c3
   (first|rw[c2]|(simp only[i64_w,i32_w];rw[c2])|skip)
   have H':=Aside0.mk H;clear H;go_wp2;go_meet
   case rel=>exact⟨_,(true),mK,H',⟨by first|omega|exact Nat.le_refl _⟩,⟨by repeat (first|(with_reducible first|exact HB.out|apply below_alloc|apply pw_below_drewN|apply below_drew1)|exact HB.out)⟩⟩
  ·rw[if_neg c3]at H
   have c2:=beq_eq_false_iff_ne.mpr c3;have c5:=bne_iff_ne.mpr c3
   (first|rw[c2]|(simp only[i64_w,i32_w];rw[c2])|skip)
   by_cases c4:0<(a0.size:Int)
   ·rw[if_pos c4]at H
    have cg:=decide_eq_true c4;have ci:decide (0<a0.size)=true:=decide_eq_true mBQ;clear c4;have H':=Aside0.mk H;clear H;have p5:0<=(0:Int):=mBQ;have q5:0<a0.size:=mBW;have hx5:∀h:0<a0.size,((a0[0]'h).toNat :Int)=bt a0 0:=bt_at a0 0;clear p5;have qi5:(0<(a0.size:Int))=True:=eq_true (of_decide_eq_true mE);replace q5:=eq_true q5;go_wp2;go_meet
    case rel=>exact⟨_,(((a0.size:Int) !=(wrap64 (1+(wrap64 (8*(wrap64 (bt a0 0)))))))),mK,H',⟨by first|omega|exact Nat.le_refl _⟩,⟨by repeat (first|(with_reducible first|exact HB.out|apply below_alloc|apply pw_below_drewN|apply below_drew1)|exact HB.out)⟩⟩
   ·rw[if_neg c4]at H
    exact absurd H mAM
 case rest=>
  clear K0;(try clear p2);(try clear c3);(try clear c2);(try clear c5);(try clear c4);(try clear cg);(try clear ci);(try clear p5);(try clear q5);(try clear hx5);(try clear qi5);(try clear p5);(try clear q5);obtain⟨kq,x1,rfl,HA,HJ1,HB⟩:=hcut;cases kq with
  |zero=>exact absurd HA.out (by simp[watchwordref9_GetAck.j0])
  |succ j1=>
   have H:=HA.out;clear HA;simp only[watchwordref9_GetAck.j0]at H
   by_cases c6:x1=true
   ·subst c6
    rw[if_pos rfl]at H;simp only[Option.some.injEq,Prod.mk.injEq]at H;obtain⟨rfl,rfl⟩:=H;go_wp2
    go_ret2
    exact⟨_,by first|rfl|(simp[errW_none,errW_some] <;> rfl)|(simp[*,errW_none,errW_some] <;> rfl),by first|exact Kd.R_nil _ _ _ _ _|exact Kd.N_nil _ _ _ _ _|exact Kd.V_nil _ _ _ _ _|exact Kd.Q_nil _ _ _ _ _|exact Kd.S_nil _ _ _ _ _,by repeat (first|(with_reducible first|exact HB.out|apply below_alloc|apply pw_below_drewN|apply below_drew1)|exact HB.out)⟩
   ·replace c6:=Bool.eq_false_iff.mpr c6
    subst c6;rw[if_neg (show ¬(false=true)by decide)]at H;have H':=Aside0.mk H;clear H;go_wp2
    go_loopg [4,5] j1 (λkq v4 v5 w'=>∃(x2:List (S47)) (x3:Int),v5= .int .i64 x3/\Aside0 (watchwordref9_GetAck.l0 kq a0 x2 x3=some (r1,r2))/\Aside0 (kq<=j1)/\Aside0 (Kd.R k47 47 w' w.heap.size (λ_=>True) v4 x2)/\Aside0 (Below w.heap.size w w'))
    case atStart=>exact⟨(([]:List (S47))),(1),mK,H',⟨Nat.le_refl _⟩,⟨by first|exact Kd.R_nil _ _ _ _ _|exact Kd.N_nil _ _ _ _ _|exact Kd.V_nil _ _ _ _ _|exact Kd.Q_nil _ _ _ _ _|exact Kd.S_nil _ _ _ _ _⟩,⟨by repeat (first|(with_reducible first|exact HB.out|apply below_alloc|apply pw_below_drewN|apply below_drew1)|exact HB.out)⟩⟩
    case round=>
     clear H';(try clear p2);(try clear c3);(try clear c2);(try clear c5);(try clear c4);(try clear cg);(try clear ci);(try clear p5);(try clear q5);(try clear hx5);(try clear qi5);(try clear c6);(try clear p6);(try clear p2);(try clear p5);(try clear q5);obtain⟨x2,x3,rfl,HA,HK2,O0,HB⟩:=hrel;cases gk with
     |zero=>exact absurd HA.out (by simp[watchwordref9_GetAck.l0])
     |succ k2=>
      have H:=HA.out;clear HA;simp only[watchwordref9_GetAck.l0]at H
      by_cases c7:x3<(a0.size:Int)
      ·rw[if_pos c7]at H
       have cx:=decide_eq_true c7;clear c7
       by_cases c8:0<=x3
       ·rw[if_pos c8]at H
        have c02:=decide_eq_true c8;clear c8;obtain⟨j2,j3⟩:∃j_:Int,(wrap64 (x3+1))=j_:=⟨_,rfl⟩
        replace H:(if 0<=(j2)then(if(j2)<(a0.size:Int)then(if 0<=(wrap64 (x3+2))then(if(wrap64 (x3+2))<=(wrap64 (x3+6))then(if(wrap64 (x3+6))<=(a0.size:Int)then((watchwordref1_Of.f k2 (a0.extract ((wrap64 (x3+2)):Int).toNat ((wrap64 (x3+6)):Int).toNat)).bind λt0=>(if 0<=(wrap64 (x3+6))then(if(wrap64 (x3+6))<=(wrap64 (x3+8))then(if(wrap64 (x3+8))<=(a0.size:Int)then((watchwordref1_Of.f k2 (a0.extract ((wrap64 (x3+6)):Int).toNat ((wrap64 (x3+8)):Int).toNat)).bind λt1=>(if x2.length<4398046511104 then(watchwordref9_GetAck.l0 k2 a0 (x2++[(⟨wrap64 (bt a0 x3),t0,wrap64 (bt a0 (j2)),t1⟩:S47)]) (wrap64 (x3+8)))else(none)))else(none))else(none))else(none)))else(none))else(none))else(none))else(none))else(none))=some (r1,r2):=by first|(rw[j3]at H;exact H)|(simp only[j3]at H |-;exact H)
        have j4:(IntKind.i64.wrap (x3+1))=j2:=(i64_w _).trans j3
        by_cases c11:0<=(j2)
        ·rw[if_pos c11]at H
         have c07:=decide_eq_true c11;clear c11
         by_cases c12:(j2)<(a0.size:Int)
         ·rw[if_pos c12]at H
          have c0c:=decide_eq_true c12;clear c12;obtain⟨j5,j6⟩:∃j_:Int,(wrap64 (x3+2))=j_:=⟨_,rfl⟩
          replace H:(if 0<=(j5)then(if(j5)<=(wrap64 (x3+6))then(if(wrap64 (x3+6))<=(a0.size:Int)then((watchwordref1_Of.f k2 (a0.extract ((j5):Int).toNat ((wrap64 (x3+6)):Int).toNat)).bind λt0=>(if 0<=(wrap64 (x3+6))then(if(wrap64 (x3+6))<=(wrap64 (x3+8))then(if(wrap64 (x3+8))<=(a0.size:Int)then((watchwordref1_Of.f k2 (a0.extract ((wrap64 (x3+6)):Int).toNat ((wrap64 (x3+8)):Int).toNat)).bind λt1=>(if x2.length<4398046511104 then(watchwordref9_GetAck.l0 k2 a0 (x2++[(⟨wrap64 (bt a0 x3),t0,wrap64 (bt a0 (j2)),t1⟩:S47)]) (wrap64 (x3+8)))else(none)))else(none))else(none))else(none)))else(none))else(none))else(none))=some (r1,r2):=by first|(rw[j6]at H;exact H)|(simp only[j6]at H |-;exact H)
          have j7:(IntKind.i64.wrap (x3+2))=j5:=(i64_w _).trans j6
          by_cases c15:0<=(j5)
          ·rw[if_pos c15]at H
           have c0h:=eq_true c15;have c0j:=decide_eq_true c15;clear c15
           by_cases c16:(j5)<=(wrap64 (x3+6))
           ·rw[if_pos c16]at H
            have c0o:=eq_true c16;have c0q:=decide_eq_true c16
            by_cases c17:(wrap64 (x3+6))<=(a0.size:Int)
            ·rw[if_pos c17]at H
             have c0u:=eq_true c17;have c0w:=decide_eq_true c17;obtain⟨t0,A0,H⟩:=bsE H;(try dsimp only at H);have A1:=Aside0.mk A0;clear A0;obtain⟨j8,j9⟩:∃j_:Int,(wrap64 (x3+6))=j_:=⟨_,rfl⟩
             replace H:(if 0<=(j8)then(if(j8)<=(wrap64 (x3+8))then(if(wrap64 (x3+8))<=(a0.size:Int)then((watchwordref1_Of.f k2 (a0.extract ((j8):Int).toNat ((wrap64 (x3+8)):Int).toNat)).bind λt1=>(if x2.length<4398046511104 then(watchwordref9_GetAck.l0 k2 a0 (x2++[(⟨wrap64 (bt a0 x3),t0,wrap64 (bt a0 (j2)),t1⟩:S47)]) (wrap64 (x3+8)))else(none)))else(none))else(none))else(none))=some (r1,r2):=by first|(rw[j9]at H;exact H)|(simp only[j9]at H |-;exact H)
             (try rw[j9]at c0o)
             (try rw[j9]at c0q)
             (try rw[j9]at c16)
             (try rw[j9]at c0u)
             (try rw[j9]at c0w)
             (try rw[j9]at c17)
             (try rw[j9]at A1)
             have ja:(IntKind.i64.wrap (x3+6))=j8:=(i64_w _).trans j9
             by_cases c20:0<=(j8)
             ·rw[if_pos c20]at H
              have c14:=eq_true c20;have c19:=decide_eq_true c20;clear c20
              by_cases c21:(j8)<=(wrap64 (x3+8))
              ·rw[if_pos c21]at H
               have c1e:=eq_true c21;have c1g:=decide_eq_true c21
               by_cases c22:(wrap64 (x3+8))<=(a0.size:Int)
               ·rw[if_pos c22]at H
                have c1k:=eq_true c22;have c1m:=decide_eq_true c22;obtain⟨t1,A2,H⟩:=bsE H;(try dsimp only at H);have A3:=Aside0.mk A2;clear A2
                by_cases c24:x2.length<4398046511104
                ·rw[if_pos c24]at H
                 have L0:=Aside0.mk c24;clear c24;obtain⟨y3,Y0⟩:∃y_:List (S47),y_=(x2++[(⟨wrap64 (bt a0 x3),t0,wrap64 (bt a0 (j2)),t1⟩:S47)]):=⟨_,rfl⟩
                 replace H:(watchwordref9_GetAck.l0 k2 a0 y3 (wrap64 (x3+8)))=some (r1,r2):=by first|(rw[Y0];with_reducible exact H)|(have H2_:=(Option.bind_some _ _).symm.trans H;rw[Y0];with_reducible exact H2_)|(have H2_:=(Option.bind_some _ _).symm.trans H;with_reducible exact H2_)|with_reducible exact H|(rw[Y0];exact H)|exact H
                 have Y1:=Aside0.mk Y0;clear Y0;have H':=Aside0.mk H;clear H;(try go_wp2);replace O0:=Aside0.mk (Kd.R_drew O0.out);replace HB:=Aside0.mk (below_drew1 HB.out);have p9:0<=(x3:Int):=of_decide_eq_true mE;have q9:x3<(a0.size:Int):=of_decide_eq_true mE;have hx9:=bt_at a0 x3;replace p9:=eq_true p9;replace q9:=eq_true q9;have pb:0<=((j2):Int):=of_decide_eq_true mE;have qa:(j2)<(a0.size:Int):=of_decide_eq_true mE;have hx13:=bt_at a0 (j2);replace pb:=eq_true pb;replace qa:=eq_true qa;refine start_ (n:=28) (S:=λw'=>True) (ds:=[]) mk_28_0 mAD rfl rfl trivial (λhHeld=>?_);refine with_tabW watchwordref9_GetAck.tab7 watchwordref9_GetAck.bits7 (λHT_ HW_=>?_);generalize wr.drew=w2 at O0 HB hHeld |-;refine pV 0 24 mk_28_1 ?_;refine pV 1 25 mk_28_2 ?_;refine pV 2 26 mk_28_3 ?_;refine pV 5 29 #[true,true,true,false,false,true,false,false,false,false,false,false,false,false,false,false,false,false,false,false,false,false,false,false,false,false,false,false] ?_;refine pV 6 30 #[true,true,true,false,false,true,true,false,false,false,false,false,false,false,false,false,false,false,false,false,false,false,false,false,false,false,false,false] ?_;refine pV 7 31 #[true,true,true,false,false,true,true,true,false,false,false,false,false,false,false,false,false,false,false,false,false,false,false,false,false,false,false,false] ?_;refine pV 10 34 #[true,true,true,false,false,true,true,true,false,false,true,false,false,false,false,false,false,false,false,false,false,false,false,false,false,false,false,false] ?_;refine pV 11 35 #[true,true,true,false,false,true,true,true,false,false,true,true,false,false,false,false,false,false,false,false,false,false,false,false,false,false,false,false] ?_;refine pV 12 36 #[true,true,true,false,false,true,true,true,false,false,true,true,true,false,false,false,false,false,false,false,false,false,false,false,false,false,false,false] ?_;refine pV 13 37 #[true,true,true,false,false,true,true,true,false,false,true,true,true,true,false,false,false,false,false,false,false,false,false,false,false,false,false,false] ?_;refine pV 14 38 #[true,true,true,false,false,true,true,true,false,false,true,true,true,true,true,false,false,false,false,false,false,false,false,false,false,false,false,false] ?_;refine pV 15 39 #[true,true,true,false,false,true,true,true,false,false,true,true,true,true,true,true,false,false,false,false,false,false,false,false,false,false,false,false] ?_;refine pV 17 41 #[true,true,true,false,false,true,true,true,false,false,true,true,true,true,true,true,false,true,false,false,false,false,false,false,false,false,false,false] ?_;refine pV 18 42 #[true,true,true,false,false,true,true,true,false,false,true,true,true,true,true,true,false,true,true,false,false,false,false,false,false,false,false,false] ?_;refine pV 19 43 #[true,true,true,false,false,true,true,true,false,false,true,true,true,true,true,true,false,true,true,true,false,false,false,false,false,false,false,false] ?_;refine pV 20 44 #[true,true,true,false,false,true,true,true,false,false,true,true,true,true,true,true,false,true,true,true,true,false,false,false,false,false,false,false] ?_;refine pV 21 45 #[true,true,true,false,false,true,true,true,false,false,true,true,true,true,true,true,false,true,true,true,true,true,false,false,false,false,false,false] ?_;refine pV 22 46 #[true,true,true,false,false,true,true,true,false,false,true,true,true,true,true,true,false,true,true,true,true,true,true,false,false,false,false,false] ?_;refine take_ (i:=3) (N:=some 27) (v:=?_) (a':=?_) #[true,true,true,true,false,true,true,true,false,false,true,true,true,true,true,true,false,true,true,true,true,true,true,false,false,false,false,false] rfl rfl (take_ofW HT_.out HW_.out mAD) (λ_ _ _ h=>h) (Or.inl ⟨by rfl,?_⟩) hHeld ?_ ?_;rotate_left;(·intro w' _;go_simp;with_reducible rfl);rotate_left;(·simp only[Act.put,List.setIfInBounds_toArray,List.set_cons_zero,List.set_cons_succ,i64_w,i32_w];rfl);refine pV 4 28 #[true,true,true,true,true,true,true,true,false,false,true,true,true,true,true,true,false,true,true,true,true,true,true,false,false,false,false,false] ?_;refine take_ (i:=8) (N:=some 32) (v:=?_) (a':=?_) #[true,true,true,true,true,true,true,true,true,false,true,true,true,true,true,true,false,true,true,true,true,true,true,false,false,false,false,false] rfl rfl (take_ofW HT_.out HW_.out mAD) (λ_ _ _ h=>h) (Or.inl ⟨by rfl,?_⟩) hHeld ?_ ?_;rotate_left;(·intro w' _;go_simp;with_reducible rfl);rotate_left;(·simp only[Act.put,List.setIfInBounds_toArray,List.set_cons_zero,List.set_cons_succ,i64_w,i32_w];rfl);refine pV 9 33 #[true,true,true,true,true,true,true,true,true,true,true,true,true,true,true,true,false,true,true,true,true,true,true,false,false,false,false,false] ?_
                 refine oV 16 (some 40) mk_28_23 (h:=λK hK=>?_);refine goes_ Try.func60 mAD rfl #[.string (a0.extract ((j5):Int).toNat ((j8):Int).toNat)] mBV rfl rfl mCK ?_
                 with_reducible refine(watchwordref1_Of.calls k2 (a0.extract ((j5):Int).toNat ((j8):Int).toNat) t0 _ A1.out).mono ?_
                 rintro e w' ⟨rfl,⟨nd,rfl⟩⟩;refine⟨_,rfl,?_⟩;refine hK.out _ _ trivial (λhHeld=>?_);clear hK K;refine nV 40 (h:=?_);refine oV 23 (some 47) mk_28_24 (h:=λK hK=>?_);refine goes_ Try.func60 mAD rfl #[.string (a0.extract ((j8):Int).toNat ((wrap64 (x3+8)):Int).toNat)] mBV rfl rfl mBO ?_
                 with_reducible refine(watchwordref1_Of.calls k2 (a0.extract ((j8):Int).toNat ((wrap64 (x3+8)):Int).toNat) t1 _ A3.out).mono ?_
                 rintro e w' ⟨rfl,⟨nd,rfl⟩⟩;refine⟨_,rfl,?_⟩;refine hK.out _ _ trivial (λhHeld=>?_);clear hK K;refine nV 47 (h:=?_);refine pV 24 48 mk_28_25 ?_;refine oV 25 (some 49) mk_28_26 (h:=λK hK=>?_);refine value_ (w1:=?_) (v:=?_) mBV rfl ?_ ?_;rotate_left 2
                 ·go_simp
                  constructor
                  ·rfl
                  ·rfl
                 refine hK.out _ _ trivial (λhHeld=>?_);clear hK K;refine nV 49 (h:=?_);refine oV 26 (some 50) mk_28_27 (h:=λK hK=>?_);refine Kd.R_append_step k47 (w0:=w) w.heap.size mBV (.tmp 24) (.tmp 49) 24 47 (.agg #[(.int .i64 0),(.int .i64 0),(.int .i64 0),(.int .i64 0)]) 32 rfl Try.underlying24 info47 rfl mAQ mBQ u4 x2 (⟨wrap64 (bt a0 x3),t0,wrap64 (bt a0 (j2)),t1⟩:S47) [.int .i64 (wrap64 (bt a0 x3)),.int .i64 t0,.int .i64 (wrap64 (bt a0 (j2))),.int .i64 t1] (λ_=>True) (λ_=>False) rfl rfl ?aP (λ_ hk=>hk.elim) ?aF ?aO ?aB ?aS ?aL ?_
                 (case aP=>exact k47_mkM _ _ _ (⟨wrap64 (bt a0 x3),t0,wrap64 (bt a0 (j2)),t1⟩:S47))
                 (case aB=>exact mA)
                 (case aF=>exact(λ_ _=>trivial))
                 (case aO=>exact mN)
                 (case aS=>exact(below_size mA))
                 (case aL=>have:=L0.out;omega)
                 intro v404 w3 ho hb hg hat;rw[<-Y1.out]at ho;replace HB:=Aside0.mk (hb);have O1:=Aside0.mk (ho);clear O0;clear ho hb hg hat;refine hK.out _ _ trivial (λhHeld=>?_);clear hK K;refine nV 50 (h:=?_);refine pV 27 4 mk_28_28 ?_;refine done_ (done_of HT_.out mAD) ?_;(try go_wp2)
                 go_roundg k2
                 case measure=>have:=HJ1.out;have:=HK2.out;omega
                 case rel=>exact⟨(y3),(wrap64 (x3+8)),mK,H',⟨by have:=HJ1.out;have:=HK2.out;omega⟩,⟨by(with_reducible repeat (first|apply Kd.R_alloc|apply Kd.R_drewN|apply Kd.R_drew));exact O1.out⟩,⟨by repeat (first|(with_reducible first|exact HB.out|apply below_alloc|apply pw_below_drewN|apply below_drew1)|exact HB.out)⟩⟩
                ·rw[if_neg c24]at H
                 exact absurd H mAM
               ·rw[if_neg c22]at H
                exact absurd H mAM
              ·rw[if_neg c21]at H
               exact absurd H mAM
             ·rw[if_neg c20]at H
              exact absurd H mAM
            ·rw[if_neg c17]at H
             exact absurd H mAM
           ·rw[if_neg c16]at H
            exact absurd H mAM
          ·rw[if_neg c15]at H
           exact absurd H mAM
         ·rw[if_neg c12]at H
          exact absurd H mAM
        ·rw[if_neg c11]at H
         exact absurd H mAM
       ·rw[if_neg c8]at H
        exact absurd H mAM
      ·rw[if_neg c7]at H
       have cx:=decide_eq_false c7;clear c7;obtain⟨t2,A4,H⟩:=bsE H;(try dsimp only at H);have A5:=Aside0.mk A4;clear A4
       by_cases c28:t2=true
       ·subst c28
        rw[if_pos rfl]at H;simp only[Option.some.injEq,Prod.mk.injEq]at H;obtain⟨rfl,rfl⟩:=H;obtain⟨s0,s1,s2⟩:=Kd.R_slice O0.out;subst s2
        go_wp2_with (first|((with_reducible refine gate_callee (f:=41) rfl ?_);refine cLV (some 52) Try.func41 #[.slice s0 x2.length s1] (h:=?_);(with_reducible refine(watchwordref9_AckMay.calls k2 _ _ x2 true _ ?side1 ?side2 A5.out).mono ?_);(case side1=>repeat (first|exact(Kd.R_reads' O0.out).2.2 |(with_reducible refine Kd.C_alloc ?_ _)|(with_reducible refine Kd.C_drewN ?_ _)|(with_reducible refine Kd.C_drew ?_)));(case side2=>exact(Kd.R_reads' O0.out).2.1);rintro e w4 ⟨rfl,hb⟩;refine⟨_,rfl,?_⟩;replace O0:=Aside0.mk (Kd.R_below mN hb);replace HB:=Aside0.mk (below_step mA hb);(try clear hb)))
        go_ret2
        exact⟨_,by first|rfl|(simp[errW_none,errW_some] <;> rfl)|(simp[*,errW_none,errW_some] <;> rfl),by(with_reducible repeat (first|apply Kd.R_alloc|apply Kd.R_drewN|apply Kd.R_drew));exact O0.out,by repeat (first|(with_reducible first|exact HB.out|apply below_alloc|apply pw_below_drewN|apply below_drew1)|exact HB.out)⟩
       ·replace c28:=Bool.eq_false_iff.mpr c28
        subst c28;rw[if_neg (show ¬(false=true)by decide)]at H;simp only[Option.some.injEq,Prod.mk.injEq]at H;obtain⟨rfl,rfl⟩:=H;obtain⟨s3,s4,s5⟩:=Kd.R_slice O0.out;subst s5
        go_wp2_with (first|((with_reducible refine gate_callee (f:=41) rfl ?_);refine cLV (some 52) Try.func41 #[.slice s3 x2.length s4] (h:=?_);(with_reducible refine(watchwordref9_AckMay.calls k2 _ _ x2 false _ ?side1 ?side2 A5.out).mono ?_);(case side1=>repeat (first|exact(Kd.R_reads' O0.out).2.2 |(with_reducible refine Kd.C_alloc ?_ _)|(with_reducible refine Kd.C_drewN ?_ _)|(with_reducible refine Kd.C_drew ?_)));(case side2=>exact(Kd.R_reads' O0.out).2.1);rintro e w5 ⟨rfl,hb⟩;refine⟨_,rfl,?_⟩;replace O0:=Aside0.mk (Kd.R_below mN hb);replace HB:=Aside0.mk (below_step mA hb);(try clear hb)))
        go_ret2
        exact⟨_,by first|rfl|(simp[errW_none,errW_some] <;> rfl)|(simp[*,errW_none,errW_some] <;> rfl),by first|exact Kd.R_nil _ _ _ _ _|exact Kd.N_nil _ _ _ _ _|exact Kd.V_nil _ _ _ _ _|exact Kd.Q_nil _ _ _ _ _|exact Kd.S_nil _ _ _ _ _,by repeat (first|(with_reducible first|exact HB.out|apply below_alloc|apply pw_below_drewN|apply below_drew1)|exact HB.out)⟩
end Go.Proofs.Ytbajimbccbckkaa.Q12k
namespace Go.Proofs.Ytbajimbccbckkaa.Q12k
open Go.RowKit Go.Proofs.Ytbajimbccbckkaa.Stp Go.Proofs.YtbajimbccbckkaaW.PrintWords Go.Proofs.YtbajimbccbckkaaW.PrintLast Go.Proofs.YtbajimbccbckkaaW.PrintMore
attribute [local go_sem] max2_int min2_int max_two min_two max_three min_three max_four min_four
set_option linter.unusedVariables false
set_option linter.unusedSimpArgs false
attribute [local go_sem high] eqA109
def watchwordref9_GetPacket.j0:Nat->ByteArray->Int->Int->Bool->Option (Int × Int × List Int × (List (S45)) × (List (S47)) × Int)
 |0,_,_,_,_=>none
 |k+1,x0,x4,x5,x30=>if x30=true then(some (0,0,([]:List Int),([]:List (S45)),([]:List (S47)),1200))else(if x4=1 then(if 12<=(x0.size:Int)then((watchwordref9_GetHello.f k (x0.extract 12 x0.size)).bind λbt413=>(if bt413.2=0 then(some (x4,x5,bt413.1,([]:List (S45)),([]:List (S47)),0))else(some (0,0,([]:List Int),([]:List (S45)),([]:List (S47)),1200))))else(none))else(if x4=4 then(if 12<=(x0.size:Int)then((watchwordref9_GetUpdate.f k (x0.extract 12 x0.size)).bind λbt417=>(if bt417.2=0 then(some (x4,x5,([]:List Int),bt417.1,([]:List (S47)),0))else(some (0,0,([]:List Int),([]:List (S45)),([]:List (S47)),1200))))else(none))else(if 12<=(x0.size:Int)then((watchwordref9_GetAck.f k (x0.extract 12 x0.size)).bind λbt421=>(if bt421.2=0 then(some (x4,x5,([]:List Int),([]:List (S45)),bt421.1,0))else(some (0,0,([]:List Int),([]:List (S45)),([]:List (S47)),1200))))else(none))))
def watchwordref9_GetPacket.f (k:Nat) (a0:ByteArray):Option (Int × Int × List Int × (List (S45)) × (List (S47)) × Int):=(watchwordref1_GetHead.f k a0).bind λbt408=>(if bt408.2.2.2=0 then(watchwordref9_GetPacket.j0 k a0 bt408.1 bt408.2.1 (bt408.2.2.1 !=(a0.size:Int)))else(watchwordref9_GetPacket.j0 k a0 bt408.1 bt408.2.1 true))
theorem watchwordref9_GetPacket.mono_l:∀k,(∀y0 y1 y2 y3,LeO (watchwordref9_GetPacket.j0 k y0 y1 y2 y3) (watchwordref9_GetPacket.j0 (k+1) y0 y1 y2 y3))
 |0=>λ_ _ _ _ r h=>by simp[watchwordref9_GetPacket.j0]at h
 |k+1=>by
  have ih0:=watchwordref9_GetPacket.mono_l k
  ·intro y0 y1 y2 y3
   unfold watchwordref9_GetPacket.j0
   repeat' (with_reducible first|exact ih0 _ _ _ _|exact watchwordref1_GetHead.mono _ _|exact watchwordref9_GetAck.mono _ _|exact watchwordref9_GetHello.mono _ _|exact watchwordref9_GetUpdate.mono _ _|exact LeO.refl _|exact LeO.none _|refine LeO.ite ?_ ?_ |refine LeO.bind ?_ (λ_=>?_))
theorem watchwordref9_GetPacket.mono:∀a0 k,LeO (watchwordref9_GetPacket.f k a0) (watchwordref9_GetPacket.f (k+1) a0):=by
 intro a0 k;have ih0:=watchwordref9_GetPacket.mono_l k;unfold watchwordref9_GetPacket.f
 repeat' (with_reducible first|exact ih0 _ _ _ _|exact watchwordref1_GetHead.mono _ _|exact watchwordref9_GetAck.mono _ _|exact watchwordref9_GetHello.mono _ _|exact watchwordref9_GetUpdate.mono _ _|exact LeO.refl _|exact LeO.none _|refine LeO.ite ?_ ?_ |refine LeO.bind ?_ (λ_=>?_))
set_option maxHeartbeats 8000000 in
set_option maxRecDepth 100000 in
theorem watchwordref9_GetPacket.calls (k:Nat) (a0:ByteArray) (r1:Int) (r2:Int) (r3:List Int) (r4:List (S45)) (r5:List (S47)) (r6:Int) (w:World) (h:watchwordref9_GetPacket.f k a0=some (r1,r2,r3,r4,r5,r6)):
  Calls Try.prog 12 #[.string a0] w λe w'=>∃v2_ v3_ v4_:Value,e= .returned (.tuple #[.agg #[.int .i64 r1,.int .i64 r2,v2_,v3_,v4_],.int .i64 r6])/\Kd.R (Kd.int .i64) 3 w' w.heap.size (λ_=>True) v2_ r3/\Kd.S k45 45 w' w.heap.size (λ_=>True) v3_ r4/\Kd.R k47 47 w' w.heap.size (λ_=>True) v4_ r5/\Below w.heap.size w w':=by
 have hu26:=Try.underlying26;have HB:=Aside0.mk (Below.refl w.heap.size w);have H:((watchwordref1_GetHead.f k a0).bind λbt408=>(if bt408.2.2.2=0 then(watchwordref9_GetPacket.j0 k a0 bt408.1 bt408.2.1 (bt408.2.2.1 !=(a0.size:Int)))else(watchwordref9_GetPacket.j0 k a0 bt408.1 bt408.2.1 true)))=some (r1,r2,r3,r4,r5,r6):=h;clear h;obtain⟨⟨t0,t1,t2,t3⟩,A0,H⟩:=bsE H;(try dsimp only at H);have A2:=Aside0.mk A0;clear A0;have K0:=Aside0.mk H;clear H
 go_enter Try.func12,Try.ntmps12
 go_upto_region 2 with(first|((with_reducible refine gate_dst (N:=2) rfl ?_);(try (refine gate_guard mBV ?_;dsimp only));refine bxV (N:=2) (cs:=#[.int .i64 0,.int .i64 0,.slice none 0 0,.slice none 0 0,.slice none 0 0]) (t:=26) (h:=?_);intro g0 hg w4 hbox hb;have B0:=Aside0.mk (hbox);have G0:=Aside0.mk ((mJ:w.heap.size<=g0));have G1:=Aside0.mk ((mJ:w.heap.size<=g0));replace HB:=Aside0.mk (below_step mA hb);clear hb hbox hg)|((with_reducible refine gate_callee (f:=30) rfl ?_);refine cLV (some 18) Try.func30 #[.string a0] (h:=?_);(with_reducible refine(watchwordref1_GetHead.calls k a0 t0 t1 t2 t3 _ A2.out).mono ?_);rintro e w5 ⟨rfl,hb⟩;refine⟨_,rfl,?_⟩;replace B0:=Aside0.mk (blk_below mB hb);replace HB:=Aside0.mk (below_step mC hb);(try clear hb)))
 (try simp only[Act.put,List.setIfInBounds_toArray,List.set_cons_zero,List.set_cons_succ])
 go_cut [30] (λv30 wc=>∃(kq:Nat) (x1:Bool),v30= .bool x1/\Aside0 (watchwordref9_GetPacket.j0 kq a0 t0 t1 x1=some (r1,r2,r3,r4,r5,r6))/\Aside0 (kq<=k)/\Aside0 (wc.heap[g0]? =some (.cells #[.int .i64 0,.int .i64 0,(.slice none 0 0),(.slice none 0 0),(.slice none 0 0)] 26 (0,0)))/\Aside0 (Below w.heap.size w wc))
 case first=>
  have H:=K0.out;clear K0
  by_cases c6:t3=0
  ·rw[if_pos c6]at H
   have c4:=beq_iff_eq.mpr c6;have c8:=bne_eq_false_iff_eq.mpr c6;clear c6
   (first|rw[c4]|(simp only[i64_w,i32_w];rw[c4])|skip)
   have H':=Aside0.mk H;clear H;go_wp2;go_meet
   case rel=>exact⟨_,((t2 !=(a0.size:Int))),mK,H',⟨by first|omega|exact Nat.le_refl _⟩,⟨by(with_reducible repeat (first|refine blk_drewN ?_ _|refine blk_drew ?_ |refine blk_alloc ?_ _));exact B0.out⟩,⟨by repeat (first|(with_reducible first|exact HB.out|apply below_alloc|apply pw_below_drewN|apply below_drew1|refine below_set ?_ G1.out)|exact HB.out)⟩⟩
  ·rw[if_neg c6]at H
   have c4:=beq_eq_false_iff_ne.mpr c6;have c8:=bne_iff_ne.mpr c6
   (first|rw[c4]|(simp only[i64_w,i32_w];rw[c4])|skip)
   have H':=Aside0.mk H;clear H;go_wp2;go_meet
   case rel=>exact⟨_,(true),mK,H',⟨by first|omega|exact Nat.le_refl _⟩,⟨by(with_reducible repeat (first|refine blk_drewN ?_ _|refine blk_drew ?_ |refine blk_alloc ?_ _));exact B0.out⟩,⟨by repeat (first|(with_reducible first|exact HB.out|apply below_alloc|apply pw_below_drewN|apply below_drew1|refine below_set ?_ G1.out)|exact HB.out)⟩⟩
 case rest=>
  clear K0;(try clear c1);(try clear p2);(try clear c3);(try clear c6);(try clear c4);(try clear c8);obtain⟨kq,x1,rfl,HA,HJ2,B0,HB⟩:=hcut;cases kq with
  |zero=>exact absurd HA.out (by simp[watchwordref9_GetPacket.j0])
  |succ j1=>
   have H:=HA.out;clear HA;simp only[watchwordref9_GetPacket.j0]at H
   by_cases c7:x1=true
   ·subst c7
    rw[if_pos rfl]at H;simp only[Option.some.injEq,Prod.mk.injEq]at H;obtain⟨rfl,rfl,rfl,rfl,rfl,rfl⟩:=H;obtain⟨z0,z1,z2,z3,z4⟩:=bc5 B0.out;have z5:=blk_frozen B0.out
    go_wp2_with (first|((with_reducible refine gate_store (t:=26) (p:=2) rfl ?_);refine stV (t:=26) (p:=2) (w1:=(((((wc.setCell ⟨g0,0,none⟩ (.int .i64 0)).setCell ⟨g0,1,none⟩ (.int .i64 0)).setCell ⟨g0,2,none⟩ (.slice none 0 0)).setCell ⟨g0,3,none⟩ (.slice none 0 0)).setCell ⟨g0,4,none⟩ (.slice none 0 0))) (h:=?_);intro w9 hw;replace B0:Aside0 (w9.heap[g0]? =some (.cells #[.int .i64 0,.int .i64 0,.slice none 0 0,.slice none 0 0,.slice none 0 0] 26 (0,0))):=⟨mI⟩;replace HB:Aside0 (Below w.heap.size w w9):=⟨mBI⟩;clear hw))
    refine bodyPost_ret (results_ct rfl _ _ g0 26 #[.int .i64 0,.int .i64 0,.slice none 0 0,.slice none 0 0,.slice none 0 0] (0,0) _ rfl mB Try.underlying26 rfl mAD) rfl ?_;exact⟨_,_,_,by first|rfl|(simp[errW_none,errW_some] <;> rfl)|(simp[*,errW_none,errW_some] <;> rfl),by first|exact Kd.R_nil _ _ _ _ _|exact Kd.N_nil _ _ _ _ _|exact Kd.V_nil _ _ _ _ _|exact Kd.Q_nil _ _ _ _ _|exact Kd.S_nil _ _ _ _ _,by first|exact Kd.S_nil _ _ _ _ _|exact Kd.N_nil _ _ _ _ _|exact Kd.V_nil _ _ _ _ _|exact Kd.Q_nil _ _ _ _ _|exact Kd.R_nil _ _ _ _ _,by first|exact Kd.R_nil _ _ _ _ _|exact Kd.N_nil _ _ _ _ _|exact Kd.V_nil _ _ _ _ _|exact Kd.Q_nil _ _ _ _ _|exact Kd.S_nil _ _ _ _ _,by repeat (first|(with_reducible first|exact HB.out|apply below_alloc|apply pw_below_drewN|apply below_drew1|refine below_set ?_ G1.out)|exact HB.out)⟩
   ·replace c7:=Bool.eq_false_iff.mpr c7
    subst c7;rw[if_neg (show ¬(false=true)by decide)]at H
    by_cases ck:t0=1
    ·rw[if_pos ck]at H
     have cl:=beq_iff_eq.mpr ck;have cm:=bne_eq_false_iff_eq.mpr ck;clear ck
     by_cases cn:12<=(a0.size:Int)
     ·rw[if_pos cn]at H
      have c11p:12<=a0.size:=by omega
      have co:=eq_true cn;have cp:=decide_eq_true cn;clear cn;obtain⟨⟨t4,t5⟩,A3,H⟩:=bsE H;(try dsimp only at H);have A4:=Aside0.mk A3;clear A3
      by_cases cq:t5=0
      ·rw[if_pos cq]at H
       have cr:=beq_iff_eq.mpr cq;have ct:=bne_eq_false_iff_eq.mpr cq;clear cq;simp only[Option.some.injEq,Prod.mk.injEq]at H;obtain⟨rfl,rfl,rfl,rfl,rfl,rfl⟩:=H
       go_wp2_with (first|((with_reducible refine gate_dst (N:=8) rfl ?_);(try (refine gate_guard mBV ?_;dsimp only));refine bxV (N:=8) (cs:=#[.int .i64 0,.int .i64 0,.slice none 0 0,.slice none 0 0,.slice none 0 0]) (t:=26) (h:=?_);intro g1 hg wa hbox hb;have B1:=Aside0.mk (hbox);have G2:=Aside0.mk ((mT:w.heap.size<=g1));have G3:=Aside0.mk ((mT:w.heap.size<=g1));replace HB:=Aside0.mk (below_step mC hb);have N0:=Aside0.mk ((mAB:g0≠g1));have N1:=Aside0.mk ((mAC:g1≠g0));replace B0:=Aside0.mk (blk_below mB hb);clear hb hbox hg;have n0:=N1.out;have n1:=N0.out;obtain⟨z6,z7,z8,z9,za⟩:=bc5 B1.out;have zb:=blk_frozen B1.out)|((with_reducible refine gate_store (t:=26) (p:=8) rfl ?_);refine stV (t:=26) (p:=8) (w1:=(((((wa.setCell ⟨g1,0,none⟩ (.int .i64 t0)).setCell ⟨g1,1,none⟩ (.int .i64 t1)).setCell ⟨g1,2,none⟩ (.slice none 0 0)).setCell ⟨g1,3,none⟩ (.slice none 0 0)).setCell ⟨g1,4,none⟩ (.slice none 0 0))) (h:=?_);intro wd hw;replace B0:Aside0 (wd.heap[g0]? =some (.cells #[.int .i64 0,.int .i64 0,.slice none 0 0,.slice none 0 0,.slice none 0 0] 26 (0,0))):=⟨mG⟩;replace B1:Aside0 (wd.heap[g1]? =some (.cells #[.int .i64 t0,.int .i64 t1,.slice none 0 0,.slice none 0 0,.slice none 0 0] 26 (0,0))):=⟨mF⟩;replace HB:Aside0 (Below w.heap.size w wd):=⟨mAR⟩;clear hw)|((with_reducible refine gate_callee (f:=31) rfl ?_);refine cLV (some 50) Try.func31 #[.string (a0.extract 12 a0.size)] (h:=?_);(with_reducible refine(watchwordref9_GetHello.calls j1 (a0.extract 12 a0.size) t4 t5 _ A4.out).mono ?_);rintro e we ⟨v415,rfl,ho0,hb⟩;refine⟨_,rfl,?_⟩;have O0:=Aside0.mk (Kd.R_lower ho0 (below_size mD));replace B0:=Aside0.mk (blk_below mB hb);replace B1:=Aside0.mk (blk_below mL hb);replace HB:=Aside0.mk (below_step mD hb);(try clear hb);(try clear ho0);obtain⟨s0,s1,s2⟩:=Kd.R_slice O0.out;subst s2;obtain⟨zc,zd,ze,zf,zg⟩:=bc5 B1.out;have zh:=blk_frozen B1.out)|((with_reducible refine gate_store (t:=22) (p:=54) rfl ?_);refine stV (t:=22) (p:=54) (w1:=(we.setCell ⟨g1,2,none⟩ (.slice s0 t4.length s1))) (h:=?_);intro wg hw;replace O0:Aside0 (Kd.R (Kd.int .i64) 3 wg w.heap.size (λ_=>True) (.slice s0 t4.length s1) t4):=⟨mCC⟩;replace B0:Aside0 (wg.heap[g0]? =some (.cells #[.int .i64 0,.int .i64 0,.slice none 0 0,.slice none 0 0,.slice none 0 0] 26 (0,0))):=⟨mU⟩;replace B1:Aside0 (wg.heap[g1]? =some (.cells #[.int .i64 t0,.int .i64 t1,.slice s0 t4.length s1,.slice none 0 0,.slice none 0 0] 26 (0,0))):=⟨mAP⟩;replace HB:Aside0 (Below w.heap.size w wg):=⟨mAR⟩;clear hw;obtain⟨zi,zj,zk,zl,zm⟩:=bc5 B1.out;have zn:=blk_frozen B1.out;obtain⟨zo,zp,zq,zr,zs⟩:=bc5 B0.out;have zt:=blk_frozen B0.out)|((with_reducible refine gate_store (t:=26) (p:=2) rfl ?_);refine stV (t:=26) (p:=2) (w1:=(((((wg.setCell ⟨g0,0,none⟩ (.int .i64 t0)).setCell ⟨g0,1,none⟩ (.int .i64 t1)).setCell ⟨g0,2,none⟩ (.slice s0 t4.length s1)).setCell ⟨g0,3,none⟩ (.slice none 0 0)).setCell ⟨g0,4,none⟩ (.slice none 0 0))) (h:=?_);intro wi hw;replace O0:Aside0 (Kd.R (Kd.int .i64) 3 wi w.heap.size (λ_=>True) (.slice s0 t4.length s1) t4):=⟨mBE⟩;replace B0:Aside0 (wi.heap[g0]? =some (.cells #[.int .i64 t0,.int .i64 t1,.slice s0 t4.length s1,.slice none 0 0,.slice none 0 0] 26 (0,0))):=⟨mAI⟩;replace B1:Aside0 (wi.heap[g1]? =some (.cells #[.int .i64 t0,.int .i64 t1,.slice s0 t4.length s1,.slice none 0 0,.slice none 0 0] 26 (0,0))):=⟨mH⟩;replace HB:Aside0 (Below w.heap.size w wi):=⟨mAR⟩;clear hw))
       refine bodyPost_ret (results_ct rfl _ _ g0 26 #[.int .i64 t0,.int .i64 t1,.slice s0 t4.length s1,.slice none 0 0,.slice none 0 0] (0,0) _ rfl mB Try.underlying26 rfl mAD) rfl ?_;exact⟨_,_,_,by first|rfl|(simp[errW_none,errW_some] <;> rfl)|(simp[*,errW_none,errW_some] <;> rfl),by(with_reducible repeat (first|apply Kd.R_alloc|apply Kd.R_drewN|apply Kd.R_drew));exact O0.out,by first|exact Kd.S_nil _ _ _ _ _|exact Kd.N_nil _ _ _ _ _|exact Kd.V_nil _ _ _ _ _|exact Kd.Q_nil _ _ _ _ _|exact Kd.R_nil _ _ _ _ _,by first|exact Kd.R_nil _ _ _ _ _|exact Kd.N_nil _ _ _ _ _|exact Kd.V_nil _ _ _ _ _|exact Kd.Q_nil _ _ _ _ _|exact Kd.S_nil _ _ _ _ _,by repeat (first|(with_reducible first|exact HB.out|apply below_alloc|apply pw_below_drewN|apply below_drew1|refine below_set ?_ G1.out|refine below_set ?_ G3.out)|exact HB.out)⟩
      ·rw[if_neg cq]at H
       have cr:=beq_eq_false_iff_ne.mpr cq;have ct:=bne_iff_ne.mpr cq;simp only[Option.some.injEq,Prod.mk.injEq]at H;obtain⟨rfl,rfl,rfl,rfl,rfl,rfl⟩:=H
       go_wp2_with (first|((with_reducible refine gate_dst (N:=8) rfl ?_);(try (refine gate_guard mBV ?_;dsimp only));refine bxV (N:=8) (cs:=#[.int .i64 0,.int .i64 0,.slice none 0 0,.slice none 0 0,.slice none 0 0]) (t:=26) (h:=?_);intro g1 hg wj hbox hb;have B1:=Aside0.mk (hbox);have G2:=Aside0.mk ((mT:w.heap.size<=g1));have G3:=Aside0.mk ((mT:w.heap.size<=g1));replace HB:=Aside0.mk (below_step mC hb);have N0:=Aside0.mk ((mAB:g0≠g1));have N1:=Aside0.mk ((mAC:g1≠g0));replace B0:=Aside0.mk (blk_below mB hb);clear hb hbox hg;have n2:=N1.out;have n3:=N0.out;obtain⟨zu,zv,zw,zx,zy⟩:=bc5 B1.out;have zz:=blk_frozen B1.out)|((with_reducible refine gate_store (t:=26) (p:=8) rfl ?_);refine stV (t:=26) (p:=8) (w1:=(((((wj.setCell ⟨g1,0,none⟩ (.int .i64 t0)).setCell ⟨g1,1,none⟩ (.int .i64 t1)).setCell ⟨g1,2,none⟩ (.slice none 0 0)).setCell ⟨g1,3,none⟩ (.slice none 0 0)).setCell ⟨g1,4,none⟩ (.slice none 0 0))) (h:=?_);intro wl hw;replace B0:Aside0 (wl.heap[g0]? =some (.cells #[.int .i64 0,.int .i64 0,.slice none 0 0,.slice none 0 0,.slice none 0 0] 26 (0,0))):=⟨mG⟩;replace B1:Aside0 (wl.heap[g1]? =some (.cells #[.int .i64 t0,.int .i64 t1,.slice none 0 0,.slice none 0 0,.slice none 0 0] 26 (0,0))):=⟨mF⟩;replace HB:Aside0 (Below w.heap.size w wl):=⟨mAR⟩;clear hw)|((with_reducible refine gate_callee (f:=31) rfl ?_);refine cLV (some 50) Try.func31 #[.string (a0.extract 12 a0.size)] (h:=?_);(with_reducible refine(watchwordref9_GetHello.calls j1 (a0.extract 12 a0.size) t4 t5 _ A4.out).mono ?_);rintro e wm ⟨v415,rfl,ho0,hb⟩;refine⟨_,rfl,?_⟩;have O0:=Aside0.mk (Kd.R_lower ho0 (below_size mD));replace B0:=Aside0.mk (blk_below mB hb);replace B1:=Aside0.mk (blk_below mL hb);replace HB:=Aside0.mk (below_step mD hb);(try clear hb);(try clear ho0);obtain⟨s3,s4,s5⟩:=Kd.R_slice O0.out;subst s5;obtain⟨z00,z01,z02,z03,z04⟩:=bc5 B1.out;have z05:=blk_frozen B1.out)|((with_reducible refine gate_store (t:=22) (p:=54) rfl ?_);refine stV (t:=22) (p:=54) (w1:=(wm.setCell ⟨g1,2,none⟩ (.slice s3 t4.length s4))) (h:=?_);intro wo hw;replace O0:Aside0 (Kd.R (Kd.int .i64) 3 wo w.heap.size (λ_=>True) (.slice s3 t4.length s4) t4):=⟨mCB⟩;replace B0:Aside0 (wo.heap[g0]? =some (.cells #[.int .i64 0,.int .i64 0,.slice none 0 0,.slice none 0 0,.slice none 0 0] 26 (0,0))):=⟨mU⟩;replace B1:Aside0 (wo.heap[g1]? =some (.cells #[.int .i64 t0,.int .i64 t1,.slice s3 t4.length s4,.slice none 0 0,.slice none 0 0] 26 (0,0))):=⟨mAP⟩;replace HB:Aside0 (Below w.heap.size w wo):=⟨mAR⟩;clear hw;obtain⟨z06,z07,z08,z09,z0a⟩:=bc5 B0.out;have z0b:=blk_frozen B0.out)|((with_reducible refine gate_store (t:=26) (p:=2) rfl ?_);refine stV (t:=26) (p:=2) (w1:=(((((wo.setCell ⟨g0,0,none⟩ (.int .i64 0)).setCell ⟨g0,1,none⟩ (.int .i64 0)).setCell ⟨g0,2,none⟩ (.slice none 0 0)).setCell ⟨g0,3,none⟩ (.slice none 0 0)).setCell ⟨g0,4,none⟩ (.slice none 0 0))) (h:=?_);intro wq hw;replace O0:Aside0 (Kd.R (Kd.int .i64) 3 wq w.heap.size (λ_=>True) (.slice s3 t4.length s4) t4):=⟨mBH⟩;replace B0:Aside0 (wq.heap[g0]? =some (.cells #[.int .i64 0,.int .i64 0,.slice none 0 0,.slice none 0 0,.slice none 0 0] 26 (0,0))):=⟨mI⟩;replace B1:Aside0 (wq.heap[g1]? =some (.cells #[.int .i64 t0,.int .i64 t1,.slice s3 t4.length s4,.slice none 0 0,.slice none 0 0] 26 (0,0))):=⟨mH⟩;replace HB:Aside0 (Below w.heap.size w wq):=⟨mAR⟩;clear hw))
       refine bodyPost_ret (results_ct rfl _ _ g0 26 #[.int .i64 0,.int .i64 0,.slice none 0 0,.slice none 0 0,.slice none 0 0] (0,0) _ rfl mB Try.underlying26 rfl mAD) rfl ?_;exact⟨_,_,_,by first|rfl|(simp[errW_none,errW_some] <;> rfl)|(simp[*,errW_none,errW_some] <;> rfl),by first|exact Kd.R_nil _ _ _ _ _|exact Kd.N_nil _ _ _ _ _|exact Kd.V_nil _ _ _ _ _|exact Kd.Q_nil _ _ _ _ _|exact Kd.S_nil _ _ _ _ _,by first|exact Kd.S_nil _ _ _ _ _|exact Kd.N_nil _ _ _ _ _|exact Kd.V_nil _ _ _ _ _|exact Kd.Q_nil _ _ _ _ _|exact Kd.R_nil _ _ _ _ _,by first|exact Kd.R_nil _ _ _ _ _|exact Kd.N_nil _ _ _ _ _|exact Kd.V_nil _ _ _ _ _|exact Kd.Q_nil _ _ _ _ _|exact Kd.S_nil _ _ _ _ _,by repeat (first|(with_reducible first|exact HB.out|apply below_alloc|apply pw_below_drewN|apply below_drew1|refine below_set ?_ G1.out|refine below_set ?_ G3.out)|exact HB.out)⟩
     ·rw[if_neg cn]at H
      exact absurd H mAM
    ·rw[if_neg ck]at H
     have cl:=beq_eq_false_iff_ne.mpr ck;have cm:=bne_iff_ne.mpr ck
     by_cases cu:t0=4
     ·rw[if_pos cu]at H
      have cv:=beq_iff_eq.mpr cu;have cw:=bne_eq_false_iff_eq.mpr cu;clear cu
      by_cases cx:12<=(a0.size:Int)
      ·rw[if_pos cx]at H
       have c36p:12<=a0.size:=by omega
       have cy:=eq_true cx;have cz:=decide_eq_true cx;clear cx;obtain⟨⟨t6,t7⟩,A5,H⟩:=bsE H;(try dsimp only at H);have A6:=Aside0.mk A5;clear A5
       by_cases c38:t7=0
       ·rw[if_pos c38]at H
        have c02:=beq_iff_eq.mpr c38;have c04:=bne_eq_false_iff_eq.mpr c38;clear c38;simp only[Option.some.injEq,Prod.mk.injEq]at H;obtain⟨rfl,rfl,rfl,rfl,rfl,rfl⟩:=H
        go_wp2_with (first|((with_reducible refine gate_dst (N:=8) rfl ?_);(try (refine gate_guard mBV ?_;dsimp only));refine bxV (N:=8) (cs:=#[.int .i64 0,.int .i64 0,.slice none 0 0,.slice none 0 0,.slice none 0 0]) (t:=26) (h:=?_);intro g1 hg wr hbox hb;have B1:=Aside0.mk (hbox);have G2:=Aside0.mk ((mT:w.heap.size<=g1));have G3:=Aside0.mk ((mT:w.heap.size<=g1));replace HB:=Aside0.mk (below_step mC hb);have N0:=Aside0.mk ((mAB:g0≠g1));have N1:=Aside0.mk ((mAC:g1≠g0));replace B0:=Aside0.mk (blk_below mB hb);clear hb hbox hg;have n4:=N1.out;have n5:=N0.out;obtain⟨z0c,z0d,z0e,z0f,z0g⟩:=bc5 B1.out;have z0h:=blk_frozen B1.out)|((with_reducible refine gate_store (t:=26) (p:=8) rfl ?_);refine stV (t:=26) (p:=8) (w1:=(((((wr.setCell ⟨g1,0,none⟩ (.int .i64 t0)).setCell ⟨g1,1,none⟩ (.int .i64 t1)).setCell ⟨g1,2,none⟩ (.slice none 0 0)).setCell ⟨g1,3,none⟩ (.slice none 0 0)).setCell ⟨g1,4,none⟩ (.slice none 0 0))) (h:=?_);intro wt hw;replace B0:Aside0 (wt.heap[g0]? =some (.cells #[.int .i64 0,.int .i64 0,.slice none 0 0,.slice none 0 0,.slice none 0 0] 26 (0,0))):=⟨mG⟩;replace B1:Aside0 (wt.heap[g1]? =some (.cells #[.int .i64 t0,.int .i64 t1,.slice none 0 0,.slice none 0 0,.slice none 0 0] 26 (0,0))):=⟨mF⟩;replace HB:Aside0 (Below w.heap.size w wt):=⟨mAR⟩;clear hw)|((with_reducible refine gate_callee (f:=32) rfl ?_);refine cLV (some 61) Try.func32 #[.string (a0.extract 12 a0.size)] (h:=?_);(with_reducible refine(watchwordref9_GetUpdate.calls j1 (a0.extract 12 a0.size) t6 t7 _ A6.out).mono ?_);rintro e wu ⟨v419,rfl,ho0,hb⟩;refine⟨_,rfl,?_⟩;have O1:=Aside0.mk (Kd.S_lower ho0 (below_size mD));replace B0:=Aside0.mk (blk_below mB hb);replace B1:=Aside0.mk (blk_below mL hb);replace HB:=Aside0.mk (below_step mD hb);(try clear hb);(try clear ho0);obtain⟨s6,s7,s8⟩:=Kd.S_slice O1.out;subst s8;obtain⟨z0i,z0j,z0k,z0l,z0m⟩:=bc5 B1.out;have z0n:=blk_frozen B1.out)|((with_reducible refine gate_store (t:=23) (p:=65) rfl ?_);refine stV (t:=23) (p:=65) (w1:=(wu.setCell ⟨g1,3,none⟩ (.slice s6 t6.length s7))) (h:=?_);intro ww hw;replace O1:Aside0 (Kd.S k45 45 ww w.heap.size (λ_=>True) (.slice s6 t6.length s7) t6):=⟨mBY⟩;replace B0:Aside0 (ww.heap[g0]? =some (.cells #[.int .i64 0,.int .i64 0,.slice none 0 0,.slice none 0 0,.slice none 0 0] 26 (0,0))):=⟨mU⟩;replace B1:Aside0 (ww.heap[g1]? =some (.cells #[.int .i64 t0,.int .i64 t1,.slice none 0 0,.slice s6 t6.length s7,.slice none 0 0] 26 (0,0))):=⟨mAO⟩;replace HB:Aside0 (Below w.heap.size w ww):=⟨mAR⟩;clear hw;obtain⟨z0o,z0p,z0q,z0r,z0s⟩:=bc5 B1.out;have z0t:=blk_frozen B1.out;obtain⟨z0u,z0v,z0w,z0x,z0y⟩:=bc5 B0.out;have z0z:=blk_frozen B0.out)|((with_reducible refine gate_store (t:=26) (p:=2) rfl ?_);refine stV (t:=26) (p:=2) (w1:=(((((ww.setCell ⟨g0,0,none⟩ (.int .i64 t0)).setCell ⟨g0,1,none⟩ (.int .i64 t1)).setCell ⟨g0,2,none⟩ (.slice none 0 0)).setCell ⟨g0,3,none⟩ (.slice s6 t6.length s7)).setCell ⟨g0,4,none⟩ (.slice none 0 0))) (h:=?_);intro wy hw;replace O1:Aside0 (Kd.S k45 45 wy w.heap.size (λ_=>True) (.slice s6 t6.length s7) t6):=⟨mBC⟩;replace B0:Aside0 (wy.heap[g0]? =some (.cells #[.int .i64 t0,.int .i64 t1,.slice none 0 0,.slice s6 t6.length s7,.slice none 0 0] 26 (0,0))):=⟨mAK⟩;replace B1:Aside0 (wy.heap[g1]? =some (.cells #[.int .i64 t0,.int .i64 t1,.slice none 0 0,.slice s6 t6.length s7,.slice none 0 0] 26 (0,0))):=⟨mH⟩;replace HB:Aside0 (Below w.heap.size w wy):=⟨mAR⟩;clear hw))
        refine bodyPost_ret (results_ct rfl _ _ g0 26 #[.int .i64 t0,.int .i64 t1,.slice none 0 0,.slice s6 t6.length s7,.slice none 0 0] (0,0) _ rfl mB Try.underlying26 rfl mAD) rfl ?_;exact⟨_,_,_,by first|rfl|(simp[errW_none,errW_some] <;> rfl)|(simp[*,errW_none,errW_some] <;> rfl),by first|exact Kd.R_nil _ _ _ _ _|exact Kd.N_nil _ _ _ _ _|exact Kd.V_nil _ _ _ _ _|exact Kd.Q_nil _ _ _ _ _|exact Kd.S_nil _ _ _ _ _,by(with_reducible repeat (first|apply Kd.S_alloc|apply Kd.S_drewN|apply Kd.S_drew));exact O1.out,by first|exact Kd.R_nil _ _ _ _ _|exact Kd.N_nil _ _ _ _ _|exact Kd.V_nil _ _ _ _ _|exact Kd.Q_nil _ _ _ _ _|exact Kd.S_nil _ _ _ _ _,by repeat (first|(with_reducible first|exact HB.out|apply below_alloc|apply pw_below_drewN|apply below_drew1|refine below_set ?_ G1.out|refine below_set ?_ G3.out)|exact HB.out)⟩
       ·rw[if_neg c38]at H
        have c02:=beq_eq_false_iff_ne.mpr c38;have c04:=bne_iff_ne.mpr c38;simp only[Option.some.injEq,Prod.mk.injEq]at H;obtain⟨rfl,rfl,rfl,rfl,rfl,rfl⟩:=H
        go_wp2_with (first|((with_reducible refine gate_dst (N:=8) rfl ?_);(try (refine gate_guard mBV ?_;dsimp only));refine bxV (N:=8) (cs:=#[.int .i64 0,.int .i64 0,.slice none 0 0,.slice none 0 0,.slice none 0 0]) (t:=26) (h:=?_);intro g1 hg wz hbox hb;have B1:=Aside0.mk (hbox);have G2:=Aside0.mk ((mT:w.heap.size<=g1));have G3:=Aside0.mk ((mT:w.heap.size<=g1));replace HB:=Aside0.mk (below_step mC hb);have N0:=Aside0.mk ((mAB:g0≠g1));have N1:=Aside0.mk ((mAC:g1≠g0));replace B0:=Aside0.mk (blk_below mB hb);clear hb hbox hg;have n6:=N1.out;have n7:=N0.out;obtain⟨z10,z11,z12,z13,z14⟩:=bc5 B1.out;have z15:=blk_frozen B1.out)|((with_reducible refine gate_store (t:=26) (p:=8) rfl ?_);refine stV (t:=26) (p:=8) (w1:=(((((wz.setCell ⟨g1,0,none⟩ (.int .i64 t0)).setCell ⟨g1,1,none⟩ (.int .i64 t1)).setCell ⟨g1,2,none⟩ (.slice none 0 0)).setCell ⟨g1,3,none⟩ (.slice none 0 0)).setCell ⟨g1,4,none⟩ (.slice none 0 0))) (h:=?_);intro w53 hw;replace B0:Aside0 (w53.heap[g0]? =some (.cells #[.int .i64 0,.int .i64 0,.slice none 0 0,.slice none 0 0,.slice none 0 0] 26 (0,0))):=⟨mG⟩;replace B1:Aside0 (w53.heap[g1]? =some (.cells #[.int .i64 t0,.int .i64 t1,.slice none 0 0,.slice none 0 0,.slice none 0 0] 26 (0,0))):=⟨mF⟩;replace HB:Aside0 (Below w.heap.size w w53):=⟨mAR⟩;clear hw)|((with_reducible refine gate_callee (f:=32) rfl ?_);refine cLV (some 61) Try.func32 #[.string (a0.extract 12 a0.size)] (h:=?_);(with_reducible refine(watchwordref9_GetUpdate.calls j1 (a0.extract 12 a0.size) t6 t7 _ A6.out).mono ?_);rintro e w54 ⟨v419,rfl,ho0,hb⟩;refine⟨_,rfl,?_⟩;have O1:=Aside0.mk (Kd.S_lower ho0 (below_size mD));replace B0:=Aside0.mk (blk_below mB hb);replace B1:=Aside0.mk (blk_below mL hb);replace HB:=Aside0.mk (below_step mD hb);(try clear hb);(try clear ho0);obtain⟨s9,sa,sb⟩:=Kd.S_slice O1.out;subst sb;obtain⟨z16,z17,z18,z19,z1a⟩:=bc5 B1.out;have z1b:=blk_frozen B1.out)|((with_reducible refine gate_store (t:=23) (p:=65) rfl ?_);refine stV (t:=23) (p:=65) (w1:=(w54.setCell ⟨g1,3,none⟩ (.slice s9 t6.length sa))) (h:=?_);intro w57 hw;replace O1:Aside0 (Kd.S k45 45 w57 w.heap.size (λ_=>True) (.slice s9 t6.length sa) t6):=⟨mBX⟩;replace B0:Aside0 (w57.heap[g0]? =some (.cells #[.int .i64 0,.int .i64 0,.slice none 0 0,.slice none 0 0,.slice none 0 0] 26 (0,0))):=⟨mU⟩;replace B1:Aside0 (w57.heap[g1]? =some (.cells #[.int .i64 t0,.int .i64 t1,.slice none 0 0,.slice s9 t6.length sa,.slice none 0 0] 26 (0,0))):=⟨mAO⟩;replace HB:Aside0 (Below w.heap.size w w57):=⟨mAR⟩;clear hw;obtain⟨z1c,z1d,z1e,z1f,z1g⟩:=bc5 B0.out;have z1h:=blk_frozen B0.out)|((with_reducible refine gate_store (t:=26) (p:=2) rfl ?_);refine stV (t:=26) (p:=2) (w1:=(((((w57.setCell ⟨g0,0,none⟩ (.int .i64 0)).setCell ⟨g0,1,none⟩ (.int .i64 0)).setCell ⟨g0,2,none⟩ (.slice none 0 0)).setCell ⟨g0,3,none⟩ (.slice none 0 0)).setCell ⟨g0,4,none⟩ (.slice none 0 0))) (h:=?_);intro w59 hw;replace O1:Aside0 (Kd.S k45 45 w59 w.heap.size (λ_=>True) (.slice s9 t6.length sa) t6):=⟨mBF⟩;replace B0:Aside0 (w59.heap[g0]? =some (.cells #[.int .i64 0,.int .i64 0,.slice none 0 0,.slice none 0 0,.slice none 0 0] 26 (0,0))):=⟨mI⟩;replace B1:Aside0 (w59.heap[g1]? =some (.cells #[.int .i64 t0,.int .i64 t1,.slice none 0 0,.slice s9 t6.length sa,.slice none 0 0] 26 (0,0))):=⟨mH⟩;replace HB:Aside0 (Below w.heap.size w w59):=⟨mAR⟩;clear hw))
        refine bodyPost_ret (results_ct rfl _ _ g0 26 #[.int .i64 0,.int .i64 0,.slice none 0 0,.slice none 0 0,.slice none 0 0] (0,0) _ rfl mB Try.underlying26 rfl mAD) rfl ?_;exact⟨_,_,_,by first|rfl|(simp[errW_none,errW_some] <;> rfl)|(simp[*,errW_none,errW_some] <;> rfl),by first|exact Kd.R_nil _ _ _ _ _|exact Kd.N_nil _ _ _ _ _|exact Kd.V_nil _ _ _ _ _|exact Kd.Q_nil _ _ _ _ _|exact Kd.S_nil _ _ _ _ _,by first|exact Kd.S_nil _ _ _ _ _|exact Kd.N_nil _ _ _ _ _|exact Kd.V_nil _ _ _ _ _|exact Kd.Q_nil _ _ _ _ _|exact Kd.R_nil _ _ _ _ _,by first|exact Kd.R_nil _ _ _ _ _|exact Kd.N_nil _ _ _ _ _|exact Kd.V_nil _ _ _ _ _|exact Kd.Q_nil _ _ _ _ _|exact Kd.S_nil _ _ _ _ _,by repeat (first|(with_reducible first|exact HB.out|apply below_alloc|apply pw_below_drewN|apply below_drew1|refine below_set ?_ G1.out|refine below_set ?_ G3.out)|exact HB.out)⟩
      ·rw[if_neg cx]at H
       exact absurd H mAM
     ·rw[if_neg cu]at H
      have cv:=beq_eq_false_iff_ne.mpr cu;have cw:=bne_iff_ne.mpr cu
      by_cases c60:12<=(a0.size:Int)
      ·rw[if_pos c60]at H
       have c60p:12<=a0.size:=by omega
       have c0c:=eq_true c60;have c0e:=decide_eq_true c60;clear c60;obtain⟨⟨t8,t9⟩,A7,H⟩:=bsE H;(try dsimp only at H);have A8:=Aside0.mk A7;clear A7
       by_cases c62:t9=0
       ·rw[if_pos c62]at H
        have c0j:=beq_iff_eq.mpr c62;have c0l:=bne_eq_false_iff_eq.mpr c62;clear c62;simp only[Option.some.injEq,Prod.mk.injEq]at H;obtain⟨rfl,rfl,rfl,rfl,rfl,rfl⟩:=H
        go_wp2_with (first|((with_reducible refine gate_dst (N:=8) rfl ?_);(try (refine gate_guard mBV ?_;dsimp only));refine bxV (N:=8) (cs:=#[.int .i64 0,.int .i64 0,.slice none 0 0,.slice none 0 0,.slice none 0 0]) (t:=26) (h:=?_);intro g1 hg w63 hbox hb;have B1:=Aside0.mk (hbox);have G2:=Aside0.mk ((mT:w.heap.size<=g1));have G3:=Aside0.mk ((mT:w.heap.size<=g1));replace HB:=Aside0.mk (below_step mC hb);have N0:=Aside0.mk ((mAB:g0≠g1));have N1:=Aside0.mk ((mAC:g1≠g0));replace B0:=Aside0.mk (blk_below mB hb);clear hb hbox hg;have n8:=N1.out;have n9:=N0.out;obtain⟨z1i,z1j,z1k,z1l,z1m⟩:=bc5 B1.out;have z1n:=blk_frozen B1.out)|((with_reducible refine gate_store (t:=26) (p:=8) rfl ?_);refine stV (t:=26) (p:=8) (w1:=(((((w63.setCell ⟨g1,0,none⟩ (.int .i64 t0)).setCell ⟨g1,1,none⟩ (.int .i64 t1)).setCell ⟨g1,2,none⟩ (.slice none 0 0)).setCell ⟨g1,3,none⟩ (.slice none 0 0)).setCell ⟨g1,4,none⟩ (.slice none 0 0))) (h:=?_);intro w66 hw;replace B0:Aside0 (w66.heap[g0]? =some (.cells #[.int .i64 0,.int .i64 0,.slice none 0 0,.slice none 0 0,.slice none 0 0] 26 (0,0))):=⟨mG⟩;replace B1:Aside0 (w66.heap[g1]? =some (.cells #[.int .i64 t0,.int .i64 t1,.slice none 0 0,.slice none 0 0,.slice none 0 0] 26 (0,0))):=⟨mF⟩;replace HB:Aside0 (Below w.heap.size w w66):=⟨mAR⟩;clear hw)|((with_reducible refine gate_callee (f:=33) rfl ?_);refine cLV (some 39) Try.func33 #[.string (a0.extract 12 a0.size)] (h:=?_);(with_reducible refine(watchwordref9_GetAck.calls j1 (a0.extract 12 a0.size) t8 t9 _ A8.out).mono ?_);rintro e w67 ⟨v423,rfl,ho0,hb⟩;refine⟨_,rfl,?_⟩;have O2:=Aside0.mk (Kd.R_lower ho0 (below_size mD));replace B0:=Aside0.mk (blk_below mB hb);replace B1:=Aside0.mk (blk_below mL hb);replace HB:=Aside0.mk (below_step mD hb);(try clear hb);(try clear ho0);obtain⟨sc,sd,se⟩:=Kd.R_slice O2.out;subst se;obtain⟨z1o,z1p,z1q,z1r,z1s⟩:=bc5 B1.out;have z1t:=blk_frozen B1.out)|((with_reducible refine gate_store (t:=24) (p:=43) rfl ?_);refine stV (t:=24) (p:=43) (w1:=(w67.setCell ⟨g1,4,none⟩ (.slice sc t8.length sd))) (h:=?_);intro w70 hw;replace O2:Aside0 (Kd.R k47 47 w70 w.heap.size (λ_=>True) (.slice sc t8.length sd) t8):=⟨mCA⟩;replace B0:Aside0 (w70.heap[g0]? =some (.cells #[.int .i64 0,.int .i64 0,.slice none 0 0,.slice none 0 0,.slice none 0 0] 26 (0,0))):=⟨mU⟩;replace B1:Aside0 (w70.heap[g1]? =some (.cells #[.int .i64 t0,.int .i64 t1,.slice none 0 0,.slice none 0 0,.slice sc t8.length sd] 26 (0,0))):=⟨mAN⟩;replace HB:Aside0 (Below w.heap.size w w70):=⟨mAR⟩;clear hw;obtain⟨z1u,z1v,z1w,z1x,z1y⟩:=bc5 B1.out;have z1z:=blk_frozen B1.out;obtain⟨z20,z21,z22,z23,z24⟩:=bc5 B0.out;have z25:=blk_frozen B0.out)|((with_reducible refine gate_store (t:=26) (p:=2) rfl ?_);refine stV (t:=26) (p:=2) (w1:=(((((w70.setCell ⟨g0,0,none⟩ (.int .i64 t0)).setCell ⟨g0,1,none⟩ (.int .i64 t1)).setCell ⟨g0,2,none⟩ (.slice none 0 0)).setCell ⟨g0,3,none⟩ (.slice none 0 0)).setCell ⟨g0,4,none⟩ (.slice sc t8.length sd))) (h:=?_);intro w73 hw;replace O2:Aside0 (Kd.R k47 47 w73 w.heap.size (λ_=>True) (.slice sc t8.length sd) t8):=⟨mBD⟩;replace B0:Aside0 (w73.heap[g0]? =some (.cells #[.int .i64 t0,.int .i64 t1,.slice none 0 0,.slice none 0 0,.slice sc t8.length sd] 26 (0,0))):=⟨mAL⟩;replace B1:Aside0 (w73.heap[g1]? =some (.cells #[.int .i64 t0,.int .i64 t1,.slice none 0 0,.slice none 0 0,.slice sc t8.length sd] 26 (0,0))):=⟨mH⟩;replace HB:Aside0 (Below w.heap.size w w73):=⟨mAR⟩;clear hw))
        refine bodyPost_ret (results_ct rfl _ _ g0 26 #[.int .i64 t0,.int .i64 t1,.slice none 0 0,.slice none 0 0,.slice sc t8.length sd] (0,0) _ rfl mB Try.underlying26 rfl mAD) rfl ?_;exact⟨_,_,_,by first|rfl|(simp[errW_none,errW_some] <;> rfl)|(simp[*,errW_none,errW_some] <;> rfl),by first|exact Kd.R_nil _ _ _ _ _|exact Kd.N_nil _ _ _ _ _|exact Kd.V_nil _ _ _ _ _|exact Kd.Q_nil _ _ _ _ _|exact Kd.S_nil _ _ _ _ _,by first|exact Kd.S_nil _ _ _ _ _|exact Kd.N_nil _ _ _ _ _|exact Kd.V_nil _ _ _ _ _|exact Kd.Q_nil _ _ _ _ _|exact Kd.R_nil _ _ _ _ _,by(with_reducible repeat (first|apply Kd.R_alloc|apply Kd.R_drewN|apply Kd.R_drew));exact O2.out,by repeat (first|(with_reducible first|exact HB.out|apply below_alloc|apply pw_below_drewN|apply below_drew1|refine below_set ?_ G1.out|refine below_set ?_ G3.out)|exact HB.out)⟩
       ·rw[if_neg c62]at H
        have c0j:=beq_eq_false_iff_ne.mpr c62;have c0l:=bne_iff_ne.mpr c62;simp only[Option.some.injEq,Prod.mk.injEq]at H;obtain⟨rfl,rfl,rfl,rfl,rfl,rfl⟩:=H
        go_wp2_with (first|((with_reducible refine gate_dst (N:=8) rfl ?_);(try (refine gate_guard mBV ?_;dsimp only));refine bxV (N:=8) (cs:=#[.int .i64 0,.int .i64 0,.slice none 0 0,.slice none 0 0,.slice none 0 0]) (t:=26) (h:=?_);intro g1 hg w74 hbox hb;have B1:=Aside0.mk (hbox);have G2:=Aside0.mk ((mT:w.heap.size<=g1));have G3:=Aside0.mk ((mT:w.heap.size<=g1));replace HB:=Aside0.mk (below_step mC hb);have N0:=Aside0.mk ((mAB:g0≠g1));have N1:=Aside0.mk ((mAC:g1≠g0));replace B0:=Aside0.mk (blk_below mB hb);clear hb hbox hg;have na:=N1.out;have nb:=N0.out;obtain⟨z26,z27,z28,z29,z2a⟩:=bc5 B1.out;have z2b:=blk_frozen B1.out)|((with_reducible refine gate_store (t:=26) (p:=8) rfl ?_);refine stV (t:=26) (p:=8) (w1:=(((((w74.setCell ⟨g1,0,none⟩ (.int .i64 t0)).setCell ⟨g1,1,none⟩ (.int .i64 t1)).setCell ⟨g1,2,none⟩ (.slice none 0 0)).setCell ⟨g1,3,none⟩ (.slice none 0 0)).setCell ⟨g1,4,none⟩ (.slice none 0 0))) (h:=?_);intro w77 hw;replace B0:Aside0 (w77.heap[g0]? =some (.cells #[.int .i64 0,.int .i64 0,.slice none 0 0,.slice none 0 0,.slice none 0 0] 26 (0,0))):=⟨mG⟩;replace B1:Aside0 (w77.heap[g1]? =some (.cells #[.int .i64 t0,.int .i64 t1,.slice none 0 0,.slice none 0 0,.slice none 0 0] 26 (0,0))):=⟨mF⟩;replace HB:Aside0 (Below w.heap.size w w77):=⟨mAR⟩;clear hw)|((with_reducible refine gate_callee (f:=33) rfl ?_);refine cLV (some 39) Try.func33 #[.string (a0.extract 12 a0.size)] (h:=?_);(with_reducible refine(watchwordref9_GetAck.calls j1 (a0.extract 12 a0.size) t8 t9 _ A8.out).mono ?_);rintro e w78 ⟨v423,rfl,ho0,hb⟩;refine⟨_,rfl,?_⟩;have O2:=Aside0.mk (Kd.R_lower ho0 (below_size mD));replace B0:=Aside0.mk (blk_below mB hb);replace B1:=Aside0.mk (blk_below mL hb);replace HB:=Aside0.mk (below_step mD hb);(try clear hb);(try clear ho0);obtain⟨sf,sg,sh⟩:=Kd.R_slice O2.out;subst sh;obtain⟨z2c,z2d,z2e,z2f,z2g⟩:=bc5 B1.out;have z2h:=blk_frozen B1.out)|((with_reducible refine gate_store (t:=24) (p:=43) rfl ?_);refine stV (t:=24) (p:=43) (w1:=(w78.setCell ⟨g1,4,none⟩ (.slice sf t8.length sg))) (h:=?_);intro w81 hw;replace O2:Aside0 (Kd.R k47 47 w81 w.heap.size (λ_=>True) (.slice sf t8.length sg) t8):=⟨mBZ⟩;replace B0:Aside0 (w81.heap[g0]? =some (.cells #[.int .i64 0,.int .i64 0,.slice none 0 0,.slice none 0 0,.slice none 0 0] 26 (0,0))):=⟨mU⟩;replace B1:Aside0 (w81.heap[g1]? =some (.cells #[.int .i64 t0,.int .i64 t1,.slice none 0 0,.slice none 0 0,.slice sf t8.length sg] 26 (0,0))):=⟨mAN⟩;replace HB:Aside0 (Below w.heap.size w w81):=⟨mAR⟩;clear hw;obtain⟨z2i,z2j,z2k,z2l,z2m⟩:=bc5 B0.out;have z2n:=blk_frozen B0.out)|((with_reducible refine gate_store (t:=26) (p:=2) rfl ?_);refine stV (t:=26) (p:=2) (w1:=(((((w81.setCell ⟨g0,0,none⟩ (.int .i64 0)).setCell ⟨g0,1,none⟩ (.int .i64 0)).setCell ⟨g0,2,none⟩ (.slice none 0 0)).setCell ⟨g0,3,none⟩ (.slice none 0 0)).setCell ⟨g0,4,none⟩ (.slice none 0 0))) (h:=?_);intro w83 hw;replace O2:Aside0 (Kd.R k47 47 w83 w.heap.size (λ_=>True) (.slice sf t8.length sg) t8):=⟨mBG⟩;replace B0:Aside0 (w83.heap[g0]? =some (.cells #[.int .i64 0,.int .i64 0,.slice none 0 0,.slice none 0 0,.slice none 0 0] 26 (0,0))):=⟨mI⟩;replace B1:Aside0 (w83.heap[g1]? =some (.cells #[.int .i64 t0,.int .i64 t1,.slice none 0 0,.slice none 0 0,.slice sf t8.length sg] 26 (0,0))):=⟨mH⟩;replace HB:Aside0 (Below w.heap.size w w83):=⟨mAR⟩;clear hw))
        refine bodyPost_ret (results_ct rfl _ _ g0 26 #[.int .i64 0,.int .i64 0,.slice none 0 0,.slice none 0 0,.slice none 0 0] (0,0) _ rfl mB Try.underlying26 rfl mAD) rfl ?_;exact⟨_,_,_,by first|rfl|(simp[errW_none,errW_some] <;> rfl)|(simp[*,errW_none,errW_some] <;> rfl),by first|exact Kd.R_nil _ _ _ _ _|exact Kd.N_nil _ _ _ _ _|exact Kd.V_nil _ _ _ _ _|exact Kd.Q_nil _ _ _ _ _|exact Kd.S_nil _ _ _ _ _,by first|exact Kd.S_nil _ _ _ _ _|exact Kd.N_nil _ _ _ _ _|exact Kd.V_nil _ _ _ _ _|exact Kd.Q_nil _ _ _ _ _|exact Kd.R_nil _ _ _ _ _,by first|exact Kd.R_nil _ _ _ _ _|exact Kd.N_nil _ _ _ _ _|exact Kd.V_nil _ _ _ _ _|exact Kd.Q_nil _ _ _ _ _|exact Kd.S_nil _ _ _ _ _,by repeat (first|(with_reducible first|exact HB.out|apply below_alloc|apply pw_below_drewN|apply below_drew1|refine below_set ?_ G1.out|refine below_set ?_ G3.out)|exact HB.out)⟩
      ·rw[if_neg c60]at H
       exact absurd H mAM
def watchwordlaw0_Num.f (a0:Int):Option (Int):=some a0
set_option maxHeartbeats 8000000 in
set_option maxRecDepth 100000 in
theorem watchwordlaw0_Num.calls (a0:Int) (r:Int) (w:World) (h:watchwordlaw0_Num.f a0=some r):
  Calls Try.prog 13 #[.int .i64 a0] w λe w'=>e= .returned (.int .i64 r)/\Drawn0 w w':=by
 have H:(some a0)=some r:=h;clear h;obtain rfl:=Option.some.inj H
 go_enter Try.func13,Try.ntmps13
 go_wp2;go_ret;exact⟨by first|rfl|(simp;done)|(simp[*];done),by repeat (first|exact Drawn0.refl _|apply Drawn0.step)⟩
def watchwordlaw0_SameInts.l0:Nat->List Int->List Int->Int->Option (Bool)
 |0,_,_,_=>none
 |k+1,x0,x1,x5=>if x5<(x0.length:Int)then(if 0<=x5 then(if x5<(x1.length:Int)then(if(rd x0 x5)=(rd x1 x5)then(watchwordlaw0_SameInts.l0 k x0 x1 (wrap64 (x5+1)))else(some false))else(none))else(none))else(some true)
def watchwordlaw0_SameInts.f (k:Nat) (l0:List Int) (l1:List Int):Option (Bool):=if(l0.length:Int)=(l1.length:Int)then(watchwordlaw0_SameInts.l0 k l0 l1 0)else(some false)
theorem watchwordlaw0_SameInts.mono_l:∀k,(∀y0 y1 y2,LeO (watchwordlaw0_SameInts.l0 k y0 y1 y2) (watchwordlaw0_SameInts.l0 (k+1) y0 y1 y2))
 |0=>λ_ _ _ r h=>by simp[watchwordlaw0_SameInts.l0]at h
 |k+1=>by
  have ih0:=watchwordlaw0_SameInts.mono_l k
  ·intro y0 y1 y2
   unfold watchwordlaw0_SameInts.l0
   repeat' (with_reducible first|exact ih0 _ _ _|exact LeO.refl _|exact LeO.none _|refine LeO.ite ?_ ?_ |refine LeO.bind ?_ (λ_=>?_))
theorem watchwordlaw0_SameInts.mono:∀a0 a1 k,LeO (watchwordlaw0_SameInts.f k a0 a1) (watchwordlaw0_SameInts.f (k+1) a0 a1):=by
 intro a0 a1 k;have ih0:=watchwordlaw0_SameInts.mono_l k;unfold watchwordlaw0_SameInts.f
 repeat' (with_reducible first|exact ih0 _ _ _|exact LeO.refl _|exact LeO.none _|refine LeO.ite ?_ ?_ |refine LeO.bind ?_ (λ_=>?_))
set_option maxHeartbeats 8000000 in
set_option maxRecDepth 100000 in
theorem watchwordlaw0_SameInts.calls (k:Nat) (A0:Option Addr) (c0:Nat) (l0:List Int) (A1:Option Addr) (c1:Nat) (l1:List Int) (r:Bool) (w:World) (hr0:Kd.C (Kd.int .i64) w A0 l0.length l0) (hc0:l0.length<=c0) (hr1:Kd.C (Kd.int .i64) w A1 l1.length l1) (hc1:l1.length<=c1) (h:watchwordlaw0_SameInts.f k l0 l1=some r):
  Calls Try.prog 34 #[.slice A0 l0.length c0,.slice A1 l1.length c1] w λe w'=>e= .returned (.bool r)/\Drawn0 w w':=by
 have R0:=Aside0.mk hr0;have K0:=Aside0.mk hc0;clear hr0 hc0;have R1:=Aside0.mk hr1;have K1:=Aside0.mk hc1;clear hr1 hc1;have H:(if(l0.length:Int)=(l1.length:Int)then(watchwordlaw0_SameInts.l0 k l0 l1 0)else(some false))=some r:=h;clear h
 by_cases c3:(l0.length:Int)=(l1.length:Int)
 ·rw[if_pos c3]at H
  have c8:=beq_iff_eq.mpr c3;have ca:=bne_eq_false_iff_eq.mpr c3
  have cc:(l0.length==l1.length)=true:=by first|simpa using c3|(simp at c3 |-;omega)
  clear c3;have H':=Aside0.mk H;clear H
  go_enter Try.func34,Try.ntmps34
  go_wp2
  repeat (go_quiet (fail);try go_wp2)
  go_loopg [5] k (λkq v5 w'=>∃(x2:Int),v5= .int .i64 x2/\Aside0 (watchwordlaw0_SameInts.l0 kq l0 l1 x2=some r)/\Aside0 (kq<=k)/\Drawn0 w w')
  case atStart=>exact⟨(0),mK,H',⟨Nat.le_refl _⟩,by repeat (first|exact Drawn0.refl _|apply Drawn0.step)⟩
  case round=>
   clear H';(try clear c1);(try clear p2);(try clear c3);(try clear c8);(try clear ca);(try clear cc);obtain⟨x2,rfl,HA,HK1,⟨m1,rfl⟩⟩:=hrel;cases gk with
   |zero=>exact absurd HA.out (by simp[watchwordlaw0_SameInts.l0])
   |succ k1=>
    have H:=HA.out;clear HA;simp only[watchwordlaw0_SameInts.l0]at H
    by_cases c4:x2<(l0.length:Int)
    ·rw[if_pos c4]at H
     have cj:=decide_eq_true c4;clear c4
     by_cases c5:0<=x2
     ·rw[if_pos c5]at H
      have co:=decide_eq_true c5;clear c5
      by_cases c6:x2<(l1.length:Int)
      ·rw[if_pos c6]at H
       have ct:=decide_eq_true c6;clear c6
       by_cases c7:(rd l0 x2)=(rd l1 x2)
       ·rw[if_pos c7]at H
        have cy:=beq_iff_eq.mpr c7;have c00:=bne_eq_false_iff_eq.mpr c7;clear c7;have H':=Aside0.mk H;clear H;have p0:0<=(x2:Int):=of_decide_eq_true mE;have q0:x2<(l0.length:Int):=of_decide_eq_true mE;obtain⟨d0,e0,h0⟩:=Kd.at_int R0.out x2 p0 q0;cases e0;replace p0:=eq_true p0;replace q0:=eq_true q0;have p1:0<=(x2:Int):=of_decide_eq_true mE;have q1:x2<(l1.length:Int):=of_decide_eq_true mE;obtain⟨d1,e1,h1⟩:=Kd.at_int R1.out x2 p1 q1;cases e1;replace p1:=eq_true p1;replace q1:=eq_true q1;go_wp2
        repeat (go_quiet (fail);try go_wp2)
        go_roundg k1
        case measure=>have:=HK1.out;omega
        case rel=>exact⟨(wrap64 (x2+1)),mK,H',⟨by have:=HK1.out;omega⟩,by repeat (first|exact Drawn0.refl _|apply Drawn0.step)⟩
       ·rw[if_neg c7]at H
        have cy:=beq_eq_false_iff_ne.mpr c7;have c00:=bne_iff_ne.mpr c7;obtain rfl:=Option.some.inj H;have p0:0<=(x2:Int):=of_decide_eq_true mE;have q0:x2<(l0.length:Int):=of_decide_eq_true mE;obtain⟨d0,e0,h0⟩:=Kd.at_int R0.out x2 p0 q0;cases e0;replace p0:=eq_true p0;replace q0:=eq_true q0;have p1:0<=(x2:Int):=of_decide_eq_true mE;have q1:x2<(l1.length:Int):=of_decide_eq_true mE;obtain⟨d1,e1,h1⟩:=Kd.at_int R1.out x2 p1 q1;cases e1;replace p1:=eq_true p1;replace q1:=eq_true q1;go_wp2
        repeat (go_quiet (fail);try go_wp2)
        go_ret;exact⟨by first|rfl|(simp;done)|(simp[*];done),by repeat (first|exact Drawn0.refl _|apply Drawn0.step)⟩
      ·rw[if_neg c6]at H
       exact absurd H mAM
     ·rw[if_neg c5]at H
      exact absurd H mAM
    ·rw[if_neg c4]at H
     have cj:=decide_eq_false c4;clear c4;obtain rfl:=Option.some.inj H;go_wp2
     repeat (go_quiet (fail);try go_wp2)
     go_ret;exact⟨by first|rfl|(simp;done)|(simp[*];done),by repeat (first|exact Drawn0.refl _|apply Drawn0.step)⟩
 ·rw[if_neg c3]at H
  have c8:=beq_eq_false_iff_ne.mpr c3;have ca:=bne_iff_ne.mpr c3
  have cc:(l0.length==l1.length)=false:=by first|simpa using c3|(simp at c3 |-;omega)
  obtain rfl:=Option.some.inj H
  go_enter Try.func34,Try.ntmps34
  go_wp2
  repeat (go_quiet (fail);try go_wp2)
  go_ret;exact⟨by first|rfl|(simp;done)|(simp[*];done),by repeat (first|exact Drawn0.refl _|apply Drawn0.step)⟩
def watchwordlaw0_SameLinks.l0:Nat->List (S109)->List (S109)->Int->Option (Bool)
 |0,_,_,_=>none
 |k+1,x0,x1,x5=>if x5<(x0.length:Int)then(if 0<=x5 then(if x5<(x1.length:Int)then(if(!(((rd_T109 x0 x5).f0)==((rd_T109 x1 x5).f0))||(!(((rd_T109 x0 x5).f1)==((rd_T109 x1 x5).f1))))=true then(some false)else(watchwordlaw0_SameLinks.l0 k x0 x1 (wrap64 (x5+1))))else(none))else(none))else(some true)
def watchwordlaw0_SameLinks.f (k:Nat) (l0:List (S109)) (l1:List (S109)):Option (Bool):=if(l0.length:Int)=(l1.length:Int)then(watchwordlaw0_SameLinks.l0 k l0 l1 0)else(some false)
theorem watchwordlaw0_SameLinks.mono_l:∀k,(∀y0 y1 y2,LeO (watchwordlaw0_SameLinks.l0 k y0 y1 y2) (watchwordlaw0_SameLinks.l0 (k+1) y0 y1 y2))
 |0=>λ_ _ _ r h=>by simp[watchwordlaw0_SameLinks.l0]at h
 |k+1=>by
  have ih0:=watchwordlaw0_SameLinks.mono_l k
  ·intro y0 y1 y2
   unfold watchwordlaw0_SameLinks.l0
   repeat' (with_reducible first|exact ih0 _ _ _|exact LeO.refl _|exact LeO.none _|refine LeO.ite ?_ ?_ |refine LeO.bind ?_ (λ_=>?_))
theorem watchwordlaw0_SameLinks.mono:∀a0 a1 k,LeO (watchwordlaw0_SameLinks.f k a0 a1) (watchwordlaw0_SameLinks.f (k+1) a0 a1):=by
 intro a0 a1 k;have ih0:=watchwordlaw0_SameLinks.mono_l k;unfold watchwordlaw0_SameLinks.f
 repeat' (with_reducible first|exact ih0 _ _ _|exact LeO.refl _|exact LeO.none _|refine LeO.ite ?_ ?_ |refine LeO.bind ?_ (λ_=>?_))
set_option maxHeartbeats 8000000 in
set_option maxRecDepth 100000 in
theorem watchwordlaw0_SameLinks.calls (k:Nat) (A0:Option Addr) (c0:Nat) (l0:List (S109)) (A1:Option Addr) (c1:Nat) (l1:List (S109)) (r:Bool) (w:World) (hr0:Kd.C k109 w A0 l0.length l0) (hc0:l0.length<=c0) (hr1:Kd.C k109 w A1 l1.length l1) (hc1:l1.length<=c1) (h:watchwordlaw0_SameLinks.f k l0 l1=some r):
  Calls Try.prog 73 #[.slice A0 l0.length c0,.slice A1 l1.length c1] w λe w'=>e= .returned (.bool r)/\Drawn0 w w':=by
 have hu109:=Try.underlying109;have R0:=Aside0.mk hr0;have K0:=Aside0.mk hc0;clear hr0 hc0;have R1:=Aside0.mk hr1;have K1:=Aside0.mk hc1;clear hr1 hc1;have H:(if(l0.length:Int)=(l1.length:Int)then(watchwordlaw0_SameLinks.l0 k l0 l1 0)else(some false))=some r:=h;clear h
 by_cases c3:(l0.length:Int)=(l1.length:Int)
 ·rw[if_pos c3]at H
  have c8:=beq_iff_eq.mpr c3;have ca:=bne_eq_false_iff_eq.mpr c3
  have cc:(l0.length==l1.length)=true:=by first|simpa using c3|(simp at c3 |-;omega)
  clear c3;have H':=Aside0.mk H;clear H
  go_enter Try.func73,Try.ntmps73
  go_wp2
  repeat (go_quiet (fail);try go_wp2)
  go_loopg [5] k (λkq v5 w'=>∃(x2:Int),v5= .int .i64 x2/\Aside0 (watchwordlaw0_SameLinks.l0 kq l0 l1 x2=some r)/\Aside0 (kq<=k)/\Drawn0 w w')
  case atStart=>exact⟨(0),mK,H',⟨Nat.le_refl _⟩,by repeat (first|exact Drawn0.refl _|apply Drawn0.step)⟩
  case round=>
   clear H';(try clear c1);(try clear p2);(try clear c3);(try clear c8);(try clear ca);(try clear cc);obtain⟨x2,rfl,HA,HK1,⟨m1,rfl⟩⟩:=hrel;cases gk with
   |zero=>exact absurd HA.out (by simp[watchwordlaw0_SameLinks.l0])
   |succ k1=>
    have H:=HA.out;clear HA;simp only[watchwordlaw0_SameLinks.l0]at H
    by_cases c4:x2<(l0.length:Int)
    ·rw[if_pos c4]at H
     have cj:=decide_eq_true c4;clear c4
     by_cases c5:0<=x2
     ·rw[if_pos c5]at H
      have co:=decide_eq_true c5;clear c5
      by_cases c6:x2<(l1.length:Int)
      ·rw[if_pos c6]at H
       have ct:=decide_eq_true c6;clear c6
       by_cases c7:(!(((rd_T109 l0 x2).f0)==((rd_T109 l1 x2).f0))||(!(((rd_T109 l0 x2).f1)==((rd_T109 l1 x2).f1))))=true
       ·rw[if_pos c7]at H
        have cy:(!(((rd_T109 l0 x2).f0)==((rd_T109 l1 x2).f0))||(!(((rd_T109 l0 x2).f1)==((rd_T109 l1 x2).f1))))=true:=c7;clear c7;obtain rfl:=Option.some.inj H;have p0:0<=(x2:Int):=of_decide_eq_true mE;have q0:x2<(l0.length:Int):=of_decide_eq_true mE;obtain⟨d0,e0,h0,h1⟩:=at_T109 R0.out x2 p0 q0;cases e0;replace p0:=eq_true p0;replace q0:=eq_true q0;have p1:0<=(x2:Int):=of_decide_eq_true mE;have q1:x2<(l1.length:Int):=of_decide_eq_true mE;obtain⟨d1,e1,h2,h3⟩:=at_T109 R1.out x2 p1 q1;cases e1;replace p1:=eq_true p1;replace q1:=eq_true q1;go_wp2
        repeat (go_quiet (fail);try go_wp2)
        go_ret;exact⟨by first|rfl|(simp;done)|(simp[*];done),by repeat (first|exact Drawn0.refl _|apply Drawn0.step)⟩
       ·rw[if_neg c7]at H
        have cy:(!(((rd_T109 l0 x2).f0)==((rd_T109 l1 x2).f0))||(!(((rd_T109 l0 x2).f1)==((rd_T109 l1 x2).f1))))=false:=by simpa using c7
        clear c7;have H':=Aside0.mk H;clear H;have p0:0<=(x2:Int):=of_decide_eq_true mE;have q0:x2<(l0.length:Int):=of_decide_eq_true mE;obtain⟨d0,e0,h0,h1⟩:=at_T109 R0.out x2 p0 q0;cases e0;replace p0:=eq_true p0;replace q0:=eq_true q0;have p1:0<=(x2:Int):=of_decide_eq_true mE;have q1:x2<(l1.length:Int):=of_decide_eq_true mE;obtain⟨d1,e1,h2,h3⟩:=at_T109 R1.out x2 p1 q1;cases e1;replace p1:=eq_true p1;replace q1:=eq_true q1;go_wp2
        repeat (go_quiet (fail);try go_wp2)
        go_roundg k1
        case measure=>have:=HK1.out;omega
        case rel=>exact⟨(wrap64 (x2+1)),mK,H',⟨by have:=HK1.out;omega⟩,by repeat (first|exact Drawn0.refl _|apply Drawn0.step)⟩
      ·rw[if_neg c6]at H
       exact absurd H mAM
     ·rw[if_neg c5]at H
      exact absurd H mAM
    ·rw[if_neg c4]at H
     have cj:=decide_eq_false c4;clear c4;obtain rfl:=Option.some.inj H;go_wp2
     repeat (go_quiet (fail);try go_wp2)
     go_ret;exact⟨by first|rfl|(simp;done)|(simp[*];done),by repeat (first|exact Drawn0.refl _|apply Drawn0.step)⟩
 ·rw[if_neg c3]at H
  have c8:=beq_eq_false_iff_ne.mpr c3;have ca:=bne_iff_ne.mpr c3
  have cc:(l0.length==l1.length)=false:=by first|simpa using c3|(simp at c3 |-;omega)
  obtain rfl:=Option.some.inj H
  go_enter Try.func73,Try.ntmps73
  go_wp2
  repeat (go_quiet (fail);try go_wp2)
  go_ret;exact⟨by first|rfl|(simp;done)|(simp[*];done),by repeat (first|exact Drawn0.refl _|apply Drawn0.step)⟩
def watchwordlaw0_SameLsa.f (k:Nat) (a0_0:Int) (a0_1:Int) (a0_2:Int) (l0_3:List (S109)) (a1_0:Int) (a1_1:Int) (a1_2:Int) (l1_3:List (S109)):Option (Bool):=if a0_0=a1_0 then(if a0_1=a1_1 then(if a0_2=a1_2 then((watchwordlaw0_SameLinks.f k l0_3 l1_3).bind λt431=>(some t431))else(some false))else(some false))else(some false)
theorem watchwordlaw0_SameLsa.mono:∀a0 a1 a2 a3 a4 a5 a6 a7 k,LeO (watchwordlaw0_SameLsa.f k a0 a1 a2 a3 a4 a5 a6 a7) (watchwordlaw0_SameLsa.f (k+1) a0 a1 a2 a3 a4 a5 a6 a7):=by
 intro a0 a1 a2 a3 a4 a5 a6 a7 k;unfold watchwordlaw0_SameLsa.f
 repeat' (with_reducible first|exact watchwordlaw0_SameLinks.mono _ _ _|exact LeO.refl _|exact LeO.none _|refine LeO.ite ?_ ?_ |refine LeO.bind ?_ (λ_=>?_))
set_option maxHeartbeats 8000000 in
set_option maxRecDepth 100000 in
theorem watchwordlaw0_SameLsa.calls (k:Nat) (a0_0:Int) (a0_1:Int) (a0_2:Int) (A0_3:Option Addr) (c0_3:Nat) (l0_3:List (S109)) (a1_0:Int) (a1_1:Int) (a1_2:Int) (A1_3:Option Addr) (c1_3:Nat) (l1_3:List (S109)) (r:Bool) (w:World) (hr0_3:Kd.C k109 w A0_3 l0_3.length l0_3) (hc0_3:l0_3.length<=c0_3) (hr1_3:Kd.C k109 w A1_3 l1_3.length l1_3) (hc1_3:l1_3.length<=c1_3) (h:watchwordlaw0_SameLsa.f k a0_0 a0_1 a0_2 l0_3 a1_0 a1_1 a1_2 l1_3=some r):
  Calls Try.prog 62 #[.agg #[.int .i64 a0_0,.int .i64 a0_1,.int .i64 a0_2,.slice A0_3 l0_3.length c0_3],.agg #[.int .i64 a1_0,.int .i64 a1_1,.int .i64 a1_2,.slice A1_3 l1_3.length c1_3]] w λe w'=>e= .returned (.bool r)/\Below w.heap.size w w':=by
 have hu45:=Try.underlying45;have R0:=Aside0.mk hr0_3;have K0:=Aside0.mk hc0_3;clear hr0_3 hc0_3;have R1:=Aside0.mk hr1_3;have K1:=Aside0.mk hc1_3;clear hr1_3 hc1_3;have HB:=Aside0.mk (Below.refl w.heap.size w);have H:(if a0_0=a1_0 then(if a0_1=a1_1 then(if a0_2=a1_2 then((watchwordlaw0_SameLinks.f k l0_3 l1_3).bind λt0=>(some t0))else(some false))else(some false))else(some false))=some r:=h;clear h
 by_cases c3:a0_0=a1_0
 ·rw[if_pos c3]at H
  have c2:=beq_iff_eq.mpr c3;have c6:=bne_eq_false_iff_eq.mpr c3;clear c3
  by_cases c4:a0_1=a1_1
  ·rw[if_pos c4]at H
   have cb:=beq_iff_eq.mpr c4;have cd:=bne_eq_false_iff_eq.mpr c4;clear c4
   by_cases c5:a0_2=a1_2
   ·rw[if_pos c5]at H
    have ci:=beq_iff_eq.mpr c5;have ck:=bne_eq_false_iff_eq.mpr c5;clear c5;obtain⟨t0,A0,H⟩:=bsE H;(try dsimp only at H);have A6:=Aside0.mk A0;clear A0;obtain rfl:=Option.some.inj H
    go_enter Try.func62,Try.ntmps62
    go_wp2_with (first|((with_reducible refine gate_dst (N:=2) rfl ?_);refine bxV (N:=2) (cs:=#[.int .i64 a0_0,.int .i64 a0_1,.int .i64 a0_2,.slice A0_3 l0_3.length c0_3]) (t:=45) (h:=?_);intro g0 hg w7 hbox hb;have B0:=Aside0.mk (hbox);have G0:=Aside0.mk ((mJ:w.heap.size<=g0));have G1:=Aside0.mk ((mJ:w.heap.size<=g0));replace HB:=Aside0.mk (below_step mA hb);clear hb hbox hg)|((with_reducible refine gate_dst (N:=3) rfl ?_);refine bxV (N:=3) (cs:=#[.int .i64 a1_0,.int .i64 a1_1,.int .i64 a1_2,.slice A1_3 l1_3.length c1_3]) (t:=45) (h:=?_);intro g1 hg w8 hbox hb;have B1:=Aside0.mk (hbox);have G2:=Aside0.mk ((mT:w.heap.size<=g1));have G3:=Aside0.mk ((mT:w.heap.size<=g1));replace HB:=Aside0.mk (below_step mC hb);have N0:=Aside0.mk ((mAY:g0≠g1));have N1:=Aside0.mk ((mAZ:g1≠g0));replace B0:=Aside0.mk (blk_below mB hb);clear hb hbox hg;have n0:=N0.out;have n1:=N1.out;obtain⟨z0,z1,z2,z3⟩:=bc4 B0.out;have z4:=blk_frozen B0.out;obtain⟨z5,z6,z7,z8⟩:=bc4 B1.out;have z9:=blk_frozen B1.out)|(go_at_call 73;(with_reducible refine(watchwordlaw0_SameLinks.calls k _ _ l0_3 _ _ l1_3 t0 _ ?side1 ?side2 ?side3 ?side4 A6.out).mono ?_);(case side1=>repeat (first|exact(Kd.C_below R0.out HB.out)|(with_reducible refine Kd.C_alloc ?_ _)|(with_reducible refine Kd.C_drewN ?_ _)|(with_reducible refine Kd.C_drew ?_)));(case side2=>exact K0.out);(case side3=>repeat (first|exact(Kd.C_below R1.out HB.out)|(with_reducible refine Kd.C_alloc ?_ _)|(with_reducible refine Kd.C_drewN ?_ _)|(with_reducible refine Kd.C_drew ?_)));(case side4=>exact K1.out);rintro e w' ⟨rfl,⟨nd,rfl⟩⟩))
    go_ret;exact⟨by first|rfl|(simp[errW_none,errW_some] <;> rfl)|(simp[*,errW_none,errW_some] <;> rfl),by repeat (first|(with_reducible first|exact HB.out|apply below_alloc|apply pw_below_drewN|apply below_drew1|refine below_set ?_ G1.out|refine below_set ?_ G3.out)|exact HB.out)⟩
   ·rw[if_neg c5]at H
    have ci:=beq_eq_false_iff_ne.mpr c5;have ck:=bne_iff_ne.mpr c5;obtain rfl:=Option.some.inj H
    go_enter Try.func62,Try.ntmps62
    go_wp2_with (first|((with_reducible refine gate_dst (N:=2) rfl ?_);refine bxV (N:=2) (cs:=#[.int .i64 a0_0,.int .i64 a0_1,.int .i64 a0_2,.slice A0_3 l0_3.length c0_3]) (t:=45) (h:=?_);intro g0 hg w2 hbox hb;have B0:=Aside0.mk (hbox);have G0:=Aside0.mk ((mJ:w.heap.size<=g0));have G1:=Aside0.mk ((mJ:w.heap.size<=g0));replace HB:=Aside0.mk (below_step mA hb);clear hb hbox hg)|((with_reducible refine gate_dst (N:=3) rfl ?_);refine bxV (N:=3) (cs:=#[.int .i64 a1_0,.int .i64 a1_1,.int .i64 a1_2,.slice A1_3 l1_3.length c1_3]) (t:=45) (h:=?_);intro g1 hg w3 hbox hb;have B1:=Aside0.mk (hbox);have G2:=Aside0.mk ((mT:w.heap.size<=g1));have G3:=Aside0.mk ((mT:w.heap.size<=g1));replace HB:=Aside0.mk (below_step mC hb);have N0:=Aside0.mk ((mAY:g0≠g1));have N1:=Aside0.mk ((mAZ:g1≠g0));replace B0:=Aside0.mk (blk_below mB hb);clear hb hbox hg;have n2:=N0.out;have n3:=N1.out;obtain⟨za,zb,zc,zd⟩:=bc4 B0.out;have ze:=blk_frozen B0.out;obtain⟨zf,zg,zh,zi⟩:=bc4 B1.out;have zj:=blk_frozen B1.out))
    go_ret;exact⟨by first|rfl|(simp[errW_none,errW_some] <;> rfl)|(simp[*,errW_none,errW_some] <;> rfl),by repeat (first|(with_reducible first|exact HB.out|apply below_alloc|apply pw_below_drewN|apply below_drew1|refine below_set ?_ G1.out|refine below_set ?_ G3.out)|exact HB.out)⟩
  ·rw[if_neg c4]at H
   have cb:=beq_eq_false_iff_ne.mpr c4;have cd:=bne_iff_ne.mpr c4;obtain rfl:=Option.some.inj H
   go_enter Try.func62,Try.ntmps62
   go_wp2_with (first|((with_reducible refine gate_dst (N:=2) rfl ?_);refine bxV (N:=2) (cs:=#[.int .i64 a0_0,.int .i64 a0_1,.int .i64 a0_2,.slice A0_3 l0_3.length c0_3]) (t:=45) (h:=?_);intro g0 hg w4 hbox hb;have B0:=Aside0.mk (hbox);have G0:=Aside0.mk ((mJ:w.heap.size<=g0));have G1:=Aside0.mk ((mJ:w.heap.size<=g0));replace HB:=Aside0.mk (below_step mA hb);clear hb hbox hg)|((with_reducible refine gate_dst (N:=3) rfl ?_);refine bxV (N:=3) (cs:=#[.int .i64 a1_0,.int .i64 a1_1,.int .i64 a1_2,.slice A1_3 l1_3.length c1_3]) (t:=45) (h:=?_);intro g1 hg w5 hbox hb;have B1:=Aside0.mk (hbox);have G2:=Aside0.mk ((mT:w.heap.size<=g1));have G3:=Aside0.mk ((mT:w.heap.size<=g1));replace HB:=Aside0.mk (below_step mC hb);have N0:=Aside0.mk ((mAY:g0≠g1));have N1:=Aside0.mk ((mAZ:g1≠g0));replace B0:=Aside0.mk (blk_below mB hb);clear hb hbox hg;have n4:=N0.out;have n5:=N1.out;obtain⟨zk,zl,zm,zn⟩:=bc4 B0.out;have zo:=blk_frozen B0.out;obtain⟨zp,zq,zr,zs⟩:=bc4 B1.out;have zt:=blk_frozen B1.out))
   go_ret;exact⟨by first|rfl|(simp[errW_none,errW_some] <;> rfl)|(simp[*,errW_none,errW_some] <;> rfl),by repeat (first|(with_reducible first|exact HB.out|apply below_alloc|apply pw_below_drewN|apply below_drew1|refine below_set ?_ G1.out|refine below_set ?_ G3.out)|exact HB.out)⟩
 ·rw[if_neg c3]at H
  have c2:=beq_eq_false_iff_ne.mpr c3;have c6:=bne_iff_ne.mpr c3;obtain rfl:=Option.some.inj H
  go_enter Try.func62,Try.ntmps62
  go_wp2_with (first|((with_reducible refine gate_dst (N:=2) rfl ?_);refine bxV (N:=2) (cs:=#[.int .i64 a0_0,.int .i64 a0_1,.int .i64 a0_2,.slice A0_3 l0_3.length c0_3]) (t:=45) (h:=?_);intro g0 hg w6 hbox hb;have B0:=Aside0.mk (hbox);have G0:=Aside0.mk ((mJ:w.heap.size<=g0));have G1:=Aside0.mk ((mJ:w.heap.size<=g0));replace HB:=Aside0.mk (below_step mA hb);clear hb hbox hg)|((with_reducible refine gate_dst (N:=3) rfl ?_);refine bxV (N:=3) (cs:=#[.int .i64 a1_0,.int .i64 a1_1,.int .i64 a1_2,.slice A1_3 l1_3.length c1_3]) (t:=45) (h:=?_);intro g1 hg w9 hbox hb;have B1:=Aside0.mk (hbox);have G2:=Aside0.mk ((mT:w.heap.size<=g1));have G3:=Aside0.mk ((mT:w.heap.size<=g1));replace HB:=Aside0.mk (below_step mC hb);have N0:=Aside0.mk ((mAY:g0≠g1));have N1:=Aside0.mk ((mAZ:g1≠g0));replace B0:=Aside0.mk (blk_below mB hb);clear hb hbox hg;have n6:=N0.out;have n7:=N1.out;obtain⟨zu,zv,zw,zx⟩:=bc4 B0.out;have zy:=blk_frozen B0.out;obtain⟨zz,z00,z01,z02⟩:=bc4 B1.out;have z03:=blk_frozen B1.out))
  go_ret;exact⟨by first|rfl|(simp[errW_none,errW_some] <;> rfl)|(simp[*,errW_none,errW_some] <;> rfl),by repeat (first|(with_reducible first|exact HB.out|apply below_alloc|apply pw_below_drewN|apply below_drew1|refine below_set ?_ G1.out|refine below_set ?_ G3.out)|exact HB.out)⟩
end Go.Proofs.Ytbajimbccbckkaa.Q12k
namespace Go.Proofs.Ytbajimbccbckkaa.Q12k
open Go.RowKit Go.Proofs.Ytbajimbccbckkaa.Stp Go.Proofs.YtbajimbccbckkaaW.PrintWords Go.Proofs.YtbajimbccbckkaaW.PrintLast Go.Proofs.YtbajimbccbckkaaW.PrintMore
attribute [local go_sem] max2_int min2_int max_two min_two max_three min_three max_four min_four
set_option linter.unusedVariables false
set_option linter.unusedSimpArgs false
attribute [local go_sem high] eqA47
def watchwordlaw0_SameLsas.l0:Nat->List (S45)->List (S45)->Int->Option (Bool)
 |0,_,_,_=>none
 |k+1,x0,x1,x5=>if x5<(x0.length:Int)then(if 0<=x5 then(if x5<(x1.length:Int)then((watchwordlaw0_SameLsa.f k ((rd_T45 x0 x5).f0) ((rd_T45 x0 x5).f1) ((rd_T45 x0 x5).f2) ((rd_T45 x0 x5).f3) ((rd_T45 x1 x5).f0) ((rd_T45 x1 x5).f1) ((rd_T45 x1 x5).f2) ((rd_T45 x1 x5).f3)).bind λt434=>(if t434=true then(watchwordlaw0_SameLsas.l0 k x0 x1 (wrap64 (x5+1)))else(some false)))else(none))else(none))else(some true)
def watchwordlaw0_SameLsas.f (k:Nat) (l0:List (S45)) (l1:List (S45)):Option (Bool):=if(l0.length:Int)=(l1.length:Int)then(watchwordlaw0_SameLsas.l0 k l0 l1 0)else(some false)
theorem watchwordlaw0_SameLsas.mono_l:∀k,(∀y0 y1 y2,LeO (watchwordlaw0_SameLsas.l0 k y0 y1 y2) (watchwordlaw0_SameLsas.l0 (k+1) y0 y1 y2))
 |0=>λ_ _ _ r h=>by simp[watchwordlaw0_SameLsas.l0]at h
 |k+1=>by
  have ih0:=watchwordlaw0_SameLsas.mono_l k
  ·intro y0 y1 y2
   unfold watchwordlaw0_SameLsas.l0
   repeat' (with_reducible first|exact ih0 _ _ _|exact watchwordlaw0_SameLsa.mono _ _ _ _ _ _ _ _ _|exact LeO.refl _|exact LeO.none _|refine LeO.ite ?_ ?_ |refine LeO.bind ?_ (λ_=>?_))
theorem watchwordlaw0_SameLsas.mono:∀a0 a1 k,LeO (watchwordlaw0_SameLsas.f k a0 a1) (watchwordlaw0_SameLsas.f (k+1) a0 a1):=by
 intro a0 a1 k;have ih0:=watchwordlaw0_SameLsas.mono_l k;unfold watchwordlaw0_SameLsas.f
 repeat' (with_reducible first|exact ih0 _ _ _|exact watchwordlaw0_SameLsa.mono _ _ _ _ _ _ _ _ _|exact LeO.refl _|exact LeO.none _|refine LeO.ite ?_ ?_ |refine LeO.bind ?_ (λ_=>?_))
def watchwordlaw0_SameLsas.T6:Bool × List (List Nat × List Nat):=(true,[([],[]),([],[]),([0,1],[0,1]),([2],[2]),([],[]),([],[]),([4,5],[4,5]),([6],[6]),([3,7],[3,7]),([8],[8])])
def watchwordlaw0_SameLsas.B6:List Nat:=[0,0,3,7,0,0,48,112,255,511]
theorem watchwordlaw0_SameLsas.tab6:rtab .any (opsOf Try.f35 6)=watchwordlaw0_SameLsas.T6:=by kernel_rfl
theorem watchwordlaw0_SameLsas.bits6:waitsOk watchwordlaw0_SameLsas.T6.2 watchwordlaw0_SameLsas.B6=true:=by kernel_rfl
set_option maxHeartbeats 8000000 in
set_option maxRecDepth 100000 in
theorem watchwordlaw0_SameLsas.calls (k:Nat) (A0:Option Addr) (c0:Nat) (l0:List (S45)) (A1:Option Addr) (c1:Nat) (l1:List (S45)) (r:Bool) (w:World) (hr0:Kd.C k45 w A0 l0.length l0) (hc0:l0.length<=c0) (hr1:Kd.C k45 w A1 l1.length l1) (hc1:l1.length<=c1) (h:watchwordlaw0_SameLsas.f k l0 l1=some r):
  Calls Try.prog 35 #[.slice A0 l0.length c0,.slice A1 l1.length c1] w λe w'=>e= .returned (.bool r)/\Below w.heap.size w w':=by
 have hu45:=Try.underlying45;have R0:=Aside0.mk hr0;have K0:=Aside0.mk hc0;clear hr0 hc0;have R1:=Aside0.mk hr1;have K1:=Aside0.mk hc1;clear hr1 hc1;have HB:=Aside0.mk (Below.refl w.heap.size w);have H:(if(l0.length:Int)=(l1.length:Int)then(watchwordlaw0_SameLsas.l0 k l0 l1 0)else(some false))=some r:=h;clear h
 by_cases c3:(l0.length:Int)=(l1.length:Int)
 ·rw[if_pos c3]at H
  have c7:=beq_iff_eq.mpr c3;have ca:=bne_eq_false_iff_eq.mpr c3
  have cc:(l0.length==l1.length)=true:=by first|simpa using c3|(simp at c3 |-;omega)
  clear c3;have H':=Aside0.mk H;clear H
  go_enter Try.func35,Try.ntmps35
  go_wp2
  go_loopg [5] k (λkq v5 w'=>∃(x2:Int),v5= .int .i64 x2/\Aside0 (watchwordlaw0_SameLsas.l0 kq l0 l1 x2=some r)/\Aside0 (kq<=k)/\Aside0 (Below w.heap.size w w'))
  case atStart=>exact⟨(0),mK,H',⟨Nat.le_refl _⟩,⟨by repeat (first|(with_reducible first|exact HB.out|apply below_alloc|apply pw_below_drewN|apply below_drew1)|exact HB.out)⟩⟩
  case round=>
   clear H';(try clear c1);(try clear p2);(try clear c3);(try clear c7);(try clear ca);(try clear cc);obtain⟨x2,rfl,HA,HK1,HB⟩:=hrel;cases gk with
   |zero=>exact absurd HA.out (by simp[watchwordlaw0_SameLsas.l0])
   |succ k1=>
    have H:=HA.out;clear HA;simp only[watchwordlaw0_SameLsas.l0]at H
    by_cases c4:x2<(l0.length:Int)
    ·rw[if_pos c4]at H
     have cj:=decide_eq_true c4;clear c4
     by_cases c5:0<=x2
     ·rw[if_pos c5]at H
      have co:=decide_eq_true c5;clear c5
      by_cases c6:x2<(l1.length:Int)
      ·rw[if_pos c6]at H
       have ct:=decide_eq_true c6;clear c6;obtain⟨t0,A2,H⟩:=bsE H;(try dsimp only at H);have A7:=Aside0.mk A2;clear A2
       by_cases c8:t0=true
       ·subst c8
        rw[if_pos rfl]at H;have H':=Aside0.mk H;clear H;(try go_wp2);replace HB:=Aside0.mk (below_drew1 HB.out);have p0:0<=(x2:Int):=of_decide_eq_true mE;have q0:x2<(l0.length:Int):=of_decide_eq_true mE;obtain⟨d0,A4,s8,e0,h0,h1,h2,h3,i0,i1⟩:=at_T45 R0.out x2 p0 q0;have hw432_3:=h3;have hw432_2:=h2;have hw432_1:=h1;have hw432_0:=h0;cases e0;replace h0:=hB HB h0;replace h1:=hB HB h1;replace h2:=hB HB h2;replace h3:=hB HB h3;have R2:=Aside0.mk i1;have K2:=Aside0.mk i0;clear i1 i0;replace p0:=eq_true p0;replace q0:=eq_true q0;have p1:0<=(x2:Int):=of_decide_eq_true mE;have q1:x2<(l1.length:Int):=of_decide_eq_true mE;obtain⟨d1,A5,s9,e1,h4,h5,h6,h7,i2,i3⟩:=at_T45 R1.out x2 p1 q1;have hw433_3:=h7;have hw433_2:=h6;have hw433_1:=h5;have hw433_0:=h4;cases e1;replace h4:=hB HB h4;replace h5:=hB HB h5;replace h6:=hB HB h6;replace h7:=hB HB h7;have R3:=Aside0.mk i3;have K3:=Aside0.mk i2;clear i3 i2;replace p1:=eq_true p1;replace q1:=eq_true q1;refine start_ (n:=10) (S:=λw'=>w'.cell? (d0.add ((x2).toNat *4))=some (.int .i64 ((rd_T45 l0 x2).f0))/\w'.cell? ⟨(d0.add ((x2).toNat *4)).block,(d0.add ((x2).toNat *4)).off +1,none⟩=some (.int .i64 ((rd_T45 l0 x2).f1))/\w'.cell? ⟨(d0.add ((x2).toNat *4)).block,(d0.add ((x2).toNat *4)).off +2,none⟩=some (.int .i64 ((rd_T45 l0 x2).f2))/\w'.cell? ⟨(d0.add ((x2).toNat *4)).block,(d0.add ((x2).toNat *4)).off +3,none⟩=some (.slice A4 ((rd_T45 l0 x2).f3).length s8)/\w'.cell? (d1.add ((x2).toNat *4))=some (.int .i64 ((rd_T45 l1 x2).f0))/\w'.cell? ⟨(d1.add ((x2).toNat *4)).block,(d1.add ((x2).toNat *4)).off +1,none⟩=some (.int .i64 ((rd_T45 l1 x2).f1))/\w'.cell? ⟨(d1.add ((x2).toNat *4)).block,(d1.add ((x2).toNat *4)).off +2,none⟩=some (.int .i64 ((rd_T45 l1 x2).f2))/\w'.cell? ⟨(d1.add ((x2).toNat *4)).block,(d1.add ((x2).toNat *4)).off +3,none⟩=some (.slice A5 ((rd_T45 l1 x2).f3).length s9)) (ds:=[]) mk_10_0 mAD rfl rfl ⟨((HB.out.cell (World.block_lt_of_cell? w _ hw432_0)).trans hw432_0),((HB.out.cell (World.block_lt_of_cell? w _ hw432_1)).trans hw432_1),((HB.out.cell (World.block_lt_of_cell? w _ hw432_2)).trans hw432_2),((HB.out.cell (World.block_lt_of_cell? w _ hw432_3)).trans hw432_3),((HB.out.cell (World.block_lt_of_cell? w _ hw433_0)).trans hw433_0),((HB.out.cell (World.block_lt_of_cell? w _ hw433_1)).trans hw433_1),((HB.out.cell (World.block_lt_of_cell? w _ hw433_2)).trans hw433_2),((HB.out.cell (World.block_lt_of_cell? w _ hw433_3)).trans hw433_3)⟩ (λhHeld=>?_);refine with_tabW watchwordlaw0_SameLsas.tab6 watchwordlaw0_SameLsas.bits6 (λHT_ HW_=>?_);generalize wr.drew=w9 at HB R2 R3 h0 h1 h2 h3 h4 h5 h6 h7 hHeld |-;refine pV 0 17 mk_10_1 ?_;refine pV 1 18 mk_10_2 ?_;refine pV 2 19 mk_10_3 ?_;refine pV 4 21 #[true,true,true,false,true,false,false,false,false,false] ?_;refine pV 5 22 #[true,true,true,false,true,true,false,false,false,false] ?_;refine pV 6 23 #[true,true,true,false,true,true,true,false,false,false] ?_;refine tV 3 (some 20) mk_10_7 (hy:=Or.inl ⟨by rfl,by rintro w' ⟨s0,s1,s2,s3,s4,s5,s6,s7⟩;go_simp;with_reducible rfl⟩) (h:=?_);refine tV 7 (some 24) mk_10_8 (hy:=Or.inl ⟨by rfl,by rintro w' ⟨s0,s1,s2,s3,s4,s5,s6,s7⟩;go_simp;with_reducible rfl⟩) (h:=?_);refine oV 8 (some 25) mk_10_9 (h:=λK hK=>?_);refine gV Try.func62 #[.agg #[.int .i64 ((rd_T45 l0 x2).f0),.int .i64 ((rd_T45 l0 x2).f1),.int .i64 ((rd_T45 l0 x2).f2),.slice A4 ((rd_T45 l0 x2).f3).length s8],.agg #[.int .i64 ((rd_T45 l1 x2).f0),.int .i64 ((rd_T45 l1 x2).f1),.int .i64 ((rd_T45 l1 x2).f2),.slice A5 ((rd_T45 l1 x2).f3).length s9]] (h:=?_)
        with_reducible refine(watchwordlaw0_SameLsa.calls k1 ((rd_T45 l0 x2).f0) ((rd_T45 l0 x2).f1) ((rd_T45 l0 x2).f2) _ _ ((rd_T45 l0 x2).f3) ((rd_T45 l1 x2).f0) ((rd_T45 l1 x2).f1) ((rd_T45 l1 x2).f2) _ _ ((rd_T45 l1 x2).f3) true _ ?side1 ?side2 ?side3 ?side4 A7.out).mono ?_
        (case side1=>repeat (first|exact(Kd.C_below R2.out HB.out)|(with_reducible refine Kd.C_alloc ?_ _)|(with_reducible refine Kd.C_drewN ?_ _)|(with_reducible refine Kd.C_drew ?_)))
        (case side2=>exact K2.out)
        (case side3=>repeat (first|exact(Kd.C_below R3.out HB.out)|(with_reducible refine Kd.C_alloc ?_ _)|(with_reducible refine Kd.C_drewN ?_ _)|(with_reducible refine Kd.C_drew ?_)))
        (case side4=>exact K3.out)
        rintro e w1 ⟨rfl,hb⟩;refine⟨_,rfl,?_⟩;replace HB:=Aside0.mk (below_step mA hb);(try clear hb);(try clear hb2);(try clear hk);(try clear hi);refine hK.out _ _ ⟨((HB.out.cell (World.block_lt_of_cell? w _ hw432_0)).trans hw432_0),((HB.out.cell (World.block_lt_of_cell? w _ hw432_1)).trans hw432_1),((HB.out.cell (World.block_lt_of_cell? w _ hw432_2)).trans hw432_2),((HB.out.cell (World.block_lt_of_cell? w _ hw432_3)).trans hw432_3),((HB.out.cell (World.block_lt_of_cell? w _ hw433_0)).trans hw433_0),((HB.out.cell (World.block_lt_of_cell? w _ hw433_1)).trans hw433_1),((HB.out.cell (World.block_lt_of_cell? w _ hw433_2)).trans hw433_2),((HB.out.cell (World.block_lt_of_cell? w _ hw433_3)).trans hw433_3)⟩ (λhHeld=>?_);clear hK K;refine nV 25 (h:=?_);refine pV 9 26 mk_10_10 ?_;refine done_ (done_of HT_.out mAD) ?_;(try go_wp2)
        go_roundg k1
        case measure=>have:=HK1.out;omega
        case rel=>exact⟨(wrap64 (x2+1)),mK,H',⟨by have:=HK1.out;omega⟩,⟨by repeat (first|(with_reducible first|exact HB.out|apply below_alloc|apply pw_below_drewN|apply below_drew1)|exact HB.out)⟩⟩
       ·replace c8:=Bool.eq_false_iff.mpr c8
        subst c8;rw[if_neg (show ¬(false=true)by decide)]at H;obtain rfl:=Option.some.inj H;(try go_wp2);replace HB:=Aside0.mk (below_drew1 HB.out);have p0:0<=(x2:Int):=of_decide_eq_true mE;have q0:x2<(l0.length:Int):=of_decide_eq_true mE;obtain⟨d0,A4,s8,e0,h0,h1,h2,h3,i0,i1⟩:=at_T45 R0.out x2 p0 q0;have hw432_3:=h3;have hw432_2:=h2;have hw432_1:=h1;have hw432_0:=h0;cases e0;replace h0:=hB HB h0;replace h1:=hB HB h1;replace h2:=hB HB h2;replace h3:=hB HB h3;have R2:=Aside0.mk i1;have K2:=Aside0.mk i0;clear i1 i0;replace p0:=eq_true p0;replace q0:=eq_true q0;have p1:0<=(x2:Int):=of_decide_eq_true mE;have q1:x2<(l1.length:Int):=of_decide_eq_true mE;obtain⟨d1,A5,s9,e1,h4,h5,h6,h7,i2,i3⟩:=at_T45 R1.out x2 p1 q1;have hw433_3:=h7;have hw433_2:=h6;have hw433_1:=h5;have hw433_0:=h4;cases e1;replace h4:=hB HB h4;replace h5:=hB HB h5;replace h6:=hB HB h6;replace h7:=hB HB h7;have R3:=Aside0.mk i3;have K3:=Aside0.mk i2;clear i3 i2;replace p1:=eq_true p1;replace q1:=eq_true q1;refine start_ (n:=10) (S:=λw'=>w'.cell? (d0.add ((x2).toNat *4))=some (.int .i64 ((rd_T45 l0 x2).f0))/\w'.cell? ⟨(d0.add ((x2).toNat *4)).block,(d0.add ((x2).toNat *4)).off +1,none⟩=some (.int .i64 ((rd_T45 l0 x2).f1))/\w'.cell? ⟨(d0.add ((x2).toNat *4)).block,(d0.add ((x2).toNat *4)).off +2,none⟩=some (.int .i64 ((rd_T45 l0 x2).f2))/\w'.cell? ⟨(d0.add ((x2).toNat *4)).block,(d0.add ((x2).toNat *4)).off +3,none⟩=some (.slice A4 ((rd_T45 l0 x2).f3).length s8)/\w'.cell? (d1.add ((x2).toNat *4))=some (.int .i64 ((rd_T45 l1 x2).f0))/\w'.cell? ⟨(d1.add ((x2).toNat *4)).block,(d1.add ((x2).toNat *4)).off +1,none⟩=some (.int .i64 ((rd_T45 l1 x2).f1))/\w'.cell? ⟨(d1.add ((x2).toNat *4)).block,(d1.add ((x2).toNat *4)).off +2,none⟩=some (.int .i64 ((rd_T45 l1 x2).f2))/\w'.cell? ⟨(d1.add ((x2).toNat *4)).block,(d1.add ((x2).toNat *4)).off +3,none⟩=some (.slice A5 ((rd_T45 l1 x2).f3).length s9)) (ds:=[]) mk_10_0 mAD rfl rfl ⟨((HB.out.cell (World.block_lt_of_cell? w _ hw432_0)).trans hw432_0),((HB.out.cell (World.block_lt_of_cell? w _ hw432_1)).trans hw432_1),((HB.out.cell (World.block_lt_of_cell? w _ hw432_2)).trans hw432_2),((HB.out.cell (World.block_lt_of_cell? w _ hw432_3)).trans hw432_3),((HB.out.cell (World.block_lt_of_cell? w _ hw433_0)).trans hw433_0),((HB.out.cell (World.block_lt_of_cell? w _ hw433_1)).trans hw433_1),((HB.out.cell (World.block_lt_of_cell? w _ hw433_2)).trans hw433_2),((HB.out.cell (World.block_lt_of_cell? w _ hw433_3)).trans hw433_3)⟩ (λhHeld=>?_);refine with_tabW watchwordlaw0_SameLsas.tab6 watchwordlaw0_SameLsas.bits6 (λHT_ HW_=>?_);generalize wr.drew=w2 at HB R2 R3 h0 h1 h2 h3 h4 h5 h6 h7 hHeld |-;refine pV 0 17 mk_10_1 ?_;refine pV 1 18 mk_10_2 ?_;refine pV 2 19 mk_10_3 ?_;refine pV 4 21 #[true,true,true,false,true,false,false,false,false,false] ?_;refine pV 5 22 #[true,true,true,false,true,true,false,false,false,false] ?_;refine pV 6 23 #[true,true,true,false,true,true,true,false,false,false] ?_;refine tV 3 (some 20) mk_10_7 (hy:=Or.inl ⟨by rfl,by rintro w' ⟨s0,s1,s2,s3,s4,s5,s6,s7⟩;go_simp;with_reducible rfl⟩) (h:=?_);refine tV 7 (some 24) mk_10_8 (hy:=Or.inl ⟨by rfl,by rintro w' ⟨s0,s1,s2,s3,s4,s5,s6,s7⟩;go_simp;with_reducible rfl⟩) (h:=?_);refine oV 8 (some 25) mk_10_9 (h:=λK hK=>?_);refine gV Try.func62 #[.agg #[.int .i64 ((rd_T45 l0 x2).f0),.int .i64 ((rd_T45 l0 x2).f1),.int .i64 ((rd_T45 l0 x2).f2),.slice A4 ((rd_T45 l0 x2).f3).length s8],.agg #[.int .i64 ((rd_T45 l1 x2).f0),.int .i64 ((rd_T45 l1 x2).f1),.int .i64 ((rd_T45 l1 x2).f2),.slice A5 ((rd_T45 l1 x2).f3).length s9]] (h:=?_)
        with_reducible refine(watchwordlaw0_SameLsa.calls k1 ((rd_T45 l0 x2).f0) ((rd_T45 l0 x2).f1) ((rd_T45 l0 x2).f2) _ _ ((rd_T45 l0 x2).f3) ((rd_T45 l1 x2).f0) ((rd_T45 l1 x2).f1) ((rd_T45 l1 x2).f2) _ _ ((rd_T45 l1 x2).f3) false _ ?side1 ?side2 ?side3 ?side4 A7.out).mono ?_
        (case side1=>repeat (first|exact(Kd.C_below R2.out HB.out)|(with_reducible refine Kd.C_alloc ?_ _)|(with_reducible refine Kd.C_drewN ?_ _)|(with_reducible refine Kd.C_drew ?_)))
        (case side2=>exact K2.out)
        (case side3=>repeat (first|exact(Kd.C_below R3.out HB.out)|(with_reducible refine Kd.C_alloc ?_ _)|(with_reducible refine Kd.C_drewN ?_ _)|(with_reducible refine Kd.C_drew ?_)))
        (case side4=>exact K3.out)
        rintro e w3 ⟨rfl,hb⟩;refine⟨_,rfl,?_⟩;replace HB:=Aside0.mk (below_step mA hb);(try clear hb);(try clear hb2);(try clear hk);(try clear hi);refine hK.out _ _ ⟨((HB.out.cell (World.block_lt_of_cell? w _ hw432_0)).trans hw432_0),((HB.out.cell (World.block_lt_of_cell? w _ hw432_1)).trans hw432_1),((HB.out.cell (World.block_lt_of_cell? w _ hw432_2)).trans hw432_2),((HB.out.cell (World.block_lt_of_cell? w _ hw432_3)).trans hw432_3),((HB.out.cell (World.block_lt_of_cell? w _ hw433_0)).trans hw433_0),((HB.out.cell (World.block_lt_of_cell? w _ hw433_1)).trans hw433_1),((HB.out.cell (World.block_lt_of_cell? w _ hw433_2)).trans hw433_2),((HB.out.cell (World.block_lt_of_cell? w _ hw433_3)).trans hw433_3)⟩ (λhHeld=>?_);clear hK K;refine nV 25 (h:=?_);refine pV 9 26 mk_10_10 ?_;refine done_ (done_of HT_.out mAD) ?_;(try go_wp2);go_ret;exact⟨by first|rfl|(simp[errW_none,errW_some] <;> rfl)|(simp[*,errW_none,errW_some] <;> rfl),by repeat (first|(with_reducible first|exact HB.out|apply below_alloc|apply pw_below_drewN|apply below_drew1)|exact HB.out)⟩
      ·rw[if_neg c6]at H
       exact absurd H mAM
     ·rw[if_neg c5]at H
      exact absurd H mAM
    ·rw[if_neg c4]at H
     have cj:=decide_eq_false c4;clear c4;obtain rfl:=Option.some.inj H;go_wp2;go_ret;exact⟨by first|rfl|(simp[errW_none,errW_some] <;> rfl)|(simp[*,errW_none,errW_some] <;> rfl),by repeat (first|(with_reducible first|exact HB.out|apply below_alloc|apply pw_below_drewN|apply below_drew1)|exact HB.out)⟩
 ·rw[if_neg c3]at H
  have c7:=beq_eq_false_iff_ne.mpr c3;have ca:=bne_iff_ne.mpr c3
  have cc:(l0.length==l1.length)=false:=by first|simpa using c3|(simp at c3 |-;omega)
  obtain rfl:=Option.some.inj H
  go_enter Try.func35,Try.ntmps35
  go_wp2;go_ret;exact⟨by first|rfl|(simp[errW_none,errW_some] <;> rfl)|(simp[*,errW_none,errW_some] <;> rfl),by repeat (first|(with_reducible first|exact HB.out|apply below_alloc|apply pw_below_drewN|apply below_drew1)|exact HB.out)⟩
def watchwordlaw0_SameLsaHeads.l0:Nat->List (S47)->List (S47)->Int->Option (Bool)
 |0,_,_,_=>none
 |k+1,x0,x1,x5=>if x5<(x0.length:Int)then(if 0<=x5 then(if x5<(x1.length:Int)then(if(!(((rd_T47 x0 x5).f0)==((rd_T47 x1 x5).f0))||(!(((rd_T47 x0 x5).f1)==((rd_T47 x1 x5).f1))||(!(((rd_T47 x0 x5).f2)==((rd_T47 x1 x5).f2))||(!(((rd_T47 x0 x5).f3)==((rd_T47 x1 x5).f3))))))=true then(some false)else(watchwordlaw0_SameLsaHeads.l0 k x0 x1 (wrap64 (x5+1))))else(none))else(none))else(some true)
def watchwordlaw0_SameLsaHeads.f (k:Nat) (l0:List (S47)) (l1:List (S47)):Option (Bool):=if(l0.length:Int)=(l1.length:Int)then(watchwordlaw0_SameLsaHeads.l0 k l0 l1 0)else(some false)
theorem watchwordlaw0_SameLsaHeads.mono_l:∀k,(∀y0 y1 y2,LeO (watchwordlaw0_SameLsaHeads.l0 k y0 y1 y2) (watchwordlaw0_SameLsaHeads.l0 (k+1) y0 y1 y2))
 |0=>λ_ _ _ r h=>by simp[watchwordlaw0_SameLsaHeads.l0]at h
 |k+1=>by
  have ih0:=watchwordlaw0_SameLsaHeads.mono_l k
  ·intro y0 y1 y2
   unfold watchwordlaw0_SameLsaHeads.l0
   repeat' (with_reducible first|exact ih0 _ _ _|exact LeO.refl _|exact LeO.none _|refine LeO.ite ?_ ?_ |refine LeO.bind ?_ (λ_=>?_))
theorem watchwordlaw0_SameLsaHeads.mono:∀a0 a1 k,LeO (watchwordlaw0_SameLsaHeads.f k a0 a1) (watchwordlaw0_SameLsaHeads.f (k+1) a0 a1):=by
 intro a0 a1 k;have ih0:=watchwordlaw0_SameLsaHeads.mono_l k;unfold watchwordlaw0_SameLsaHeads.f
 repeat' (with_reducible first|exact ih0 _ _ _|exact LeO.refl _|exact LeO.none _|refine LeO.ite ?_ ?_ |refine LeO.bind ?_ (λ_=>?_))
set_option maxHeartbeats 8000000 in
set_option maxRecDepth 100000 in
theorem watchwordlaw0_SameLsaHeads.calls (k:Nat) (A0:Option Addr) (c0:Nat) (l0:List (S47)) (A1:Option Addr) (c1:Nat) (l1:List (S47)) (r:Bool) (w:World) (hr0:Kd.C k47 w A0 l0.length l0) (hc0:l0.length<=c0) (hr1:Kd.C k47 w A1 l1.length l1) (hc1:l1.length<=c1) (h:watchwordlaw0_SameLsaHeads.f k l0 l1=some r):
  Calls Try.prog 36 #[.slice A0 l0.length c0,.slice A1 l1.length c1] w λe w'=>e= .returned (.bool r)/\Drawn0 w w':=by
 have hu47:=Try.underlying47;have R0:=Aside0.mk hr0;have K0:=Aside0.mk hc0;clear hr0 hc0;have R1:=Aside0.mk hr1;have K1:=Aside0.mk hc1;clear hr1 hc1;have H:(if(l0.length:Int)=(l1.length:Int)then(watchwordlaw0_SameLsaHeads.l0 k l0 l1 0)else(some false))=some r:=h;clear h
 by_cases c3:(l0.length:Int)=(l1.length:Int)
 ·rw[if_pos c3]at H
  have c8:=beq_iff_eq.mpr c3;have ca:=bne_eq_false_iff_eq.mpr c3
  have cc:(l0.length==l1.length)=true:=by first|simpa using c3|(simp at c3 |-;omega)
  clear c3;have H':=Aside0.mk H;clear H
  go_enter Try.func36,Try.ntmps36
  go_wp2
  repeat (go_quiet (fail);try go_wp2)
  go_loopg [5] k (λkq v5 w'=>∃(x2:Int),v5= .int .i64 x2/\Aside0 (watchwordlaw0_SameLsaHeads.l0 kq l0 l1 x2=some r)/\Aside0 (kq<=k)/\Drawn0 w w')
  case atStart=>exact⟨(0),mK,H',⟨Nat.le_refl _⟩,by repeat (first|exact Drawn0.refl _|apply Drawn0.step)⟩
  case round=>
   clear H';(try clear c1);(try clear p2);(try clear c3);(try clear c8);(try clear ca);(try clear cc);obtain⟨x2,rfl,HA,HK1,⟨m1,rfl⟩⟩:=hrel;cases gk with
   |zero=>exact absurd HA.out (by simp[watchwordlaw0_SameLsaHeads.l0])
   |succ k1=>
    have H:=HA.out;clear HA;simp only[watchwordlaw0_SameLsaHeads.l0]at H
    by_cases c4:x2<(l0.length:Int)
    ·rw[if_pos c4]at H
     have cj:=decide_eq_true c4;clear c4
     by_cases c5:0<=x2
     ·rw[if_pos c5]at H
      have co:=decide_eq_true c5;clear c5
      by_cases c6:x2<(l1.length:Int)
      ·rw[if_pos c6]at H
       have ct:=decide_eq_true c6;clear c6
       by_cases c7:(!(((rd_T47 l0 x2).f0)==((rd_T47 l1 x2).f0))||(!(((rd_T47 l0 x2).f1)==((rd_T47 l1 x2).f1))||(!(((rd_T47 l0 x2).f2)==((rd_T47 l1 x2).f2))||(!(((rd_T47 l0 x2).f3)==((rd_T47 l1 x2).f3))))))=true
       ·rw[if_pos c7]at H
        have cy:(!(((rd_T47 l0 x2).f0)==((rd_T47 l1 x2).f0))||(!(((rd_T47 l0 x2).f1)==((rd_T47 l1 x2).f1))||(!(((rd_T47 l0 x2).f2)==((rd_T47 l1 x2).f2))||(!(((rd_T47 l0 x2).f3)==((rd_T47 l1 x2).f3))))))=true:=c7;clear c7;obtain rfl:=Option.some.inj H;have p0:0<=(x2:Int):=of_decide_eq_true mE;have q0:x2<(l0.length:Int):=of_decide_eq_true mE;obtain⟨d0,e0,h0,h1,h2,h3⟩:=at_T47 R0.out x2 p0 q0;cases e0;replace p0:=eq_true p0;replace q0:=eq_true q0;have p1:0<=(x2:Int):=of_decide_eq_true mE;have q1:x2<(l1.length:Int):=of_decide_eq_true mE;obtain⟨d1,e1,h4,h5,h6,h7⟩:=at_T47 R1.out x2 p1 q1;cases e1;replace p1:=eq_true p1;replace q1:=eq_true q1;go_wp2
        repeat (go_quiet (fail);try go_wp2)
        go_ret;exact⟨by first|rfl|(simp;done)|(simp[*];done),by repeat (first|exact Drawn0.refl _|apply Drawn0.step)⟩
       ·rw[if_neg c7]at H
        have cy:(!(((rd_T47 l0 x2).f0)==((rd_T47 l1 x2).f0))||(!(((rd_T47 l0 x2).f1)==((rd_T47 l1 x2).f1))||(!(((rd_T47 l0 x2).f2)==((rd_T47 l1 x2).f2))||(!(((rd_T47 l0 x2).f3)==((rd_T47 l1 x2).f3))))))=false:=by simpa using c7
        clear c7;have H':=Aside0.mk H;clear H;have p0:0<=(x2:Int):=of_decide_eq_true mE;have q0:x2<(l0.length:Int):=of_decide_eq_true mE;obtain⟨d0,e0,h0,h1,h2,h3⟩:=at_T47 R0.out x2 p0 q0;cases e0;replace p0:=eq_true p0;replace q0:=eq_true q0;have p1:0<=(x2:Int):=of_decide_eq_true mE;have q1:x2<(l1.length:Int):=of_decide_eq_true mE;obtain⟨d1,e1,h4,h5,h6,h7⟩:=at_T47 R1.out x2 p1 q1;cases e1;replace p1:=eq_true p1;replace q1:=eq_true q1;go_wp2
        repeat (go_quiet (fail);try go_wp2)
        go_roundg k1
        case measure=>have:=HK1.out;omega
        case rel=>exact⟨(wrap64 (x2+1)),mK,H',⟨by have:=HK1.out;omega⟩,by repeat (first|exact Drawn0.refl _|apply Drawn0.step)⟩
      ·rw[if_neg c6]at H
       exact absurd H mAM
     ·rw[if_neg c5]at H
      exact absurd H mAM
    ·rw[if_neg c4]at H
     have cj:=decide_eq_false c4;clear c4;obtain rfl:=Option.some.inj H;go_wp2
     repeat (go_quiet (fail);try go_wp2)
     go_ret;exact⟨by first|rfl|(simp;done)|(simp[*];done),by repeat (first|exact Drawn0.refl _|apply Drawn0.step)⟩
 ·rw[if_neg c3]at H
  have c8:=beq_eq_false_iff_ne.mpr c3;have ca:=bne_iff_ne.mpr c3
  have cc:(l0.length==l1.length)=false:=by first|simpa using c3|(simp at c3 |-;omega)
  obtain rfl:=Option.some.inj H
  go_enter Try.func36,Try.ntmps36
  go_wp2
  repeat (go_quiet (fail);try go_wp2)
  go_ret;exact⟨by first|rfl|(simp;done)|(simp[*];done),by repeat (first|exact Drawn0.refl _|apply Drawn0.step)⟩
def watchwordlaw0_SamePacket.f (k:Nat) (a0_0:Int) (a0_1:Int) (l0_2:List Int) (l0_3:List (S45)) (l0_4:List (S47)) (a1_0:Int) (a1_1:Int) (l1_2:List Int) (l1_3:List (S45)) (l1_4:List (S47)):Option (Bool):=if a0_0=a1_0 then(if a0_1=a1_1 then((watchwordlaw0_SameInts.f k l0_2 l1_2).bind λt439=>(if t439=true then((watchwordlaw0_SameLsas.f k l0_3 l1_3).bind λt440=>(if t440=true then((watchwordlaw0_SameLsaHeads.f k l0_4 l1_4).bind λt441=>(some t441))else(some false)))else(some false)))else(some false))else(some false)
theorem watchwordlaw0_SamePacket.mono:∀a0 a1 a2 a3 a4 a5 a6 a7 a8 a9 k,LeO (watchwordlaw0_SamePacket.f k a0 a1 a2 a3 a4 a5 a6 a7 a8 a9) (watchwordlaw0_SamePacket.f (k+1) a0 a1 a2 a3 a4 a5 a6 a7 a8 a9):=by
 intro a0 a1 a2 a3 a4 a5 a6 a7 a8 a9 k;unfold watchwordlaw0_SamePacket.f
 repeat' (with_reducible first|exact watchwordlaw0_SameInts.mono _ _ _|exact watchwordlaw0_SameLsaHeads.mono _ _ _|exact watchwordlaw0_SameLsas.mono _ _ _|exact LeO.refl _|exact LeO.none _|refine LeO.ite ?_ ?_ |refine LeO.bind ?_ (λ_=>?_))
set_option maxHeartbeats 8000000 in
set_option maxRecDepth 100000 in
theorem watchwordlaw0_SamePacket.calls (k:Nat) (a0_0:Int) (a0_1:Int) (A0_2:Option Addr) (c0_2:Nat) (l0_2:List Int) (A0_3:Option Addr) (c0_3:Nat) (l0_3:List (S45)) (A0_4:Option Addr) (c0_4:Nat) (l0_4:List (S47)) (a1_0:Int) (a1_1:Int) (A1_2:Option Addr) (c1_2:Nat) (l1_2:List Int) (A1_3:Option Addr) (c1_3:Nat) (l1_3:List (S45)) (A1_4:Option Addr) (c1_4:Nat) (l1_4:List (S47)) (r:Bool) (w:World) (hr0_2:Kd.C (Kd.int .i64) w A0_2 l0_2.length l0_2) (hc0_2:l0_2.length<=c0_2) (hr0_3:Kd.C k45 w A0_3 l0_3.length l0_3) (hc0_3:l0_3.length<=c0_3) (hr0_4:Kd.C k47 w A0_4 l0_4.length l0_4) (hc0_4:l0_4.length<=c0_4) (hr1_2:Kd.C (Kd.int .i64) w A1_2 l1_2.length l1_2) (hc1_2:l1_2.length<=c1_2) (hr1_3:Kd.C k45 w A1_3 l1_3.length l1_3) (hc1_3:l1_3.length<=c1_3) (hr1_4:Kd.C k47 w A1_4 l1_4.length l1_4) (hc1_4:l1_4.length<=c1_4) (h:watchwordlaw0_SamePacket.f k a0_0 a0_1 l0_2 l0_3 l0_4 a1_0 a1_1 l1_2 l1_3 l1_4=some r):
  Calls Try.prog 14 #[.agg #[.int .i64 a0_0,.int .i64 a0_1,.slice A0_2 l0_2.length c0_2,.slice A0_3 l0_3.length c0_3,.slice A0_4 l0_4.length c0_4],.agg #[.int .i64 a1_0,.int .i64 a1_1,.slice A1_2 l1_2.length c1_2,.slice A1_3 l1_3.length c1_3,.slice A1_4 l1_4.length c1_4]] w λe w'=>e= .returned (.bool r)/\Below w.heap.size w w':=by
 have hu26:=Try.underlying26;have R0:=Aside0.mk hr0_2;have K0:=Aside0.mk hc0_2;clear hr0_2 hc0_2;have R1:=Aside0.mk hr0_3;have K1:=Aside0.mk hc0_3;clear hr0_3 hc0_3;have R2:=Aside0.mk hr0_4;have K2:=Aside0.mk hc0_4;clear hr0_4 hc0_4;have R3:=Aside0.mk hr1_2;have K3:=Aside0.mk hc1_2;clear hr1_2 hc1_2;have R4:=Aside0.mk hr1_3;have K4:=Aside0.mk hc1_3;clear hr1_3 hc1_3;have R5:=Aside0.mk hr1_4;have K5:=Aside0.mk hc1_4;clear hr1_4 hc1_4;have HB:=Aside0.mk (Below.refl w.heap.size w);have H:(if a0_0=a1_0 then(if a0_1=a1_1 then((watchwordlaw0_SameInts.f k l0_2 l1_2).bind λt0=>(if t0=true then((watchwordlaw0_SameLsas.f k l0_3 l1_3).bind λt1=>(if t1=true then((watchwordlaw0_SameLsaHeads.f k l0_4 l1_4).bind λt2=>(some t2))else(some false)))else(some false)))else(some false))else(some false))=some r:=h;clear h
 by_cases c3:a0_0=a1_0
 ·rw[if_pos c3]at H
  have c2:=beq_iff_eq.mpr c3;have c5:=bne_eq_false_iff_eq.mpr c3;clear c3
  by_cases c4:a0_1=a1_1
  ·rw[if_pos c4]at H
   have cc:=beq_iff_eq.mpr c4;have ce:=bne_eq_false_iff_eq.mpr c4;clear c4;obtain⟨t0,A0,H⟩:=bsE H;(try dsimp only at H);have A5:=Aside0.mk A0;clear A0
   by_cases c6:t0=true
   ·subst c6
    rw[if_pos rfl]at H;obtain⟨t1,A2,H⟩:=bsE H;(try dsimp only at H);have A7:=Aside0.mk A2;clear A2
    by_cases c8:t1=true
    ·subst c8
     rw[if_pos rfl]at H;obtain⟨t2,A4,H⟩:=bsE H;(try dsimp only at H);have A9:=Aside0.mk A4;clear A4;obtain rfl:=Option.some.inj H
     go_enter Try.func14,Try.ntmps14
     go_wp2_with (first|((with_reducible refine gate_dst (N:=2) rfl ?_);refine bxV (N:=2) (cs:=#[.int .i64 a0_0,.int .i64 a0_1,.slice A0_2 l0_2.length c0_2,.slice A0_3 l0_3.length c0_3,.slice A0_4 l0_4.length c0_4]) (t:=26) (h:=?_);intro g0 hg w0 hbox hb;have B0:=Aside0.mk (hbox);have G0:=Aside0.mk ((mJ:w.heap.size<=g0));have G1:=Aside0.mk ((mJ:w.heap.size<=g0));replace HB:=Aside0.mk (below_step mA hb);clear hb hbox hg)|((with_reducible refine gate_dst (N:=3) rfl ?_);refine bxV (N:=3) (cs:=#[.int .i64 a1_0,.int .i64 a1_1,.slice A1_2 l1_2.length c1_2,.slice A1_3 l1_3.length c1_3,.slice A1_4 l1_4.length c1_4]) (t:=26) (h:=?_);intro g1 hg w1 hbox hb;have B1:=Aside0.mk (hbox);have G2:=Aside0.mk ((mT:w.heap.size<=g1));have G3:=Aside0.mk ((mT:w.heap.size<=g1));replace HB:=Aside0.mk (below_step mC hb);have N0:=Aside0.mk ((mAG:g0≠g1));have N1:=Aside0.mk ((mAH:g1≠g0));replace B0:=Aside0.mk (blk_below mB hb);clear hb hbox hg;have n0:=N0.out;have n1:=N1.out;obtain⟨z0,z1,z2,z3,z4⟩:=bc5 B0.out;have z5:=blk_frozen B0.out;obtain⟨z6,z7,z8,z9,za⟩:=bc5 B1.out;have zb:=blk_frozen B1.out)|(go_at_call 34;(with_reducible refine(watchwordlaw0_SameInts.calls k _ _ l0_2 _ _ l1_2 true _ ?side1 ?side2 ?side3 ?side4 A5.out).mono ?_);(case side1=>repeat (first|exact(Kd.C_below R0.out HB.out)|(with_reducible refine Kd.C_alloc ?_ _)|(with_reducible refine Kd.C_drewN ?_ _)|(with_reducible refine Kd.C_drew ?_)));(case side2=>exact K0.out);(case side3=>repeat (first|exact(Kd.C_below R3.out HB.out)|(with_reducible refine Kd.C_alloc ?_ _)|(with_reducible refine Kd.C_drewN ?_ _)|(with_reducible refine Kd.C_drew ?_)));(case side4=>exact K3.out);rintro e w' ⟨rfl,⟨nd,rfl⟩⟩)|(go_at_call 35;(with_reducible refine(watchwordlaw0_SameLsas.calls k _ _ l0_3 _ _ l1_3 true _ ?side1 ?side2 ?side3 ?side4 A7.out).mono ?_);(case side1=>repeat (first|exact(Kd.C_below R1.out mD)|(with_reducible refine Kd.C_alloc ?_ _)|(with_reducible refine Kd.C_drewN ?_ _)|(with_reducible refine Kd.C_drew ?_)));(case side2=>exact K1.out);(case side3=>repeat (first|exact(Kd.C_below R4.out mD)|(with_reducible refine Kd.C_alloc ?_ _)|(with_reducible refine Kd.C_drewN ?_ _)|(with_reducible refine Kd.C_drew ?_)));(case side4=>exact K4.out);rintro e w2 ⟨rfl,hb⟩;replace B0:=Aside0.mk (blk_below mB hb);replace B1:=Aside0.mk (blk_below mL hb);replace HB:=Aside0.mk (below_step mD hb);(try clear hb);(try clear hb2);(try clear hk);(try clear hi);obtain⟨zc,zd,ze,zf,zg⟩:=bc5 B0.out;have zh:=blk_frozen B0.out;obtain⟨zi,zj,zk,zl,zm⟩:=bc5 B1.out;have zn:=blk_frozen B1.out)|(go_at_call 36;(with_reducible refine(watchwordlaw0_SameLsaHeads.calls k _ _ l0_4 _ _ l1_4 t2 _ ?side1 ?side2 ?side3 ?side4 A9.out).mono ?_);(case side1=>repeat (first|exact(Kd.C_below R2.out HB.out)|(with_reducible refine Kd.C_alloc ?_ _)|(with_reducible refine Kd.C_drewN ?_ _)|(with_reducible refine Kd.C_drew ?_)));(case side2=>exact K2.out);(case side3=>repeat (first|exact(Kd.C_below R5.out HB.out)|(with_reducible refine Kd.C_alloc ?_ _)|(with_reducible refine Kd.C_drewN ?_ _)|(with_reducible refine Kd.C_drew ?_)));(case side4=>exact K5.out);rintro e w' ⟨rfl,⟨nd,rfl⟩⟩))
     go_ret;exact⟨by first|rfl|(simp[errW_none,errW_some] <;> rfl)|(simp[*,errW_none,errW_some] <;> rfl),by repeat (first|(with_reducible first|exact HB.out|apply below_alloc|apply pw_below_drewN|apply below_drew1|refine below_set ?_ G1.out|refine below_set ?_ G3.out)|exact HB.out)⟩
    ·replace c8:=Bool.eq_false_iff.mpr c8
     subst c8;rw[if_neg (show ¬(false=true)by decide)]at H;obtain rfl:=Option.some.inj H
     go_enter Try.func14,Try.ntmps14
     go_wp2_with (first|((with_reducible refine gate_dst (N:=2) rfl ?_);refine bxV (N:=2) (cs:=#[.int .i64 a0_0,.int .i64 a0_1,.slice A0_2 l0_2.length c0_2,.slice A0_3 l0_3.length c0_3,.slice A0_4 l0_4.length c0_4]) (t:=26) (h:=?_);intro g0 hg w3 hbox hb;have B0:=Aside0.mk (hbox);have G0:=Aside0.mk ((mJ:w.heap.size<=g0));have G1:=Aside0.mk ((mJ:w.heap.size<=g0));replace HB:=Aside0.mk (below_step mA hb);clear hb hbox hg)|((with_reducible refine gate_dst (N:=3) rfl ?_);refine bxV (N:=3) (cs:=#[.int .i64 a1_0,.int .i64 a1_1,.slice A1_2 l1_2.length c1_2,.slice A1_3 l1_3.length c1_3,.slice A1_4 l1_4.length c1_4]) (t:=26) (h:=?_);intro g1 hg w4 hbox hb;have B1:=Aside0.mk (hbox);have G2:=Aside0.mk ((mT:w.heap.size<=g1));have G3:=Aside0.mk ((mT:w.heap.size<=g1));replace HB:=Aside0.mk (below_step mC hb);have N0:=Aside0.mk ((mAG:g0≠g1));have N1:=Aside0.mk ((mAH:g1≠g0));replace B0:=Aside0.mk (blk_below mB hb);clear hb hbox hg;have n2:=N0.out;have n3:=N1.out;obtain⟨zo,zp,zq,zr,zs⟩:=bc5 B0.out;have zt:=blk_frozen B0.out;obtain⟨zu,zv,zw,zx,zy⟩:=bc5 B1.out;have zz:=blk_frozen B1.out)|(go_at_call 34;(with_reducible refine(watchwordlaw0_SameInts.calls k _ _ l0_2 _ _ l1_2 true _ ?side1 ?side2 ?side3 ?side4 A5.out).mono ?_);(case side1=>repeat (first|exact(Kd.C_below R0.out HB.out)|(with_reducible refine Kd.C_alloc ?_ _)|(with_reducible refine Kd.C_drewN ?_ _)|(with_reducible refine Kd.C_drew ?_)));(case side2=>exact K0.out);(case side3=>repeat (first|exact(Kd.C_below R3.out HB.out)|(with_reducible refine Kd.C_alloc ?_ _)|(with_reducible refine Kd.C_drewN ?_ _)|(with_reducible refine Kd.C_drew ?_)));(case side4=>exact K3.out);rintro e w' ⟨rfl,⟨nd,rfl⟩⟩)|(go_at_call 35;(with_reducible refine(watchwordlaw0_SameLsas.calls k _ _ l0_3 _ _ l1_3 false _ ?side1 ?side2 ?side3 ?side4 A7.out).mono ?_);(case side1=>repeat (first|exact(Kd.C_below R1.out mD)|(with_reducible refine Kd.C_alloc ?_ _)|(with_reducible refine Kd.C_drewN ?_ _)|(with_reducible refine Kd.C_drew ?_)));(case side2=>exact K1.out);(case side3=>repeat (first|exact(Kd.C_below R4.out mD)|(with_reducible refine Kd.C_alloc ?_ _)|(with_reducible refine Kd.C_drewN ?_ _)|(with_reducible refine Kd.C_drew ?_)));(case side4=>exact K4.out);rintro e w5 ⟨rfl,hb⟩;replace B0:=Aside0.mk (blk_below mB hb);replace B1:=Aside0.mk (blk_below mL hb);replace HB:=Aside0.mk (below_step mD hb);(try clear hb);(try clear hb2);(try clear hk);(try clear hi)))
     go_ret;exact⟨by first|rfl|(simp[errW_none,errW_some] <;> rfl)|(simp[*,errW_none,errW_some] <;> rfl),by repeat (first|(with_reducible first|exact HB.out|apply below_alloc|apply pw_below_drewN|apply below_drew1|refine below_set ?_ G1.out|refine below_set ?_ G3.out)|exact HB.out)⟩
   ·replace c6:=Bool.eq_false_iff.mpr c6
    subst c6;rw[if_neg (show ¬(false=true)by decide)]at H;obtain rfl:=Option.some.inj H
    go_enter Try.func14,Try.ntmps14
    go_wp2_with (first|((with_reducible refine gate_dst (N:=2) rfl ?_);refine bxV (N:=2) (cs:=#[.int .i64 a0_0,.int .i64 a0_1,.slice A0_2 l0_2.length c0_2,.slice A0_3 l0_3.length c0_3,.slice A0_4 l0_4.length c0_4]) (t:=26) (h:=?_);intro g0 hg w6 hbox hb;have B0:=Aside0.mk (hbox);have G0:=Aside0.mk ((mJ:w.heap.size<=g0));have G1:=Aside0.mk ((mJ:w.heap.size<=g0));replace HB:=Aside0.mk (below_step mA hb);clear hb hbox hg)|((with_reducible refine gate_dst (N:=3) rfl ?_);refine bxV (N:=3) (cs:=#[.int .i64 a1_0,.int .i64 a1_1,.slice A1_2 l1_2.length c1_2,.slice A1_3 l1_3.length c1_3,.slice A1_4 l1_4.length c1_4]) (t:=26) (h:=?_);intro g1 hg w7 hbox hb;have B1:=Aside0.mk (hbox);have G2:=Aside0.mk ((mT:w.heap.size<=g1));have G3:=Aside0.mk ((mT:w.heap.size<=g1));replace HB:=Aside0.mk (below_step mC hb);have N0:=Aside0.mk ((mAG:g0≠g1));have N1:=Aside0.mk ((mAH:g1≠g0));replace B0:=Aside0.mk (blk_below mB hb);clear hb hbox hg;have n4:=N0.out;have n5:=N1.out;obtain⟨z00,z01,z02,z03,z04⟩:=bc5 B0.out;have z05:=blk_frozen B0.out;obtain⟨z06,z07,z08,z09,z0a⟩:=bc5 B1.out;have z0b:=blk_frozen B1.out)|(go_at_call 34;(with_reducible refine(watchwordlaw0_SameInts.calls k _ _ l0_2 _ _ l1_2 false _ ?side1 ?side2 ?side3 ?side4 A5.out).mono ?_);(case side1=>repeat (first|exact(Kd.C_below R0.out HB.out)|(with_reducible refine Kd.C_alloc ?_ _)|(with_reducible refine Kd.C_drewN ?_ _)|(with_reducible refine Kd.C_drew ?_)));(case side2=>exact K0.out);(case side3=>repeat (first|exact(Kd.C_below R3.out HB.out)|(with_reducible refine Kd.C_alloc ?_ _)|(with_reducible refine Kd.C_drewN ?_ _)|(with_reducible refine Kd.C_drew ?_)));(case side4=>exact K3.out);rintro e w' ⟨rfl,⟨nd,rfl⟩⟩))
    go_ret;exact⟨by first|rfl|(simp[errW_none,errW_some] <;> rfl)|(simp[*,errW_none,errW_some] <;> rfl),by repeat (first|(with_reducible first|exact HB.out|apply below_alloc|apply pw_below_drewN|apply below_drew1|refine below_set ?_ G1.out|refine below_set ?_ G3.out)|exact HB.out)⟩
  ·rw[if_neg c4]at H
   have cc:=beq_eq_false_iff_ne.mpr c4;have ce:=bne_iff_ne.mpr c4;obtain rfl:=Option.some.inj H
   go_enter Try.func14,Try.ntmps14
   go_wp2_with (first|((with_reducible refine gate_dst (N:=2) rfl ?_);refine bxV (N:=2) (cs:=#[.int .i64 a0_0,.int .i64 a0_1,.slice A0_2 l0_2.length c0_2,.slice A0_3 l0_3.length c0_3,.slice A0_4 l0_4.length c0_4]) (t:=26) (h:=?_);intro g0 hg w8 hbox hb;have B0:=Aside0.mk (hbox);have G0:=Aside0.mk ((mJ:w.heap.size<=g0));have G1:=Aside0.mk ((mJ:w.heap.size<=g0));replace HB:=Aside0.mk (below_step mA hb);clear hb hbox hg)|((with_reducible refine gate_dst (N:=3) rfl ?_);refine bxV (N:=3) (cs:=#[.int .i64 a1_0,.int .i64 a1_1,.slice A1_2 l1_2.length c1_2,.slice A1_3 l1_3.length c1_3,.slice A1_4 l1_4.length c1_4]) (t:=26) (h:=?_);intro g1 hg w9 hbox hb;have B1:=Aside0.mk (hbox);have G2:=Aside0.mk ((mT:w.heap.size<=g1));have G3:=Aside0.mk ((mT:w.heap.size<=g1));replace HB:=Aside0.mk (below_step mC hb);have N0:=Aside0.mk ((mAG:g0≠g1));have N1:=Aside0.mk ((mAH:g1≠g0));replace B0:=Aside0.mk (blk_below mB hb);clear hb hbox hg;have n6:=N0.out;have n7:=N1.out;obtain⟨z0c,z0d,z0e,z0f,z0g⟩:=bc5 B0.out;have z0h:=blk_frozen B0.out;obtain⟨z0i,z0j,z0k,z0l,z0m⟩:=bc5 B1.out;have z0n:=blk_frozen B1.out))
   go_ret;exact⟨by first|rfl|(simp[errW_none,errW_some] <;> rfl)|(simp[*,errW_none,errW_some] <;> rfl),by repeat (first|(with_reducible first|exact HB.out|apply below_alloc|apply pw_below_drewN|apply below_drew1|refine below_set ?_ G1.out|refine below_set ?_ G3.out)|exact HB.out)⟩
 ·rw[if_neg c3]at H
  have c2:=beq_eq_false_iff_ne.mpr c3;have c5:=bne_iff_ne.mpr c3;obtain rfl:=Option.some.inj H
  go_enter Try.func14,Try.ntmps14
  go_wp2_with (first|((with_reducible refine gate_dst (N:=2) rfl ?_);refine bxV (N:=2) (cs:=#[.int .i64 a0_0,.int .i64 a0_1,.slice A0_2 l0_2.length c0_2,.slice A0_3 l0_3.length c0_3,.slice A0_4 l0_4.length c0_4]) (t:=26) (h:=?_);intro g0 hg wa hbox hb;have B0:=Aside0.mk (hbox);have G0:=Aside0.mk ((mJ:w.heap.size<=g0));have G1:=Aside0.mk ((mJ:w.heap.size<=g0));replace HB:=Aside0.mk (below_step mA hb);clear hb hbox hg)|((with_reducible refine gate_dst (N:=3) rfl ?_);refine bxV (N:=3) (cs:=#[.int .i64 a1_0,.int .i64 a1_1,.slice A1_2 l1_2.length c1_2,.slice A1_3 l1_3.length c1_3,.slice A1_4 l1_4.length c1_4]) (t:=26) (h:=?_);intro g1 hg wb hbox hb;have B1:=Aside0.mk (hbox);have G2:=Aside0.mk ((mT:w.heap.size<=g1));have G3:=Aside0.mk ((mT:w.heap.size<=g1));replace HB:=Aside0.mk (below_step mC hb);have N0:=Aside0.mk ((mAG:g0≠g1));have N1:=Aside0.mk ((mAH:g1≠g0));replace B0:=Aside0.mk (blk_below mB hb);clear hb hbox hg;have n8:=N0.out;have n9:=N1.out;obtain⟨z0o,z0p,z0q,z0r,z0s⟩:=bc5 B0.out;have z0t:=blk_frozen B0.out;obtain⟨z0u,z0v,z0w,z0x,z0y⟩:=bc5 B1.out;have z0z:=blk_frozen B1.out))
  go_ret;exact⟨by first|rfl|(simp[errW_none,errW_some] <;> rfl)|(simp[*,errW_none,errW_some] <;> rfl),by repeat (first|(with_reducible first|exact HB.out|apply below_alloc|apply pw_below_drewN|apply below_drew1|refine below_set ?_ G1.out|refine below_set ?_ G3.out)|exact HB.out)⟩
def packet_May.f (k:Nat) (a0_0:Int) (a0_1:Int) (l0_2:List Int) (l0_3:List (S45)) (l0_4:List (S47)):Option (Bool):=(packet_list.f k a0_0 a0_1 l0_2 l0_3 l0_4).bind λbt443=>(if bt443.2=true then((lsa_Router.f a0_1).bind λt445=>(some t445))else(some false))
theorem packet_May.mono:∀a0 a1 a2 a3 a4 k,LeO (packet_May.f k a0 a1 a2 a3 a4) (packet_May.f (k+1) a0 a1 a2 a3 a4):=by
 intro a0 a1 a2 a3 a4 k;unfold packet_May.f
 repeat' (with_reducible first|exact packet_list.mono _ _ _ _ _ _|exact LeO.refl _|exact LeO.none _|refine LeO.ite ?_ ?_ |refine LeO.bind ?_ (λ_=>?_))
set_option maxHeartbeats 8000000 in
set_option maxRecDepth 100000 in
theorem packet_May.calls (k:Nat) (a0_0:Int) (a0_1:Int) (A0_2:Option Addr) (c0_2:Nat) (l0_2:List Int) (A0_3:Option Addr) (c0_3:Nat) (l0_3:List (S45)) (A0_4:Option Addr) (c0_4:Nat) (l0_4:List (S47)) (r:Bool) (w:World) (hr0_2:Kd.C (Kd.int .i64) w A0_2 l0_2.length l0_2) (hc0_2:l0_2.length<=c0_2) (hr0_3:Kd.C k45 w A0_3 l0_3.length l0_3) (hc0_3:l0_3.length<=c0_3) (hr0_4:Kd.C k47 w A0_4 l0_4.length l0_4) (hc0_4:l0_4.length<=c0_4) (h:packet_May.f k a0_0 a0_1 l0_2 l0_3 l0_4=some r):
  Calls Try.prog 15 #[.agg #[.int .i64 a0_0,.int .i64 a0_1,.slice A0_2 l0_2.length c0_2,.slice A0_3 l0_3.length c0_3,.slice A0_4 l0_4.length c0_4]] w λe w'=>e= .returned (.bool r)/\Below w.heap.size w w':=by
 have hu26:=Try.underlying26;have R0:=Aside0.mk hr0_2;have K0:=Aside0.mk hc0_2;clear hr0_2 hc0_2;have R1:=Aside0.mk hr0_3;have K1:=Aside0.mk hc0_3;clear hr0_3 hc0_3;have R2:=Aside0.mk hr0_4;have K2:=Aside0.mk hc0_4;clear hr0_4 hc0_4;have HB:=Aside0.mk (Below.refl w.heap.size w);have H:((packet_list.f k a0_0 a0_1 l0_2 l0_3 l0_4).bind λbt443=>(if bt443.2=true then((lsa_Router.f a0_1).bind λt0=>(some t0))else(some false)))=some r:=h;clear h;obtain⟨⟨t1,t2⟩,A0,H⟩:=bsE H;(try dsimp only at H);have A2:=Aside0.mk A0;clear A0
 by_cases c3:t2=true
 ·subst c3
  rw[if_pos rfl]at H;obtain⟨t0,A3,H⟩:=bsE H;(try dsimp only at H);have A4:=Aside0.mk A3;clear A3;obtain rfl:=Option.some.inj H
  go_enter Try.func15,Try.ntmps15
  go_wp2_with (first|((with_reducible refine gate_dst (N:=1) rfl ?_);refine bxV (N:=1) (cs:=#[.int .i64 a0_0,.int .i64 a0_1,.slice A0_2 l0_2.length c0_2,.slice A0_3 l0_3.length c0_3,.slice A0_4 l0_4.length c0_4]) (t:=26) (h:=?_);intro g0 hg w5 hbox hb;have B0:=Aside0.mk (hbox);have G0:=Aside0.mk ((mJ:w.heap.size<=g0));have G1:=Aside0.mk ((mJ:w.heap.size<=g0));replace HB:=Aside0.mk (below_step mA hb);clear hb hbox hg)|((with_reducible refine gate_callee (f:=20) rfl ?_);refine cLV (some 6) Try.func20 #[.pointer (some ⟨g0,0,none⟩)] (h:=?_);(with_reducible refine(packet_list.calls k g0 a0_0 a0_1 A0_2 c0_2 l0_2 A0_3 c0_3 l0_3 A0_4 c0_4 l0_4 t1 true _ ?side1 ?side2 ?side3 ?side4 ?side5 ?side6 ?side7 A2.out).mono ?_);(case side1=>exact mB);(case side2=>repeat (first|exact(Kd.C_below R0.out HB.out)|(with_reducible refine Kd.C_alloc ?_ _)|(with_reducible refine Kd.C_drewN ?_ _)|(with_reducible refine Kd.C_drew ?_)));(case side3=>exact K0.out);(case side4=>repeat (first|exact(Kd.C_below R1.out HB.out)|(with_reducible refine Kd.C_alloc ?_ _)|(with_reducible refine Kd.C_drewN ?_ _)|(with_reducible refine Kd.C_drew ?_)));(case side5=>exact K1.out);(case side6=>repeat (first|exact(Kd.C_below R2.out HB.out)|(with_reducible refine Kd.C_alloc ?_ _)|(with_reducible refine Kd.C_drewN ?_ _)|(with_reducible refine Kd.C_drew ?_)));(case side7=>exact K2.out);rintro e w6 ⟨rfl,hb⟩;refine⟨_,rfl,?_⟩;replace B0:=Aside0.mk (blk_below mB hb);replace HB:=Aside0.mk (below_step mC hb);(try clear hb);obtain⟨z0,z1,z2,z3,z4⟩:=bc5 B0.out;have z5:=blk_frozen B0.out)|(go_at_call 37;(with_reducible refine(lsa_Router.calls a0_1 t0 _ A4.out).mono ?_);rintro e w' ⟨rfl,⟨nd,rfl⟩⟩))
  go_ret;exact⟨by first|rfl|(simp[errW_none,errW_some] <;> rfl)|(simp[*,errW_none,errW_some] <;> rfl),by repeat (first|(with_reducible first|exact HB.out|apply below_alloc|apply pw_below_drewN|apply below_drew1|refine below_set ?_ G1.out)|exact HB.out)⟩
 ·replace c3:=Bool.eq_false_iff.mpr c3
  subst c3;rw[if_neg (show ¬(false=true)by decide)]at H;obtain rfl:=Option.some.inj H
  go_enter Try.func15,Try.ntmps15
  go_wp2_with (first|((with_reducible refine gate_dst (N:=1) rfl ?_);refine bxV (N:=1) (cs:=#[.int .i64 a0_0,.int .i64 a0_1,.slice A0_2 l0_2.length c0_2,.slice A0_3 l0_3.length c0_3,.slice A0_4 l0_4.length c0_4]) (t:=26) (h:=?_);intro g0 hg w8 hbox hb;have B0:=Aside0.mk (hbox);have G0:=Aside0.mk ((mJ:w.heap.size<=g0));have G1:=Aside0.mk ((mJ:w.heap.size<=g0));replace HB:=Aside0.mk (below_step mA hb);clear hb hbox hg)|((with_reducible refine gate_callee (f:=20) rfl ?_);refine cLV (some 6) Try.func20 #[.pointer (some ⟨g0,0,none⟩)] (h:=?_);(with_reducible refine(packet_list.calls k g0 a0_0 a0_1 A0_2 c0_2 l0_2 A0_3 c0_3 l0_3 A0_4 c0_4 l0_4 t1 false _ ?side1 ?side2 ?side3 ?side4 ?side5 ?side6 ?side7 A2.out).mono ?_);(case side1=>exact mB);(case side2=>repeat (first|exact(Kd.C_below R0.out HB.out)|(with_reducible refine Kd.C_alloc ?_ _)|(with_reducible refine Kd.C_drewN ?_ _)|(with_reducible refine Kd.C_drew ?_)));(case side3=>exact K0.out);(case side4=>repeat (first|exact(Kd.C_below R1.out HB.out)|(with_reducible refine Kd.C_alloc ?_ _)|(with_reducible refine Kd.C_drewN ?_ _)|(with_reducible refine Kd.C_drew ?_)));(case side5=>exact K1.out);(case side6=>repeat (first|exact(Kd.C_below R2.out HB.out)|(with_reducible refine Kd.C_alloc ?_ _)|(with_reducible refine Kd.C_drewN ?_ _)|(with_reducible refine Kd.C_drew ?_)));(case side7=>exact K2.out);rintro e w9 ⟨rfl,hb⟩;refine⟨_,rfl,?_⟩;replace B0:=Aside0.mk (blk_below mB hb);replace HB:=Aside0.mk (below_step mC hb);(try clear hb)))
  go_ret;exact⟨by first|rfl|(simp[errW_none,errW_some] <;> rfl)|(simp[*,errW_none,errW_some] <;> rfl),by repeat (first|(with_reducible first|exact HB.out|apply below_alloc|apply pw_below_drewN|apply below_drew1|refine below_set ?_ G1.out)|exact HB.out)⟩
end Go.Proofs.Ytbajimbccbckkaa.Q12k
