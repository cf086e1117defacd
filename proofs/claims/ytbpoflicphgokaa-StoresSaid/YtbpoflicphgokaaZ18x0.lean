/- Written by a program of this session (out of what the print wrote for this seat): the functions' walks, packed. -/
import Derived.Test.YtbpoflicphgokaaM18
namespace Go.Proofs.Ytbpoflicphgokaa.Stp
open Go.RowKit Go.Proofs.YtbpoflicphgokaaW.PrintWords Go.Proofs.YtbpoflicphgokaaW.PrintLast Go.Proofs.YtbpoflicphgokaaW.PrintMore
set_option linter.unusedVariables false
section
variable {P : Program} {ops : Array Oper} {Q : Exit → Act → World → Prop} {md : Region.Mode} {S : World → Prop} {ds : List Nat}
theorem pV (i:Nat) (N:Tmp) {oi:Oper} {v:Value} {fuel:Nat} {l:Array Bool} {a a':Act} {w:World} (l':Array Bool) (h:wpAnyLast P md ops Q S ds fuel l' a' w) (hi:ops[i]? =some oi:=by rfl) (hN:oi.dst=some N:=by rfl) (hc:anyB md ops l l' i=true:=by exact any_of HT_.out (by kernel_rfl))
    (hQ:∀c a w,Q (.panic c) (a.put oi.dst v) w->Q (.panic c) a w:=by exact λ_ _ _ h=>h) (hy:Yields P ops oi v a:=by exact Or.inl ⟨by rfl,by intro w';go_simp;with_reducible rfl⟩) (ha:a.put (some N) v=a':=by simp only[Act.put,List.setIfInBounds_toArray,List.set_cons_zero,List.set_cons_succ,i64_w,i32_w];rfl):wpAnyLast P md ops Q S ds (fuel+1) l a w:=pure_ l' hi hN hc hQ hy ha h
theorem pU (i:Nat) (N:Tmp) {oi:Oper} {fuel:Nat} {l:Array Bool} {a a':Act} {w:World} (l':Array Bool) (h:wpAnyLast P md ops Q S ds fuel l' a' w) (hi:ops[i]? =some oi:=by rfl) (hN:oi.dst=some N:=by rfl) (hc:anyB md ops l l' i=true:=by exact any_of HT_.out (by kernel_rfl))
    (hQ:∀c a w,Q (.panic c) (a.put oi.dst undef) w->Q (.panic c) a w:=by exact λ_ _ _ h=>h) (hy:Yields P ops oi undef a:=by exact Or.inr ⟨by rfl,rfl⟩) (ha:a.put (some N) undef=a':=by simp only[Act.put,List.setIfInBounds_toArray,List.set_cons_zero,List.set_cons_succ,i64_w,i32_w];rfl):wpAnyLast P md ops Q S ds (fuel+1) l a w:=pure_ l' hi hN hc hQ hy ha h
theorem nV (N:Tmp) {v:Value} {fuel:Nat} {l:Array Bool} {a a':Act} {w:World} (ha:a.put (some N) v=a':=by simp only[Act.put,List.setIfInBounds_toArray,List.set_cons_zero,List.set_cons_succ,i64_w,i32_w];rfl) (h:wpAnyLast P md ops Q S ds fuel l a' w):wpAnyLast P md ops Q S ds fuel l (a.put (some N) v) w:=norm_ ha h
theorem oV (i:Nat) (N:Option Tmp) {oi:Oper} {fuel:Nat} {l:Array Bool} {a:Act} {w:World} (l':Array Bool) (hi:ops[i]? =some oi:=by rfl) (hN:oi.dst=N:=by rfl) (hc:readyB md ops l l' i=true:=by exact one_of HT_.out (by kernel_rfl)) (hd:i ∉ ds:=by decide)
    (h:∀K:Act->World->Prop,Shut (∀a' w',S w'->(S w'->wpAnyLast P md ops Q S ds fuel l' a' w')->K a' w')->if Region.wanted oi (yielded ops a.tmps)=true then Oper.wp P oi a w K Q else K (a.put N undef) w):
    wpAnyLast P md ops Q S ds (fuel+1) l a w:=one_ l' hi hN hc hd h
theorem gV {oi:Oper} {N:Option Tmp} {a:Act} {w:World} {K:Act->World->Prop} {f:FuncId} {fn:Func} {as_:Array Operand} {ts:Array TypeId} (hf:P.funcs[f]? =some fn) (args:Array Value) (hname:(fn.name== "runtime.NumGoroutine")=false:=by kernel_rfl) (hb:fn.body.isSome=true:=by rfl)
    (hw:Region.wanted oi (yielded ops a.tmps)=true:=by rfl) (hN:oi.dst=N:=by rfl) (hop:oi.op= .call {callee:= .value (.func f),args:=as_,argTypes:=ts} :=by rfl) (hargs:as_.map a.eval=args:=by(try simp only[List.map_toArray,List.map_cons,List.map_nil]);first|done|rfl|(simp only[List.length_drop,List.length_take];rfl))
    (h:Calls P f args w λe w'=>∃v,e= .returned v/\K (a.put N v) w'):if Region.wanted oi (yielded ops a.tmps)=true then Oper.wp P oi a w K Q else K (a.put N undef) w:=goes_ hf hname hb args hw hN hop hargs h
theorem tV (i:Nat) (N:Option Tmp) {oi:Oper} {v:Value} {fuel:Nat} {l:Array Bool} {a:Act} {w:World} (l':Array Bool) (hi:ops[i]? =some oi:=by rfl) (hN:oi.dst=N:=by rfl) (hc:takeB md ops ds l l' i=true:=by exact take_ofW HT_.out HW_.out (by kernel_rfl))
    (hQ:∀c a w,Q (.panic c) (a.put oi.dst v) w->Q (.panic c) a w:=by exact λ_ _ _ h=>h) (hy:YieldsIf P ops S oi v a) (hS:S w:=by exact hHeld) {a':Act} (ha:a.put N v=a':=by simp only[Act.put,List.setIfInBounds_toArray,List.set_cons_zero,List.set_cons_succ,i64_w,i32_w];rfl)
    (h:wpAnyLast P md ops Q S ds fuel l' a' w):wpAnyLast P md ops Q S ds (fuel+1) l a w:=take_ l' hi hN hc hQ hy hS ha h
end
section
variable {P : Program} {ops : Array Oper} {rest : List Oper} {o : Oper} {a : Act} {Q : Exit → Act → World → Prop}
theorem bxV {W:World} {N:Tmp} {cs:Array Value} {t:TypeId} (hgd:o.guard=none:=by rfl) (hd:o.dst=some N:=by rfl)
    (hrun:(execOp a.eval o).run P W= .ok (.value (.pointer (some ⟨W.heap.size,0,none⟩))) (W.alloc (.cells cs t (0,0))):=by first|(go_simp;done)|(go_simp;rfl))
    (h:∀g,g=W.heap.size->∀w1,w1.heap[g]? =some (.cells cs t (0,0))->Below W.heap.size W w1->wpList P ops Q rest (a.put o.dst (.pointer (some ⟨g,0,none⟩))) w1):wpList P ops Q (o::rest) a W:=box_event hgd hd hrun h
theorem stV {W w1:World} {t:TypeId} {p:Tmp} {v:Operand} (hgd:o.guard=none:=by rfl) (ho:o.op= .store t (.tmp p) v:=by rfl) (hN:o.dst=none:=by rfl)
    (hrun:(execOp a.eval o).run P W= .ok .skip w1:=by first|(go_simp;done)|(go_simp;rfl)) (h:∀w',w'=w1->wpList P ops Q rest a w'):wpList P ops Q (o::rest) a W:=store_event hgd ho hN hrun h
theorem cLV {w:World} (N:Option Tmp) {f:FuncId} {fn:Func} {as_:Array Operand} {ts:Array TypeId} (hf:P.funcs[f]? =some fn) (args:Array Value) (hd:o.dst=N:=by rfl) (hg:o.guard=none:=by rfl) (hname:(fn.name== "runtime.NumGoroutine")=false:=by kernel_rfl) (hb:fn.body.isSome=true:=by rfl)
    (hop:o.op= .call {callee:= .value (.func f),args:=as_,argTypes:=ts} :=by rfl) (hargs:as_.map a.eval=args:=by(try simp only[List.map_toArray,List.map_cons,List.map_nil]);first|done|rfl|(simp only[List.length_drop,List.length_take];rfl))
    (h:Calls P f args w λe w'=>∃v,e= .returned v/\wpList P ops Q rest (a.put N v) w'):wpList P ops Q (o::rest) a w:=goesL_ N hd hg hf hname hb args hop hargs h
end
theorem bsE {α β:Type} {o:Option α} {f:α->Option β} {r:β} (h:o.bind f=some r):∃x,o=some x/\f x=some r:=Option.bind_eq_some_iff.mp h
theorem hB {w w':World} {p:Addr} {v:Value} (h:Aside0 (Below w.heap.size w w')) (x:w.cell? p=some v):w'.cell? p=some v:=(h.out.cell (World.block_lt_of_cell? w _ x)).trans x
theorem bc1 {w:World} {g:Nat} {t:TypeId} {c0:Value} (h:w.heap[g]? =some (.cells #[c0] t (0,0))):w.cell? ⟨g,0,none⟩=some c0:=(blk_cell h 0).trans rfl
theorem bc2 {w:World} {g:Nat} {t:TypeId} {c0 c1:Value} (h:w.heap[g]? =some (.cells #[c0,c1] t (0,0))):w.cell? ⟨g,0,none⟩=some c0/\w.cell? ⟨g,1,none⟩=some c1:=⟨(blk_cell h 0).trans rfl,(blk_cell h 1).trans rfl⟩
theorem bc3 {w:World} {g:Nat} {t:TypeId} {c0 c1 c2:Value} (h:w.heap[g]? =some (.cells #[c0,c1,c2] t (0,0))):w.cell? ⟨g,0,none⟩=some c0/\w.cell? ⟨g,1,none⟩=some c1/\w.cell? ⟨g,2,none⟩=some c2:=⟨(blk_cell h 0).trans rfl,(blk_cell h 1).trans rfl,(blk_cell h 2).trans rfl⟩
theorem bc4 {w:World} {g:Nat} {t:TypeId} {c0 c1 c2 c3:Value} (h:w.heap[g]? =some (.cells #[c0,c1,c2,c3] t (0,0))):w.cell? ⟨g,0,none⟩=some c0/\w.cell? ⟨g,1,none⟩=some c1/\w.cell? ⟨g,2,none⟩=some c2/\w.cell? ⟨g,3,none⟩=some c3:=⟨(blk_cell h 0).trans rfl,(blk_cell h 1).trans rfl,(blk_cell h 2).trans rfl,(blk_cell h 3).trans rfl⟩
theorem bc5 {w:World} {g:Nat} {t:TypeId} {c0 c1 c2 c3 c4:Value} (h:w.heap[g]? =some (.cells #[c0,c1,c2,c3,c4] t (0,0))):w.cell? ⟨g,0,none⟩=some c0/\w.cell? ⟨g,1,none⟩=some c1/\w.cell? ⟨g,2,none⟩=some c2/\w.cell? ⟨g,3,none⟩=some c3/\w.cell? ⟨g,4,none⟩=some c4:=⟨(blk_cell h 0).trans rfl,(blk_cell h 1).trans rfl,(blk_cell h 2).trans rfl,(blk_cell h 3).trans rfl,(blk_cell h 4).trans rfl⟩
variable {P : Prop}
theorem mA (h:P:=by repeat (first|(with_reducible first|exact HB.out|apply below_alloc|apply pw_below_drewN|apply below_drew1)|exact HB.out)):P:=h
theorem mB (h:P:=by repeat (first|(with_reducible first|exact HB.out|apply below_alloc|apply pw_below_drewN|apply below_drew1|refine below_set ?_ G1.out)|exact HB.out)):P:=h
theorem mC (h:P:=by(with_reducible repeat (first|refine blk_drewN ?_ _|refine blk_drew ?_ |refine blk_alloc ?_ _));exact B0.out):P:=h
theorem mD (h:P:=by repeat (first|(with_reducible first|exact HB.out|apply below_alloc|apply pw_below_drewN|apply below_drew1|refine below_set ?_ G1.out|refine below_set ?_ G3.out)|exact HB.out)):P:=h
theorem mE (h:P:=by(with_reducible repeat (first|refine blk_drewN ?_ _|refine blk_drew ?_ |refine blk_alloc ?_ _));exact B1.out):P:=h
theorem mF (h:P:=by first|(with_reducible assumption)|assumption):P:=h
theorem mG (h:P:=by repeat (first|(with_reducible first|exact HB.out|apply below_alloc|apply pw_below_drewN|apply below_drew1|refine below_set ?_ G1.out|refine below_set ?_ G3.out|refine below_set ?_ G5.out)|exact HB.out)):P:=h
theorem mH (h:P:=by rw[hg];exact(below_size mA)):P:=h
theorem mI (h:P:=by repeat (first|(with_reducible first|exact HB.out|apply below_alloc|apply pw_below_drewN|apply below_drew1|refine below_set ?_ G1.out|refine below_set ?_ G3.out|refine below_set ?_ G5.out|refine below_set ?_ G7.out)|exact HB.out)):P:=h
theorem mJ (h:P:=by first|rfl|(simp;done)|(simp[*];done)):P:=h
theorem mK (h:P:=by(with_reducible repeat (first|refine blk_drewN ?_ _|refine blk_drew ?_ |refine blk_alloc ?_ _));exact B2.out):P:=h
theorem mL (h:P:=by(with_reducible repeat (first|apply Kd.N_alloc|apply Kd.N_drewN|apply Kd.N_drew));exact O2.out):P:=h
theorem mM (h:P:=by(with_reducible repeat (first|apply Kd.N_alloc|apply Kd.N_drewN|apply Kd.N_drew));exact O1.out):P:=h
theorem mN (h:P:=by rw[hw];exact(by(with_reducible repeat (first|refine blk_drewN ?_ _|refine blk_drew ?_ |refine blk_alloc ?_ _));refine blk_far ?_ N0.out _;(with_reducible repeat (first|refine blk_drewN ?_ _|refine blk_drew ?_ |refine blk_alloc ?_ _));refine blk_far ?_ N0.out _;(with_reducible repeat (first|refine blk_drewN ?_ _|refine blk_drew ?_ |refine blk_alloc ?_ _));refine blk_far ?_ N0.out _;(with_reducible repeat (first|refine blk_drewN ?_ _|refine blk_drew ?_ |refine blk_alloc ?_ _));refine blk_far ?_ N0.out _;(with_reducible repeat (first|refine blk_drewN ?_ _|refine blk_drew ?_ |refine blk_alloc ?_ _));exact B0.out)):P:=h
theorem mO (h:P:=by rw[hw];exact(by(with_reducible repeat (first|refine blk_drewN ?_ _|refine blk_drew ?_ |refine blk_alloc ?_ _));refine blk_put (cs:=#[.int .i64 ((rd_T32 l0 x1).f0),.int .i64 ((rd_T32 l0 x1).f1),.int .i64 ((rd_T32 l0 x1).f2),.slice none 0 0]) ?_ 3 _ rfl;(with_reducible repeat (first|refine blk_drewN ?_ _|refine blk_drew ?_ |refine blk_alloc ?_ _));refine blk_put (cs:=#[.int .i64 ((rd_T32 l0 x1).f0),.int .i64 ((rd_T32 l0 x1).f1),.int .i64 0,.slice none 0 0]) ?_ 2 _ rfl;(with_reducible repeat (first|refine blk_drewN ?_ _|refine blk_drew ?_ |refine blk_alloc ?_ _));refine blk_put (cs:=#[.int .i64 ((rd_T32 l0 x1).f0),.int .i64 0,.int .i64 0,.slice none 0 0]) ?_ 1 _ rfl;(with_reducible repeat (first|refine blk_drewN ?_ _|refine blk_drew ?_ |refine blk_alloc ?_ _));refine blk_put (cs:=#[.int .i64 0,.int .i64 0,.int .i64 0,.slice none 0 0]) ?_ 0 _ rfl;(with_reducible repeat (first|refine blk_drewN ?_ _|refine blk_drew ?_ |refine blk_alloc ?_ _));exact B0.out)):P:=h
theorem mP (h:P:=by rw[hw];exact(by(with_reducible repeat (first|refine blk_drewN ?_ _|refine blk_drew ?_ |refine blk_alloc ?_ _));refine blk_put (cs:=#[.int .i64 ((rd_T56 l0 x2).f0),.int .i64 0]) ?_ 1 _ rfl;(with_reducible repeat (first|refine blk_drewN ?_ _|refine blk_drew ?_ |refine blk_alloc ?_ _));refine blk_put (cs:=#[.int .i64 0,.int .i64 0]) ?_ 0 _ rfl;(with_reducible repeat (first|refine blk_drewN ?_ _|refine blk_drew ?_ |refine blk_alloc ?_ _));exact B0.out)):P:=h
theorem mQ (h:P:=by(with_reducible repeat (first|apply Kd.R_alloc|apply Kd.R_drewN|apply Kd.R_drew));exact O0.out):P:=h
theorem mR (h:P:=by rw[hw];exact(by(with_reducible repeat (first|refine blk_drewN ?_ _|refine blk_drew ?_ |refine blk_alloc ?_ _));refine blk_put (cs:=#[.int .i64 0,.int .i64 0,.int .i64 0,.slice none 0 0]) ?_ 3 _ rfl;(with_reducible repeat (first|refine blk_drewN ?_ _|refine blk_drew ?_ |refine blk_alloc ?_ _));refine blk_put (cs:=#[.int .i64 0,.int .i64 0,.int .i64 0,.slice none 0 0]) ?_ 2 _ rfl;(with_reducible repeat (first|refine blk_drewN ?_ _|refine blk_drew ?_ |refine blk_alloc ?_ _));refine blk_put (cs:=#[.int .i64 0,.int .i64 0,.int .i64 0,.slice none 0 0]) ?_ 1 _ rfl;(with_reducible repeat (first|refine blk_drewN ?_ _|refine blk_drew ?_ |refine blk_alloc ?_ _));refine blk_put (cs:=#[.int .i64 0,.int .i64 0,.int .i64 0,.slice none 0 0]) ?_ 0 _ rfl;(with_reducible repeat (first|refine blk_drewN ?_ _|refine blk_drew ?_ |refine blk_alloc ?_ _));exact B0.out)):P:=h
theorem mS (h:P:=by(with_reducible repeat (first|apply Kd.R_alloc|apply Kd.R_drewN|apply Kd.R_drew));exact O4.out):P:=h
theorem mT (h:P:=by(with_reducible repeat (first|apply Kd.S_alloc|apply Kd.S_drewN|apply Kd.S_drew));exact O0.out):P:=h
theorem mU (h:P:=by rw[hw];exact(by(with_reducible repeat (first|refine blk_drewN ?_ _|refine blk_drew ?_ |refine blk_alloc ?_ _));refine blk_far ?_ N4.out _;(with_reducible repeat (first|refine blk_drewN ?_ _|refine blk_drew ?_ |refine blk_alloc ?_ _));refine blk_far ?_ N4.out _;(with_reducible repeat (first|refine blk_drewN ?_ _|refine blk_drew ?_ |refine blk_alloc ?_ _));refine blk_far ?_ N4.out _;(with_reducible repeat (first|refine blk_drewN ?_ _|refine blk_drew ?_ |refine blk_alloc ?_ _));refine blk_far ?_ N4.out _;(with_reducible repeat (first|refine blk_drewN ?_ _|refine blk_drew ?_ |refine blk_alloc ?_ _));exact B1.out)):P:=h
theorem mV (h:P:=by rw[hw];exact(by(with_reducible repeat (first|refine blk_drewN ?_ _|refine blk_drew ?_ |refine blk_alloc ?_ _));refine blk_far ?_ N2.out _;(with_reducible repeat (first|refine blk_drewN ?_ _|refine blk_drew ?_ |refine blk_alloc ?_ _));refine blk_far ?_ N2.out _;(with_reducible repeat (first|refine blk_drewN ?_ _|refine blk_drew ?_ |refine blk_alloc ?_ _));refine blk_far ?_ N2.out _;(with_reducible repeat (first|refine blk_drewN ?_ _|refine blk_drew ?_ |refine blk_alloc ?_ _));refine blk_far ?_ N2.out _;(with_reducible repeat (first|refine blk_drewN ?_ _|refine blk_drew ?_ |refine blk_alloc ?_ _));exact B0.out)):P:=h
theorem mW (h:P:=by rw[hg];exact(below_size mB)):P:=h
theorem mX (h:P:=by rw[hg];exact Nat.ne_of_lt (blk_lt (g:=g0) (o:= .cells #[.int .i64 a0_0,.int .i64 a0_1,.int .i64 a0_2,.slice A0_3 l0_3.length c0_3] 32 (0,0)) mC)):P:=h
theorem mY (h:P:=by rw[hg];exact Nat.ne_of_gt (blk_lt (g:=g0) (o:= .cells #[.int .i64 a0_0,.int .i64 a0_1,.int .i64 a0_2,.slice A0_3 l0_3.length c0_3] 32 (0,0)) mC)):P:=h
theorem mZ (h:P:=by(with_reducible repeat (first|apply Kd.R_alloc|apply Kd.R_drewN|apply Kd.R_drew));exact O3.out):P:=h
theorem mAA (h:P:=by(with_reducible repeat (first|apply Kd.N_alloc|apply Kd.N_drewN|apply Kd.N_drew));exact O5.out):P:=h
theorem mAB (h:P:=by(with_reducible repeat (first|apply Kd.S_alloc|apply Kd.S_drewN|apply Kd.S_drew));exact Kd.S_mono O0.out (λk_ hk=>⟨hk.1,λe_=>hk.2 e_⟩)):P:=h
theorem mAC (h:P:=by(with_reducible repeat (first|apply Kd.V_alloc|apply Kd.V_drewN|apply Kd.V_drew));exact O0.out):P:=h
theorem mAD (h:P:=by(with_reducible repeat (first|apply Kd.N_alloc|apply Kd.N_drewN|apply Kd.N_drew));exact O3.out):P:=h
theorem mAE (h:P:=by decide):P:=h
theorem mAF (h:P:=by rw[hw];exact(by(with_reducible repeat (first|refine blk_drewN ?_ _|refine blk_drew ?_ |refine blk_alloc ?_ _));refine blk_far ?_ Na.out _;(with_reducible repeat (first|refine blk_drewN ?_ _|refine blk_drew ?_ |refine blk_alloc ?_ _));refine blk_far ?_ Na.out _;(with_reducible repeat (first|refine blk_drewN ?_ _|refine blk_drew ?_ |refine blk_alloc ?_ _));refine blk_far ?_ Na.out _;(with_reducible repeat (first|refine blk_drewN ?_ _|refine blk_drew ?_ |refine blk_alloc ?_ _));refine blk_far ?_ Na.out _;(with_reducible repeat (first|refine blk_drewN ?_ _|refine blk_drew ?_ |refine blk_alloc ?_ _));exact B2.out)):P:=h
theorem mAG (h:P:=by rw[hw];exact(by(with_reducible repeat (first|refine blk_drewN ?_ _|refine blk_drew ?_ |refine blk_alloc ?_ _));refine blk_far ?_ N8.out _;(with_reducible repeat (first|refine blk_drewN ?_ _|refine blk_drew ?_ |refine blk_alloc ?_ _));refine blk_far ?_ N8.out _;(with_reducible repeat (first|refine blk_drewN ?_ _|refine blk_drew ?_ |refine blk_alloc ?_ _));refine blk_far ?_ N8.out _;(with_reducible repeat (first|refine blk_drewN ?_ _|refine blk_drew ?_ |refine blk_alloc ?_ _));refine blk_far ?_ N8.out _;(with_reducible repeat (first|refine blk_drewN ?_ _|refine blk_drew ?_ |refine blk_alloc ?_ _));exact B1.out)):P:=h
theorem mAH (h:P:=by rw[hw];exact(by(with_reducible repeat (first|refine blk_drewN ?_ _|refine blk_drew ?_ |refine blk_alloc ?_ _));refine blk_far ?_ N6.out _;(with_reducible repeat (first|refine blk_drewN ?_ _|refine blk_drew ?_ |refine blk_alloc ?_ _));refine blk_far ?_ N6.out _;(with_reducible repeat (first|refine blk_drewN ?_ _|refine blk_drew ?_ |refine blk_alloc ?_ _));refine blk_far ?_ N6.out _;(with_reducible repeat (first|refine blk_drewN ?_ _|refine blk_drew ?_ |refine blk_alloc ?_ _));refine blk_far ?_ N6.out _;(with_reducible repeat (first|refine blk_drewN ?_ _|refine blk_drew ?_ |refine blk_alloc ?_ _));exact B0.out)):P:=h
theorem mAI (h:P:=by kernel_rfl):P:=h
theorem mAJ (h:P:=by(with_reducible repeat (first|apply Kd.R_alloc|apply Kd.R_drewN|apply Kd.R_drew));exact O1.out):P:=h
theorem mAK (h:P:=by(with_reducible repeat (first|refine blk_drewN ?_ _|refine blk_drew ?_ |refine blk_alloc ?_ _));exact B3.out):P:=h
theorem mAL (h:P:=by rw[hw];exact(by(with_reducible repeat (first|refine blk_drewN ?_ _|refine blk_drew ?_ |refine blk_alloc ?_ _));refine blk_put (cs:=#[.int .i64 ((rd_T32 t1 x2).f0),.int .i64 ((rd_T32 t1 x2).f1),.int .i64 ((rd_T32 t1 x2).f2),.slice none 0 0]) ?_ 3 _ rfl;(with_reducible repeat (first|refine blk_drewN ?_ _|refine blk_drew ?_ |refine blk_alloc ?_ _));refine blk_put (cs:=#[.int .i64 ((rd_T32 t1 x2).f0),.int .i64 ((rd_T32 t1 x2).f1),.int .i64 0,.slice none 0 0]) ?_ 2 _ rfl;(with_reducible repeat (first|refine blk_drewN ?_ _|refine blk_drew ?_ |refine blk_alloc ?_ _));refine blk_put (cs:=#[.int .i64 ((rd_T32 t1 x2).f0),.int .i64 0,.int .i64 0,.slice none 0 0]) ?_ 1 _ rfl;(with_reducible repeat (first|refine blk_drewN ?_ _|refine blk_drew ?_ |refine blk_alloc ?_ _));refine blk_put (cs:=#[.int .i64 0,.int .i64 0,.int .i64 0,.slice none 0 0]) ?_ 0 _ rfl;(with_reducible repeat (first|refine blk_drewN ?_ _|refine blk_drew ?_ |refine blk_alloc ?_ _));exact B0.out)):P:=h
theorem mAM (h:P:=by rw[hw];exact(by(with_reducible repeat (first|refine blk_drewN ?_ _|refine blk_drew ?_ |refine blk_alloc ?_ _));refine blk_put (cs:=#[.int .i64 a0_0,.int .i64 a0_1,.int .i64 a0_2,.slice none 0 0]) ?_ 3 _ rfl;(with_reducible repeat (first|refine blk_drewN ?_ _|refine blk_drew ?_ |refine blk_alloc ?_ _));refine blk_put (cs:=#[.int .i64 a0_0,.int .i64 a0_1,.int .i64 0,.slice none 0 0]) ?_ 2 _ rfl;(with_reducible repeat (first|refine blk_drewN ?_ _|refine blk_drew ?_ |refine blk_alloc ?_ _));refine blk_put (cs:=#[.int .i64 a0_0,.int .i64 0,.int .i64 0,.slice none 0 0]) ?_ 1 _ rfl;(with_reducible repeat (first|refine blk_drewN ?_ _|refine blk_drew ?_ |refine blk_alloc ?_ _));refine blk_put (cs:=#[.int .i64 0,.int .i64 0,.int .i64 0,.slice none 0 0]) ?_ 0 _ rfl;(with_reducible repeat (first|refine blk_drewN ?_ _|refine blk_drew ?_ |refine blk_alloc ?_ _));exact B1.out)):P:=h
theorem mAN (h:P:=by(with_reducible repeat (first|apply Kd.R_alloc|apply Kd.R_drewN|apply Kd.R_drew));exact O7.out):P:=h
theorem mAO (h:P:=by rw[hw];exact(by(with_reducible repeat (first|refine blk_drewN ?_ _|refine blk_drew ?_ |refine blk_alloc ?_ _));refine blk_put (cs:=#[.int .i64 t1,.int .i64 t2,.int .i64 t3,.slice none 0 0]) ?_ 3 _ rfl;(with_reducible repeat (first|refine blk_drewN ?_ _|refine blk_drew ?_ |refine blk_alloc ?_ _));refine blk_put (cs:=#[.int .i64 t1,.int .i64 t2,.int .i64 0,.slice none 0 0]) ?_ 2 _ rfl;(with_reducible repeat (first|refine blk_drewN ?_ _|refine blk_drew ?_ |refine blk_alloc ?_ _));refine blk_put (cs:=#[.int .i64 t1,.int .i64 0,.int .i64 0,.slice none 0 0]) ?_ 1 _ rfl;(with_reducible repeat (first|refine blk_drewN ?_ _|refine blk_drew ?_ |refine blk_alloc ?_ _));refine blk_put (cs:=#[.int .i64 0,.int .i64 0,.int .i64 0,.slice none 0 0]) ?_ 0 _ rfl;(with_reducible repeat (first|refine blk_drewN ?_ _|refine blk_drew ?_ |refine blk_alloc ?_ _));exact B0.out)):P:=h
theorem mAP (h:P:=by rw[hw];exact(by(with_reducible repeat (first|refine blk_drewN ?_ _|refine blk_drew ?_ |refine blk_alloc ?_ _));refine blk_put (cs:=#[.int .i64 t5,.int .i64 t6,.int .i64 t7,.int .i64 0]) ?_ 3 _ rfl;(with_reducible repeat (first|refine blk_drewN ?_ _|refine blk_drew ?_ |refine blk_alloc ?_ _));refine blk_put (cs:=#[.int .i64 t5,.int .i64 t6,.int .i64 0,.int .i64 0]) ?_ 2 _ rfl;(with_reducible repeat (first|refine blk_drewN ?_ _|refine blk_drew ?_ |refine blk_alloc ?_ _));refine blk_put (cs:=#[.int .i64 t5,.int .i64 0,.int .i64 0,.int .i64 0]) ?_ 1 _ rfl;(with_reducible repeat (first|refine blk_drewN ?_ _|refine blk_drew ?_ |refine blk_alloc ?_ _));refine blk_put (cs:=#[.int .i64 0,.int .i64 0,.int .i64 0,.int .i64 0]) ?_ 0 _ rfl;(with_reducible repeat (first|refine blk_drewN ?_ _|refine blk_drew ?_ |refine blk_alloc ?_ _));exact B3.out)):P:=h
theorem mAQ (h:P:=by rw[hw];exact(by(with_reducible repeat (first|refine blk_drewN ?_ _|refine blk_drew ?_ |refine blk_alloc ?_ _));refine blk_put (cs:=#[.int .i64 t0,.int .i64 t1,.int .i64 t2,.int .i64 0]) ?_ 3 _ rfl;(with_reducible repeat (first|refine blk_drewN ?_ _|refine blk_drew ?_ |refine blk_alloc ?_ _));refine blk_put (cs:=#[.int .i64 t0,.int .i64 t1,.int .i64 0,.int .i64 0]) ?_ 2 _ rfl;(with_reducible repeat (first|refine blk_drewN ?_ _|refine blk_drew ?_ |refine blk_alloc ?_ _));refine blk_put (cs:=#[.int .i64 t0,.int .i64 0,.int .i64 0,.int .i64 0]) ?_ 1 _ rfl;(with_reducible repeat (first|refine blk_drewN ?_ _|refine blk_drew ?_ |refine blk_alloc ?_ _));refine blk_put (cs:=#[.int .i64 0,.int .i64 0,.int .i64 0,.int .i64 0]) ?_ 0 _ rfl;(with_reducible repeat (first|refine blk_drewN ?_ _|refine blk_drew ?_ |refine blk_alloc ?_ _));exact B2.out)):P:=h
theorem mAR (h:P:=by rw[hw];exact(by(with_reducible repeat (first|refine blk_drewN ?_ _|refine blk_drew ?_ |refine blk_alloc ?_ _));refine blk_put (cs:=#[.int .i64 0,.int .i64 0,.int .i64 0,.int .i64 0]) ?_ 3 _ rfl;(with_reducible repeat (first|refine blk_drewN ?_ _|refine blk_drew ?_ |refine blk_alloc ?_ _));refine blk_put (cs:=#[.int .i64 0,.int .i64 0,.int .i64 0,.int .i64 0]) ?_ 2 _ rfl;(with_reducible repeat (first|refine blk_drewN ?_ _|refine blk_drew ?_ |refine blk_alloc ?_ _));refine blk_put (cs:=#[.int .i64 0,.int .i64 0,.int .i64 0,.int .i64 0]) ?_ 1 _ rfl;(with_reducible repeat (first|refine blk_drewN ?_ _|refine blk_drew ?_ |refine blk_alloc ?_ _));refine blk_put (cs:=#[.int .i64 0,.int .i64 0,.int .i64 0,.int .i64 0]) ?_ 0 _ rfl;(with_reducible repeat (first|refine blk_drewN ?_ _|refine blk_drew ?_ |refine blk_alloc ?_ _));exact B1.out)):P:=h
theorem mAS (h:P:=by(with_reducible repeat (first|refine blk_drewN ?_ _|refine blk_drew ?_ |refine blk_alloc ?_ _));refine blk_put (cs:=#[.int .i64 a0_0,.int .i64 a0_1,.int .i64 a0_2,.int .i64 0]) ?_ 3 _ rfl;(with_reducible repeat (first|refine blk_drewN ?_ _|refine blk_drew ?_ |refine blk_alloc ?_ _));refine blk_put (cs:=#[.int .i64 a0_0,.int .i64 a0_1,.int .i64 0,.int .i64 0]) ?_ 2 _ rfl;(with_reducible repeat (first|refine blk_drewN ?_ _|refine blk_drew ?_ |refine blk_alloc ?_ _));refine blk_put (cs:=#[.int .i64 a0_0,.int .i64 0,.int .i64 0,.int .i64 0]) ?_ 1 _ rfl;(with_reducible repeat (first|refine blk_drewN ?_ _|refine blk_drew ?_ |refine blk_alloc ?_ _));refine blk_put (cs:=#[.int .i64 0,.int .i64 0,.int .i64 0,.int .i64 0]) ?_ 0 _ rfl;(with_reducible repeat (first|refine blk_drewN ?_ _|refine blk_drew ?_ |refine blk_alloc ?_ _));exact B1.out):P:=h
theorem mAT (h:P:=by(with_reducible repeat (first|apply Kd.N_alloc|apply Kd.N_drewN|apply Kd.N_drew));exact O6.out):P:=h
theorem mAU (h:P:=by repeat (first|(with_reducible first|exact HB.out|apply below_alloc|apply pw_below_drewN|apply below_drew1|refine below_set ?_ G0.out)|exact HB.out)):P:=h
theorem mAV (h:P:=by(with_reducible repeat (first|apply Kd.R_alloc|apply Kd.R_drewN|apply Kd.R_drew));exact O6.out):P:=h
theorem mAW (h:P:=by(with_reducible repeat (first|apply Kd.N_alloc|apply Kd.N_drewN|apply Kd.N_drew));exact O8.out):P:=h
theorem mAX (h:P:=by rw[hw];exact(by(with_reducible repeat (first|apply Kd.N_alloc|apply Kd.N_drewN|apply Kd.N_drew));exact Kd.N_mono (Kd.N_far (p:=⟨g0,3,none⟩) (Kd.N_far (p:=⟨g0,2,none⟩) (Kd.N_far (p:=⟨g0,1,none⟩) (Kd.N_far (p:=⟨g0,0,none⟩) (Kd.N_mono HL263_3.out (λk_ hk=>(⟨hk,hk.2⟩:_/\k_≠g0))) (λ_ hk=>hk.2) (.int .i64 ((rd_T32 t1 x2).f0))) (λ_ hk=>hk.2) (.int .i64 ((rd_T32 t1 x2).f1))) (λ_ hk=>hk.2) (.int .i64 ((rd_T32 t1 x2).f2))) (λ_ hk=>hk.2) (.slice A7 ((rd_T32 t1 x2).f3).length s3)) (λ_ hk=>⟨hk.1.1.1.1,⟨hk.1.1.1.2.1,⟨hk.1.1.1.2.2,⟨hk.1.1.2,hk.1.2⟩⟩⟩⟩))):P:=h
theorem mAY (h:P:=by simp):P:=h
theorem mAZ (h:P:=by rw[hw];exact(by(with_reducible repeat (first|apply Kd.N_alloc|apply Kd.N_drewN|apply Kd.N_drew));exact Kd.N_mono (Kd.N_far (p:=⟨g0,3,none⟩) (Kd.N_far (p:=⟨g0,2,none⟩) (Kd.N_far (p:=⟨g0,1,none⟩) (Kd.N_far (p:=⟨g0,0,none⟩) (Kd.N_mono O4.out (λk_ hk=>(⟨hk,hk.2⟩:_/\k_≠g0))) (λ_ hk=>hk.2) (.int .i64 ((rd_T32 t1 x2).f0))) (λ_ hk=>hk.2) (.int .i64 ((rd_T32 t1 x2).f1))) (λ_ hk=>hk.2) (.int .i64 ((rd_T32 t1 x2).f2))) (λ_ hk=>hk.2) (.slice A7 ((rd_T32 t1 x2).f3).length s3)) (λ_ hk=>⟨hk.1.1.1,⟨hk.1.1.2.1,⟨hk.1.1.2.2,hk.1.2⟩⟩⟩))):P:=h
theorem mBA (h:P:=by rw[hw];exact(by(with_reducible repeat (first|apply Kd.N_alloc|apply Kd.N_drewN|apply Kd.N_drew));exact Kd.N_mono (Kd.N_far (p:=⟨g0,3,none⟩) (Kd.N_far (p:=⟨g0,2,none⟩) (Kd.N_far (p:=⟨g0,1,none⟩) (Kd.N_far (p:=⟨g0,0,none⟩) (Kd.N_mono O2.out (λk_ hk=>(⟨hk,hk.2⟩:_/\k_≠g0))) (λ_ hk=>hk.2) (.int .i64 ((rd_T32 t1 x2).f0))) (λ_ hk=>hk.2) (.int .i64 ((rd_T32 t1 x2).f1))) (λ_ hk=>hk.2) (.int .i64 ((rd_T32 t1 x2).f2))) (λ_ hk=>hk.2) (.slice A7 ((rd_T32 t1 x2).f3).length s3)) (λ_ hk=>⟨hk.1.1.1,⟨hk.1.1.2.1,⟨hk.1.1.2.2,hk.1.2⟩⟩⟩))):P:=h
theorem mBB (h:P:=by repeat (first|(with_reducible exact R0.out)|(with_reducible refine Kd.C_alloc ?_ _)|(with_reducible refine Kd.C_drewN ?_ _)|(with_reducible refine Kd.C_drew ?_)|exact R0.out)):P:=h
theorem mBC (h:P:=by rw[HT.out];decide):P:=h
theorem mBD (h:P:=by rw[hw];exact(by(with_reducible repeat (first|refine blk_drewN ?_ _|refine blk_drew ?_ |refine blk_alloc ?_ _));refine blk_far ?_ N0.out _;(with_reducible repeat (first|refine blk_drewN ?_ _|refine blk_drew ?_ |refine blk_alloc ?_ _));exact B0.out)):P:=h
theorem mBE (h:P:=by rw[hw];exact(by(with_reducible repeat (first|apply Kd.R_alloc|apply Kd.R_drewN|apply Kd.R_drew));exact Kd.R_mono (Kd.R_far (p:=⟨g0,3,none⟩) (Kd.R_far (p:=⟨g0,2,none⟩) (Kd.R_far (p:=⟨g0,1,none⟩) (Kd.R_far (p:=⟨g0,0,none⟩) (Kd.R_types O3.out B0.out mAE) (λ_ hk=>hk.2) (.int .i64 ((rd_T32 t1 x2).f0))) (λ_ hk=>hk.2) (.int .i64 ((rd_T32 t1 x2).f1))) (λ_ hk=>hk.2) (.int .i64 ((rd_T32 t1 x2).f2))) (λ_ hk=>hk.2) (.slice A7 ((rd_T32 t1 x2).f3).length s3)) (λ_ hk=>hk.1))):P:=h
theorem mBF (h:P:=by rw[hw];exact mB):P:=h
theorem mBG (h:P:=by rw[hw];exact(by(with_reducible repeat (first|apply Kd.R_alloc|apply Kd.R_drewN|apply Kd.R_drew));exact Kd.R_mono (Kd.R_far (p:=⟨g1,3,none⟩) (Kd.R_far (p:=⟨g1,2,none⟩) (Kd.R_far (p:=⟨g1,1,none⟩) (Kd.R_far (p:=⟨g1,0,none⟩) (Kd.R_types O1.out B1.out mAE) (λ_ hk=>hk.2) (.int .i64 a0_0)) (λ_ hk=>hk.2) (.int .i64 a0_1)) (λ_ hk=>hk.2) (.int .i64 a0_2)) (λ_ hk=>hk.2) (.slice s0 y1.length s1)) (λ_ hk=>trivial))):P:=h
theorem mBH (h:P:=by(with_reducible repeat (first|apply Kd.R_alloc|apply Kd.R_drewN|apply Kd.R_drew));exact O8.out):P:=h
theorem mBI (h:P:=by(with_reducible repeat (first|apply Kd.N_alloc|apply Kd.N_drewN|apply Kd.N_drew));exact O9.out):P:=h
theorem mBJ (h:P:=by(with_reducible repeat (first|apply Kd.N_alloc|apply Kd.N_drewN|apply Kd.N_drew));exact O7.out):P:=h
theorem mBK (h:P:=by(with_reducible repeat (first|apply Kd.N_alloc|apply Kd.N_drewN|apply Kd.N_drew));exact O0.out):P:=h
theorem mBL (h:P:=by rw[hw];exact(by(with_reducible repeat (first|refine blk_drewN ?_ _|refine blk_drew ?_ |refine blk_alloc ?_ _));refine blk_put (cs:=#[.int .i64 ((rd_T32 t1 x2).f0),.int .i64 ((rd_T32 t1 x2).f1),.int .i64 ((rd_T32 t1 x2).f2),.slice A7 ((rd_T32 t1 x2).f3).length s3]) ?_ 2 _ rfl;(with_reducible repeat (first|refine blk_drewN ?_ _|refine blk_drew ?_ |refine blk_alloc ?_ _));exact B0.out)):P:=h
theorem mBM (h:P:=by repeat (first|(with_reducible first|exact HB.out|apply below_alloc|apply pw_below_drewN|apply below_drew1|refine below_set ?_ G0.out|refine below_set ?_ G2.out)|exact HB.out)):P:=h
theorem mBN (h:P:=by rw[hw];exact(by(with_reducible repeat (first|apply Kd.N_alloc|apply Kd.N_drewN|apply Kd.N_drew));exact Kd.N_mono (Kd.N_far (p:=⟨g0,2,none⟩) (Kd.N_mono HL263_3.out (λk_ hk=>(⟨hk,hk.2.2.2.2⟩:_/\k_≠g0))) (λ_ hk=>hk.2) (.int .i64 (wrap64 (((rd_T32 t1 x2).f2)+1)))) (λ_ hk=>⟨hk.1.1,⟨hk.1.2.1,⟨hk.1.2.2.1,⟨hk.1.2.2.2.1,hk.1.2.2.2.2⟩⟩⟩⟩))):P:=h
theorem mBO (h:P:=by rw[hw];exact(by(with_reducible repeat (first|refine blk_drewN ?_ _|refine blk_drew ?_ |refine blk_alloc ?_ _));refine blk_put (cs:=#[.int .i64 a1_0,.int .i64 a1_1,.int .i64 a1_2,.slice A1_3 l1_3.length c1_3]) ?_ 3 _ rfl;(with_reducible repeat (first|refine blk_drewN ?_ _|refine blk_drew ?_ |refine blk_alloc ?_ _));exact B0.out)):P:=h
theorem mBP (h:P:=by rw[hw];exact(by(with_reducible repeat (first|refine blk_drewN ?_ _|refine blk_drew ?_ |refine blk_alloc ?_ _));refine blk_put (cs:=#[.int .i64 a0_0,.int .i64 a0_1,.int .i64 a0_2,.slice A0_3 l0_3.length c0_3]) ?_ 3 _ rfl;(with_reducible repeat (first|refine blk_drewN ?_ _|refine blk_drew ?_ |refine blk_alloc ?_ _));exact B0.out)):P:=h
theorem mBQ (h:P:=by rw[hw];exact(by(with_reducible repeat (first|apply Kd.N_alloc|apply Kd.N_drewN|apply Kd.N_drew));exact Kd.N_mono (Kd.N_far (p:=⟨g0,2,none⟩) (Kd.N_mono O4.out (λk_ hk=>(⟨hk,hk.2.2.2⟩:_/\k_≠g0))) (λ_ hk=>hk.2) (.int .i64 (wrap64 (((rd_T32 t1 x2).f2)+1)))) (λ_ hk=>⟨hk.1.1,⟨hk.1.2.1,⟨hk.1.2.2.1,hk.1.2.2.2⟩⟩⟩))):P:=h
theorem mBR (h:P:=by rw[hw];exact(by(with_reducible repeat (first|apply Kd.N_alloc|apply Kd.N_drewN|apply Kd.N_drew));exact Kd.N_mono (Kd.N_far (p:=⟨g0,2,none⟩) (Kd.N_mono O2.out (λk_ hk=>(⟨hk,hk.2.2.2⟩:_/\k_≠g0))) (λ_ hk=>hk.2) (.int .i64 (wrap64 (((rd_T32 t1 x2).f2)+1)))) (λ_ hk=>⟨hk.1.1,⟨hk.1.2.1,⟨hk.1.2.2.1,hk.1.2.2.2⟩⟩⟩))):P:=h
theorem mBS (h:P:=by rw[hg];exact Nat.ne_of_lt (blk_lt (g:=g0) (o:= .cells #[.int .i64 a1_0,.int .i64 a1_1,.int .i64 a1_2,.slice A1_3 l1_3.length c1_3] 32 (0,0)) mC)):P:=h
theorem mBT (h:P:=by rw[hg];exact Nat.ne_of_gt (blk_lt (g:=g0) (o:= .cells #[.int .i64 a1_0,.int .i64 a1_1,.int .i64 a1_2,.slice A1_3 l1_3.length c1_3] 32 (0,0)) mC)):P:=h
theorem mBU (h:P:=by(with_reducible repeat (first|apply Kd.S_alloc|apply Kd.S_drewN|apply Kd.S_drew));exact Kd.S_mono O0.out (λk_ hk=>⟨trivial,λe_=>hk.2 e_⟩)):P:=h
theorem mBV (h:P:=by(with_reducible repeat (first|apply Kd.S_alloc|apply Kd.S_drewN|apply Kd.S_drew));exact Kd.S_mono O2.out (λk_ hk=>⟨hk.1,λe_=>hk.2 e_⟩)):P:=h
theorem mBW (h:P:=by rw[hw];exact(by(with_reducible repeat (first|apply Kd.S_alloc|apply Kd.S_drewN|apply Kd.S_drew));exact Kd.S_mono (Kd.S_far (p:=⟨g0,2,none⟩) (Kd.S_mono O0.out (λk_ hk=>(⟨hk,hk.2⟩:_/\k_≠g0))) (λ_ hk=>hk.2) (.int .i64 (wrap64 (t3+1)))) (λ_ hk=>⟨hk.1.1,hk.1.2⟩))):P:=h
theorem mBX (h:P:=by omega):P:=h
theorem mBY (h:P:=by rw[hw];exact(by(with_reducible repeat (first|apply Kd.R_alloc|apply Kd.R_drewN|apply Kd.R_drew));exact Kd.R_mono (Kd.R_far (p:=⟨g0,2,none⟩) (Kd.R_types O3.out B0.out mAE) (λ_ hk=>hk.2) (.int .i64 (wrap64 (((rd_T32 t1 x2).f2)+1)))) (λ_ hk=>hk.1))):P:=h
theorem mBZ (h:P:=by rw[hw];exact(by(with_reducible repeat (first|refine blk_drewN ?_ _|refine blk_drew ?_ |refine blk_alloc ?_ _));refine blk_far ?_ N1.out _;(with_reducible repeat (first|refine blk_drewN ?_ _|refine blk_drew ?_ |refine blk_alloc ?_ _));exact B1.out)):P:=h
theorem mCA (h:P:=by simp[watchwordlaw18_Stores.j0]):P:=h
theorem mCB (h:P:=by rw[hw];exact(by(with_reducible repeat (first|apply Kd.R_alloc|apply Kd.R_drewN|apply Kd.R_drew));exact Kd.R_mono (Kd.R_far (p:=⟨g0,2,none⟩) (Kd.R_types O2.out B0.out mAE) (λ_ hk=>hk.2) (.int .i64 (wrap64 (t3+1)))) (λ_ hk=>trivial))):P:=h
theorem mCC (h:P:=by rw[hw];exact(by(with_reducible repeat (first|apply Kd.R_alloc|apply Kd.R_drewN|apply Kd.R_drew));exact Kd.R_mono (Kd.R_far (p:=⟨g0,2,none⟩) (Kd.R_types O1.out B0.out mAE) (λ_ hk=>hk.2) (.int .i64 (wrap64 (t3+1)))) (λ_ hk=>trivial))):P:=h
theorem mCD (h:P:=by rw[hw];exact(by(with_reducible repeat (first|apply Kd.R_alloc|apply Kd.R_drewN|apply Kd.R_drew));exact Kd.R_mono (Kd.R_far (p:=⟨g0,3,none⟩) (Kd.R_types O1.out B0.out mAE) (λ_ hk=>hk.2) (.slice s0 y1.length s1)) (λ_ hk=>trivial))):P:=h
theorem mCE (h:P:=by rw[hg];exact(below_size mD)):P:=h
theorem mCF (h:P:=by rw[hw];exact mD):P:=h
theorem mCG (h:P:=by(with_reducible repeat (first|apply Kd.V_alloc|apply Kd.V_drewN|apply Kd.V_drew));exact O1.out):P:=h
theorem mCH (h:P:=by(with_reducible repeat (first|apply Kd.S_alloc|apply Kd.S_drewN|apply Kd.S_drew));exact O2.out):P:=h
theorem mCI (h:P:=by(with_reducible repeat (first|apply Kd.R_alloc|apply Kd.R_drewN|apply Kd.R_drew));exact O2.out):P:=h
theorem mCJ (h:P:=by(with_reducible repeat (first|apply Kd.N_alloc|apply Kd.N_drewN|apply Kd.N_drew));exact O4.out):P:=h
theorem mCK (h:P:=by simp only[putAll,Act.put,List.setIfInBounds_toArray,List.set_cons_zero,List.set_cons_succ]):P:=h
theorem mCL (h:P:=by repeat (first|(with_reducible exact R1.out)|(with_reducible refine Kd.C_alloc ?_ _)|(with_reducible refine Kd.C_drewN ?_ _)|(with_reducible refine Kd.C_drew ?_)|exact R1.out)):P:=h
theorem mCM (h:P:=by injection e1):P:=h
theorem mCN (h:P:=by(with_reducible repeat (first|apply Kd.V_alloc|apply Kd.V_drewN|apply Kd.V_drew));exact Kd.V_mono O0.out (λ_ hk=>⟨⟨hk.1,⟨hk.2.2.1,hk.2.2.2⟩⟩,hk.2.1⟩)):P:=h
theorem mCO (h:P:=by rw[hg];exact Nat.ne_of_lt (blk_lt (g:=g1) (o:= .cells #[.int .i64 a1_0,.int .i64 a1_1,.int .i64 a1_2,.slice A1_3 l1_3.length c1_3] 32 (0,0)) mE)):P:=h
theorem mCP (h:P:=by rw[hg];exact Nat.ne_of_lt (blk_lt (g:=g1) (o:= .cells #[.int .i64 a1_0,.int .i64 a1_1,.int .i64 a1_2,.slice A1_3 l1_3.length c1_3] 32 (0,0)) mE)):P:=h
theorem mCQ (h:P:=by rw[hg];exact Nat.ne_of_lt (blk_lt (g:=g0) (o:= .cells #[.int .i64 a0_0,.int .i64 a0_1,.int .i64 a0_2,.slice A0_3 l0_3.length c0_3] 32 (0,0)) mC)):P:=h
theorem mCR (h:P:=by rw[hg];exact Nat.ne_of_lt (blk_lt (g:=g0) (o:= .cells #[.int .i64 a0_0,.int .i64 a0_1,.int .i64 a0_2,.slice A0_3 l0_3.length c0_3] 32 (0,0)) mC)):P:=h
theorem mCS (h:P:=by rw[hg];exact Nat.ne_of_gt (blk_lt (g:=g1) (o:= .cells #[.int .i64 a1_0,.int .i64 a1_1,.int .i64 a1_2,.slice A1_3 l1_3.length c1_3] 32 (0,0)) mE)):P:=h
theorem mCT (h:P:=by rw[hg];exact Nat.ne_of_gt (blk_lt (g:=g1) (o:= .cells #[.int .i64 a1_0,.int .i64 a1_1,.int .i64 a1_2,.slice A1_3 l1_3.length c1_3] 32 (0,0)) mE)):P:=h
theorem mCU (h:P:=by rw[hg];exact Nat.ne_of_gt (blk_lt (g:=g0) (o:= .cells #[.int .i64 a0_0,.int .i64 a0_1,.int .i64 a0_2,.slice A0_3 l0_3.length c0_3] 32 (0,0)) mC)):P:=h
theorem mCV (h:P:=by rw[hg];exact Nat.ne_of_gt (blk_lt (g:=g0) (o:= .cells #[.int .i64 a0_0,.int .i64 a0_1,.int .i64 a0_2,.slice A0_3 l0_3.length c0_3] 32 (0,0)) mC)):P:=h
theorem mCW (h:P:=by(try simp only[List.map_toArray,List.map_cons,List.map_nil]);first|done|(simp only[j1];rfl)|rfl|(simp only[List.length_drop,List.length_take];rfl)):P:=h
theorem mCX (h:P:=by have h_:(t3:Int)<((t213.length:Int):Int):=of_decide_eq_true mF;first|exact h_|(have e_:=(Kd.N_reads' O1.out).1;omega)|simpa using h_):P:=h
theorem mCY (h:P:=by have h_:(x3:Int)<((x1.length:Int):Int):=of_decide_eq_true mF;first|exact h_|(have e_:=(Kd.R_reads' O1.out).1;omega)|simpa using h_):P:=h
theorem mCZ (h:P:=by have h_:(x1:Int)<((x0.length:Int):Int):=of_decide_eq_true mF;first|exact h_|(have e_:=(Kd.N_reads' O2.out).1;omega)|simpa using h_):P:=h
theorem mDA (h:P:=by have h_:(t3:Int)<((t1.length:Int):Int):=of_decide_eq_true mF;first|exact h_|(have e_:=(Kd.N_reads' O1.out).1;omega)|simpa using h_):P:=h
theorem mDB (h:P:=by rw[hg];exact(below_size mG)):P:=h
theorem mDC (h:P:=by have h_:(0:Int)<((t0.length:Int):Int):=of_decide_eq_true mF;first|exact h_|(have e_:=(Kd.N_reads' O5.out).1;omega)|simpa using h_):P:=h
theorem mDD (h:P:=by(with_reducible repeat (first|apply Kd.N_alloc|apply Kd.N_drewN|apply Kd.N_drew));exact Kd.N_mono O0.out (λ_ hk=>⟨hk.2,⟨hk.1.1,hk.1.2⟩⟩)):P:=h
theorem mDE (h:P:=by rw[hg];exact Nat.ne_of_lt (blk_lt (g:=g0) (o:= .cells #[.int .i64 a0_0,.int .i64 a0_1,.int .i64 a0_2,.int .i64 a0_3] 73 (0,0)) mC)):P:=h
theorem mDF (h:P:=by rw[hg];exact Nat.ne_of_gt (blk_lt (g:=g0) (o:= .cells #[.int .i64 a0_0,.int .i64 a0_1,.int .i64 a0_2,.int .i64 a0_3] 73 (0,0)) mC)):P:=h
theorem mDG (h:P:=by rw[hg];exact Nat.ne_of_lt (blk_lt (g:=g2) (o:= .cells #[.int .i64 t0,.int .i64 t1,.int .i64 t2,.int .i64 t3] 73 (0,0)) mK)):P:=h
theorem mDH (h:P:=by rw[hg];exact Nat.ne_of_gt (blk_lt (g:=g2) (o:= .cells #[.int .i64 t0,.int .i64 t1,.int .i64 t2,.int .i64 t3] 73 (0,0)) mK)):P:=h
theorem mDI (h:P:=by(with_reducible repeat (first|apply Kd.N_alloc|apply Kd.N_drewN|apply Kd.N_drew));exact Kd.N_mono O1.out (λ_ hk=>⟨hk.1,hk.2.2⟩)):P:=h
theorem mDJ (h:P:=by(try simp only[List.map_toArray,List.map_cons,List.map_nil]);first|done|rfl|(simp only[List.length_drop,List.length_take];rfl)):P:=h
theorem mDK (h:P:=by rw[hw];exact below_set (below_set (below_set (below_set (HB.out) GB9.out) GB9.out) GB9.out) GB9.out):P:=h
theorem mDL (h:P:=by injection e2):P:=h
theorem mDM (h:P:=by(with_reducible repeat (first|apply Kd.N_alloc|apply Kd.N_drewN|apply Kd.N_drew));exact HL263_3.out):P:=h
theorem mDN (h:P:=by first|rfl|(simp;done)|(simp only[<-j1] <;> (first|rfl|simp))|(simp[*];done)):P:=h
theorem mDO (h:P:=by first|exact q0|exact of_decide_eq_true mF|(have e_:=(Kd.N_reads' O4.out).1;omega)):P:=h
theorem mDP (h:P:=by first|exact q0|exact of_decide_eq_true mF|(have e_:=(Kd.N_reads' O2.out).1;omega)):P:=h
theorem mDQ (h:P:=by(with_reducible repeat (first|apply SPR_drewN|apply SPR_drew));exact HSq.out):P:=h
theorem mDR (h:P:=by have h_:=c6;simp only[ByteArray.size_append]at h_;omega):P:=h
end Go.Proofs.Ytbpoflicphgokaa.Stp
namespace Go.Proofs.YtbpoflicphgokaaW.PrintWords
open Go.RowKit
set_option linter.unusedVariables false
set_option linter.unusedSimpArgs false
def ix4 {α:Type} (a b c d:α) (i:Int):α:=if i=0 then a else if i=1 then b else if i=2 then c else d
def ix5 {α:Type} (a b c d e:α) (i:Int):α:=if i=0 then a else if i=1 then b else if i=2 then c else if i=3 then d else e
def up {α:Type} (p:Bool) (v c:α):α:=if p then v else c
theorem up_in {α β:Type} (f:α->β) (p:Bool) (v c:α):f (up p v c)=up p (f v) (f c):=by cases p <;> rfl
section
variable {α : Type} (f : α → Value)
theorem ix_4 (a b c d:α) (i:Int) (h0:0<=i) (h1:i<4):#[f a,f b,f c,f d][i.toNat]? =some (f (ix4 a b c d i)):=by
  obtain rfl|rfl|rfl|rfl:i=0\/i=1\/i=2\/i=3:=by omega
  all_goals rfl
theorem ix_5 (a b c d e:α) (i:Int) (h0:0<=i) (h1:i<5):#[f a,f b,f c,f d,f e][i.toNat]? =some (f (ix5 a b c d e i)):=by
  obtain rfl|rfl|rfl|rfl|rfl:i=0\/i=1\/i=2\/i=3\/i=4:=by omega
  all_goals rfl
variable (c0 c1 c2 c3 c4 c5 c6 c7 c8 c9 c10 c11 c12 c13 c14 c15 : α)
theorem ix_44 (i j:Int) (h0:0<=i) (h1:i<4) (k0:0<=j) (k1:j<4):#[f c0,f c1,f c2,f c3,f c4,f c5,f c6,f c7,f c8,f c9,f c10,f c11,f c12,f c13,f c14,f c15][i.toNat*4+j.toNat]? =
    some (f (ix4 (ix4 c0 c1 c2 c3 j) (ix4 c4 c5 c6 c7 j) (ix4 c8 c9 c10 c11 j) (ix4 c12 c13 c14 c15 j) i)):=by
  obtain rfl|rfl|rfl|rfl:i=0\/i=1\/i=2\/i=3:=by omega
  all_goals (obtain rfl|rfl|rfl|rfl:j=0\/j=1\/j=2\/j=3:=by omega)
  all_goals rfl
theorem ix_40 (i:Int) (h0:0<=i) (h1:i<4):#[f c0,f c1,f c2,f c3,f c4,f c5,f c6,f c7,f c8,f c9,f c10,f c11,f c12,f c13,f c14,f c15][i.toNat*4]? =some (f (ix4 c0 c4 c8 c12 i)):=by
  obtain rfl|rfl|rfl|rfl:i=0\/i=1\/i=2\/i=3:=by omega
  all_goals rfl
theorem ix_41 (i:Int) (h0:0<=i) (h1:i<4):#[f c0,f c1,f c2,f c3,f c4,f c5,f c6,f c7,f c8,f c9,f c10,f c11,f c12,f c13,f c14,f c15][i.toNat*4+1]? =some (f (ix4 c1 c5 c9 c13 i)):=by
  obtain rfl|rfl|rfl|rfl:i=0\/i=1\/i=2\/i=3:=by omega
  all_goals rfl
theorem ix_42 (i:Int) (h0:0<=i) (h1:i<4):#[f c0,f c1,f c2,f c3,f c4,f c5,f c6,f c7,f c8,f c9,f c10,f c11,f c12,f c13,f c14,f c15][i.toNat*4+2]? =some (f (ix4 c2 c6 c10 c14 i)):=by
  obtain rfl|rfl|rfl|rfl:i=0\/i=1\/i=2\/i=3:=by omega
  all_goals rfl
theorem ix_43 (i:Int) (h0:0<=i) (h1:i<4):#[f c0,f c1,f c2,f c3,f c4,f c5,f c6,f c7,f c8,f c9,f c10,f c11,f c12,f c13,f c14,f c15][i.toNat*4+3]? =some (f (ix4 c3 c7 c11 c15 i)):=by
  obtain rfl|rfl|rfl|rfl:i=0\/i=1\/i=2\/i=3:=by omega
  all_goals rfl
theorem row_44 (i:Int) (h0:0<=i) (h1:i<4):#[f c0,f c1,f c2,f c3,f c4,f c5,f c6,f c7,f c8,f c9,f c10,f c11,f c12,f c13,f c14,f c15].extract (i.toNat*4) (i.toNat*4+4)=
    #[f (ix4 c0 c4 c8 c12 i),f (ix4 c1 c5 c9 c13 i),f (ix4 c2 c6 c10 c14 i),f (ix4 c3 c7 c11 c15 i)]:=by
  obtain rfl|rfl|rfl|rfl:i=0\/i=1\/i=2\/i=3:=by omega
  all_goals rfl
theorem up_4 (a b c d:α) (i:Int) (v:α) (h0:0<=i) (h1:i<4):#[f a,f b,f c,f d].setIfInBounds i.toNat (f v)=
    #[f (up (i==0) v a),f (up (i==1) v b),f (up (i==2) v c),f (up (i==3) v d)]:=by
  obtain rfl|rfl|rfl|rfl:i=0\/i=1\/i=2\/i=3:=by omega
  all_goals rfl
theorem up_5 (a b c d e:α) (i:Int) (v:α) (h0:0<=i) (h1:i<5):#[f a,f b,f c,f d,f e].setIfInBounds i.toNat (f v)=
    #[f (up (i==0) v a),f (up (i==1) v b),f (up (i==2) v c),f (up (i==3) v d),f (up (i==4) v e)]:=by
  obtain rfl|rfl|rfl|rfl|rfl:i=0\/i=1\/i=2\/i=3\/i=4:=by omega
  all_goals rfl
theorem up_44 (i j:Int) (v:α) (h0:0<=i) (h1:i<4) (k0:0<=j) (k1:j<4):
    #[f c0,f c1,f c2,f c3,f c4,f c5,f c6,f c7,f c8,f c9,f c10,f c11,f c12,f c13,f c14,f c15].setIfInBounds (i.toNat*4+j.toNat) (f v)=
    #[f (up (i==0&&j==0) v c0),f (up (i==0&&j==1) v c1),f (up (i==0&&j==2) v c2),f (up (i==0&&j==3) v c3),
      f (up (i==1&&j==0) v c4),f (up (i==1&&j==1) v c5),f (up (i==1&&j==2) v c6),f (up (i==1&&j==3) v c7),
      f (up (i==2&&j==0) v c8),f (up (i==2&&j==1) v c9),f (up (i==2&&j==2) v c10),f (up (i==2&&j==3) v c11),
      f (up (i==3&&j==0) v c12),f (up (i==3&&j==1) v c13),f (up (i==3&&j==2) v c14),f (up (i==3&&j==3) v c15)]:=by
  obtain rfl|rfl|rfl|rfl:i=0\/i=1\/i=2\/i=3:=by omega
  all_goals (obtain rfl|rfl|rfl|rfl:j=0\/j=1\/j=2\/j=3:=by omega)
  all_goals rfl
theorem upr_0 (i:Int) (v:α) (h0:0<=i) (h1:i<4):#[f c0,f c1,f c2,f c3,f c4,f c5,f c6,f c7,f c8,f c9,f c10,f c11,f c12,f c13,f c14,f c15].setIfInBounds (i.toNat*4) (f v)=
    #[f (up (i==0) v c0),f c1,f c2,f c3,f (up (i==1) v c4),f c5,f c6,f c7,f (up (i==2) v c8),f c9,f c10,f c11,f (up (i==3) v c12),f c13,f c14,f c15]:=by
  obtain rfl|rfl|rfl|rfl:i=0\/i=1\/i=2\/i=3:=by omega
  all_goals rfl
theorem upr_1 (i:Int) (v:α) (h0:0<=i) (h1:i<4):#[f c0,f c1,f c2,f c3,f c4,f c5,f c6,f c7,f c8,f c9,f c10,f c11,f c12,f c13,f c14,f c15].setIfInBounds (i.toNat*4+1) (f v)=
    #[f c0,f (up (i==0) v c1),f c2,f c3,f c4,f (up (i==1) v c5),f c6,f c7,f c8,f (up (i==2) v c9),f c10,f c11,f c12,f (up (i==3) v c13),f c14,f c15]:=by
  obtain rfl|rfl|rfl|rfl:i=0\/i=1\/i=2\/i=3:=by omega
  all_goals rfl
theorem upr_2 (i:Int) (v:α) (h0:0<=i) (h1:i<4):#[f c0,f c1,f c2,f c3,f c4,f c5,f c6,f c7,f c8,f c9,f c10,f c11,f c12,f c13,f c14,f c15].setIfInBounds (i.toNat*4+2) (f v)=
    #[f c0,f c1,f (up (i==0) v c2),f c3,f c4,f c5,f (up (i==1) v c6),f c7,f c8,f c9,f (up (i==2) v c10),f c11,f c12,f c13,f (up (i==3) v c14),f c15]:=by
  obtain rfl|rfl|rfl|rfl:i=0\/i=1\/i=2\/i=3:=by omega
  all_goals rfl
theorem upr_3 (i:Int) (v:α) (h0:0<=i) (h1:i<4):#[f c0,f c1,f c2,f c3,f c4,f c5,f c6,f c7,f c8,f c9,f c10,f c11,f c12,f c13,f c14,f c15].setIfInBounds (i.toNat*4+3) (f v)=
    #[f c0,f c1,f c2,f (up (i==0) v c3),f c4,f c5,f c6,f (up (i==1) v c7),f c8,f c9,f c10,f (up (i==2) v c11),f c12,f c13,f c14,f (up (i==3) v c15)]:=by
  obtain rfl|rfl|rfl|rfl:i=0\/i=1\/i=2\/i=3:=by omega
  all_goals rfl
end
theorem cells16 {w:World} {g:Nat} {t:TypeId} {c0 c1 c2 c3 c4 c5 c6 c7 c8 c9 c10 c11 c12 c13 c14 c15:Value} (h:w.heap[g]? =some (.cells #[c0,c1,c2,c3,c4,c5,c6,c7,c8,c9,c10,c11,c12,c13,c14,c15] t (0,0))):
    w.cell? ⟨g,0,none⟩=some c0/\w.cell? ⟨g,1,none⟩=some c1/\w.cell? ⟨g,2,none⟩=some c2/\w.cell? ⟨g,3,none⟩=some c3/\w.cell? ⟨g,4,none⟩=some c4/\w.cell? ⟨g,5,none⟩=some c5/\w.cell? ⟨g,6,none⟩=some c6/\w.cell? ⟨g,7,none⟩=some c7/\w.cell? ⟨g,8,none⟩=some c8/\w.cell? ⟨g,9,none⟩=some c9/\w.cell? ⟨g,10,none⟩=some c10/\w.cell? ⟨g,11,none⟩=some c11/\w.cell? ⟨g,12,none⟩=some c12/\w.cell? ⟨g,13,none⟩=some c13/\w.cell? ⟨g,14,none⟩=some c14/\w.cell? ⟨g,15,none⟩=some c15:=
  ⟨(blk_cell h 0).trans rfl,(blk_cell h 1).trans rfl,(blk_cell h 2).trans rfl,(blk_cell h 3).trans rfl,(blk_cell h 4).trans rfl,(blk_cell h 5).trans rfl,(blk_cell h 6).trans rfl,(blk_cell h 7).trans rfl,(blk_cell h 8).trans rfl,(blk_cell h 9).trans rfl,(blk_cell h 10).trans rfl,(blk_cell h 11).trans rfl,(blk_cell h 12).trans rfl,(blk_cell h 13).trans rfl,(blk_cell h 14).trans rfl,(blk_cell h 15).trans rfl⟩
theorem run_index {P:Program} {t e:TypeId} {n:Nat} {j:Int} {cs:Array Value} {v:Value} (w:World) (hu:P.underlying t=some (.array n e)) (hi:(P.info? e).isSome =true) (h0:0<=j) (h1:j<n)
    (hp:(part e cs (j.toNat*P.cellsOf e)).run P w= .ok v w):(Instr.index t (.agg cs) (.int .i64 j)).run P w= .ok v w:=by
  obtain⟨i,hi⟩:=Option.isSome_iff_exists.1 hi
  unfold Instr.index
  simp only[asIntOf,Sem.run_bind,Sem.run_pure,run_underlying hu,Result.andThen_ok,run_sizeOf w hi]
  rw[if_pos ⟨h0,h1⟩]
  simp only[Sem.run_bind,run_sizeOf w hi,Result.andThen_ok]
  exact hp
theorem index_cell {P:Program} {t e:TypeId} {n:Nat} {j:Int} {cs:Array Value} {v:Value} (hu:P.underlying t=some (.array n e)) (hi:(P.info? e).isSome =true) (hp:P.plainKey e=true) (hc:P.cellsOf e=1) (h0:0<=j) (h1:j<n)
    (hr:cs[j.toNat]? =some v) (w:World):(Instr.index t (.agg cs) (.int .i64 j)).run P w= .ok v w:=
  run_index w hu hi h0 h1 (by rw[hc,Nat.mul_one];exact run_part_plain w hp hr)
theorem index_row {P:Program} {t e e2:TypeId} {n m:Nat} {j:Int} {cs row:Array Value} (hu:P.underlying t=some (.array n e)) (hi:(P.info? e).isSome =true) (hue:P.underlying e=some (.array m e2)) (hc:P.cellsOf e=4) (h0:0<=j) (h1:j<n)
    (hr:cs.extract (j.toNat*4) (j.toNat*4+4)=row) (w:World):(Instr.index t (.agg cs) (.int .i64 j)).run P w= .ok (.agg row) w:=
  run_index w hu hi h0 h1 (by
    rw[hc]
    obtain⟨i,hi⟩:=Option.isSome_iff_exists.1 hi
    unfold part
    simp only[isAgg,Sem.run_bind,Sem.run_pure,run_underlying hue,Result.andThen_ok,run_sizeOf w hi,if_true,hc,hr])
end Go.Proofs.YtbpoflicphgokaaW.PrintWords
namespace Go.Proofs.Ytbpoflicphgokaa.Q18
open Go.RowKit Go.Proofs.YtbpoflicphgokaaW.PrintWords Go.Proofs.YtbpoflicphgokaaW.PrintLast Go.Proofs.YtbpoflicphgokaaW.PrintMore
attribute [local go_sem] max2_int min2_int max_two min_two max_three min_three max_four min_four
set_option linter.unusedVariables false
set_option linter.unusedSimpArgs false
def errW:Option Int->Value
  |none=> .nilIface
  |some c=> .iface 0 (.int .i64 c)
theorem errW_none:errW none= .nilIface :=rfl
theorem errW_some (c:Int):errW (some c)= .iface 0 (.int .i64 c):=rfl
theorem info3:(Try.prog.info? 3).map (λi=>(i.zero,i.size,i.bytes))=some (some (.int .i64 0),1,8):=by kernel_rfl
theorem info5:(Try.prog.info? 5).map (λi=>(i.zero,i.size,i.bytes))=some (some (.int .u8 0),1,1):=by kernel_rfl
theorem info24:(Try.prog.info? 24).map (λi=>(i.zero,i.size,i.bytes))=some (some (.slice none 0 0),1,24):=by kernel_rfl
theorem info32:(Try.prog.info? 32).map (λi=>(i.zero,i.size,i.bytes))=some (some (.agg #[(.int .i64 0),(.int .i64 0),(.int .i64 0),(.slice none 0 0)]),4,48):=by kernel_rfl
theorem info56:(Try.prog.info? 56).map (λi=>(i.zero,i.size,i.bytes))=some (some (.agg #[(.int .i64 0),(.int .i64 0)]),2,16):=by kernel_rfl
structure S56 where
  f0:Int
  f1:Int
def z56:S56:=⟨(0:Int),(0:Int)⟩
def k56:Kd S56:=Kd.iso (Kd.pair (Kd.int .i64) (Kd.int .i64)) (λx:S56=>(x.f0,x.f1))
theorem k56_heap:Kd.Heap k56:=Kd.heap_iso _ (Kd.heap_pair (Kd.heap_int .i64) (Kd.heap_int .i64))
theorem k56_open {w:World} {x:S56} {cs:List Value} (h:k56.K w x cs):cs=[.int .i64 x.f0,.int .i64 x.f1]:=by
  obtain⟨_,_,rfl,rfl,rfl⟩:=h
  exact rfl
theorem k56_openM {w:World} {base:Nat} {ok:Nat->Prop} {x:S56} {cs:List Value} (h:k56.M w base ok x cs):cs=[.int .i64 x.f0,.int .i64 x.f1]:=by
  obtain⟨_,_,rfl,rfl,rfl⟩:=h
  exact rfl
theorem k56_mk (w:World) (x:S56):k56.K w x [.int .i64 x.f0,.int .i64 x.f1]:=⟨[.int .i64 x.f0],[.int .i64 x.f1],rfl,rfl,rfl⟩
theorem k56_mkM (w:World) (base:Nat) (ok:Nat->Prop) (x:S56):k56.M w base ok x [.int .i64 x.f0,.int .i64 x.f1]:=⟨[.int .i64 x.f0],[.int .i64 x.f1],rfl,rfl,rfl⟩
theorem k56_mkF (W:World) (ok:Nat->Prop) (x:S56):Kd.FK k56 W ok x [.int .i64 x.f0,.int .i64 x.f1]:=λW2 _=>k56_mk W2 x
def rd_T56 (xs:List S56) (i:Int):S56:=xs.getD i.toNat z56
theorem at_T56 {w:World} {A:Option Addr} {n:Nat} {xs:List S56} (h:Kd.C k56 w A n xs) (i:Int) (h0:0<=i) (h1:i<n):∃ad,A=some ad/\w.cell? (ad.add (i.toNat*2))=some (.int .i64 (rd_T56 xs i).f0)/\w.cell? ⟨(ad.add (i.toNat*2)).block,(ad.add (i.toNat*2)).off +1,none⟩=some (.int .i64 (rd_T56 xs i).f1):=by
  obtain⟨ad,c,e,_,hK,hc0⟩:=Kd.C_get h z56 i h0 h1
  have hc:∀j u,c[j]? =some u->w.cell? (ad.add (i.toNat*2+j))=some u:=hc0
  obtain rfl:=k56_open hK
  exact⟨ad,e,hc 0 _ rfl,by rw[<-add_field _ _ 1 (by omega)];exact hc 1 _ rfl⟩
def rd_L2 (xs:List (List S56)) (i:Int):(List S56):=xs.getD i.toNat ([]:List S56)
theorem at_L2 {w:World} {A:Option Addr} {n:Nat} {xs:List (List S56)} (h:Kd.C (Kd.slice 56 k56) w A n xs) (i:Int) (h0:0<=i) (h1:i<n):∃ad A0 c0,A=some ad/\w.cell? (ad.add i.toNat)=some (.slice A0 (rd_L2 xs i).length c0)/\(rd_L2 xs i).length <=c0/\k56.C w A0 (rd_L2 xs i).length (rd_L2 xs i):=by
  obtain⟨ad,c,e,_,hK,hc0⟩:=Kd.C_get h ([]:List S56) i h0 h1
  have hc:∀j u,c[j]? =some u->w.cell? (ad.add (i.toNat*1+j))=some u:=hc0
  obtain⟨A0,c0,rfl,l0,g0⟩:=hK
  exact⟨ad,A0,c0,e,by have hq:=hc 0 _ rfl;rwa [Nat.mul_one,Nat.add_zero]at hq,l0,g0⟩
structure S32 where
  f0:Int
  f1:Int
  f2:Int
  f3:(List S56)
def z32:S32:=⟨(0:Int),(0:Int),(0:Int),([]:List S56)⟩
def k32:Kd S32:=Kd.iso (Kd.pair (Kd.int .i64) (Kd.pair (Kd.int .i64) (Kd.pair (Kd.int .i64) (Kd.slice 56 k56)))) (λx:S32=>(x.f0,x.f1,x.f2,x.f3))
theorem k32_heap:Kd.Heap k32:=Kd.heap_iso _ (Kd.heap_pair (Kd.heap_int .i64) (Kd.heap_pair (Kd.heap_int .i64) (Kd.heap_pair (Kd.heap_int .i64) (Kd.heap_slice 56 k56_heap))))
theorem k32_open {w:World} {x:S32} {cs:List Value} (h:k32.K w x cs):∃A3 c3,cs=[.int .i64 x.f0,.int .i64 x.f1,.int .i64 x.f2,.slice A3 x.f3.length c3]/\x.f3.length<=c3/\k56.C w A3 x.f3.length x.f3:=by
  obtain⟨_,_,rfl,rfl,⟨_,_,rfl,rfl,⟨_,_,rfl,rfl,⟨A3,c3,rfl,l3,g3⟩⟩⟩⟩:=h
  exact⟨A3,c3,rfl,l3,g3⟩
theorem k32_openM {w:World} {base:Nat} {ok:Nat->Prop} {x:S32} {cs:List Value} (h:k32.M w base ok x cs):∃v3,cs=[.int .i64 x.f0,.int .i64 x.f1,.int .i64 x.f2,v3]/\k56.R 56 w base ok v3 x.f3:=by
  obtain⟨_,_,rfl,rfl,⟨_,_,rfl,rfl,⟨_,_,rfl,rfl,⟨v3,rfl,g3⟩⟩⟩⟩:=h
  exact⟨v3,rfl,g3⟩
theorem k32_mk (w:World) (x:S32) {A3:Option Addr} {c3:Nat} (l3:x.f3.length<=c3) (g3:k56.C w A3 x.f3.length x.f3):k32.K w x [.int .i64 x.f0,.int .i64 x.f1,.int .i64 x.f2,.slice A3 x.f3.length c3]:=⟨[.int .i64 x.f0],[.int .i64 x.f1,.int .i64 x.f2,.slice A3 x.f3.length c3],rfl,rfl,⟨[.int .i64 x.f1],[.int .i64 x.f2,.slice A3 x.f3.length c3],rfl,rfl,⟨[.int .i64 x.f2],[.slice A3 x.f3.length c3],rfl,rfl,⟨A3,c3,rfl,l3,g3⟩⟩⟩⟩
theorem k32_mkM (w:World) (base:Nat) (ok:Nat->Prop) (x:S32) {v3:Value} (g3:k56.R 56 w base ok v3 x.f3):k32.M w base ok x [.int .i64 x.f0,.int .i64 x.f1,.int .i64 x.f2,v3]:=⟨[.int .i64 x.f0],[.int .i64 x.f1,.int .i64 x.f2,v3],rfl,rfl,⟨[.int .i64 x.f1],[.int .i64 x.f2,v3],rfl,rfl,⟨[.int .i64 x.f2],[v3],rfl,rfl,⟨v3,rfl,g3⟩⟩⟩⟩
theorem k32_openF {W:World} {ok:Nat->Prop} {x:S32} {cs:List Value} (h:Kd.FK k32 W ok x cs):∃A3 c3,cs=[.int .i64 x.f0,.int .i64 x.f1,.int .i64 x.f2,.slice A3 x.f3.length c3]/\x.f3.length<=c3/\Kd.F k56 W ok A3 x.f3.length x.f3:=by
  obtain⟨A3,c3,rfl,l3,_⟩:=k32_open (Kd.FK_now h)
  exact⟨A3,c3,rfl,l3,(λW' hW=>by obtain⟨A3_,c3_,he,l3_,g3_⟩:=k32_open (h W' hW);injection (Option.some.inj (show some (Value.slice A3 x.f3.length c3)=some (Value.slice A3_ x.f3.length c3_)from congrArg (λl=>l[3]?) he))with ha_ _ _;rw[ha_];exact g3_)⟩
theorem k32_mkF (W:World) (ok:Nat->Prop) (x:S32) {A3:Option Addr} {c3:Nat} (l3:x.f3.length<=c3) (g3:Kd.F k56 W ok A3 x.f3.length x.f3):Kd.FK k32 W ok x [.int .i64 x.f0,.int .i64 x.f1,.int .i64 x.f2,.slice A3 x.f3.length c3]:=λW2 hW=>k32_mk W2 x l3 (g3 W2 hW)
def rd_T32 (xs:List S32) (i:Int):S32:=xs.getD i.toNat z32
theorem at_T32 {w:World} {A:Option Addr} {n:Nat} {xs:List S32} (h:Kd.C k32 w A n xs) (i:Int) (h0:0<=i) (h1:i<n):∃ad A3 c3,A=some ad/\w.cell? (ad.add (i.toNat*4))=some (.int .i64 (rd_T32 xs i).f0)/\w.cell? ⟨(ad.add (i.toNat*4)).block,(ad.add (i.toNat*4)).off +1,none⟩=some (.int .i64 (rd_T32 xs i).f1)/\w.cell? ⟨(ad.add (i.toNat*4)).block,(ad.add (i.toNat*4)).off +2,none⟩=some (.int .i64 (rd_T32 xs i).f2)/\w.cell? ⟨(ad.add (i.toNat*4)).block,(ad.add (i.toNat*4)).off +3,none⟩=some (.slice A3 (rd_T32 xs i).f3.length c3)/\(rd_T32 xs i).f3.length <=c3/\k56.C w A3 (rd_T32 xs i).f3.length (rd_T32 xs i).f3 :=by
  obtain⟨ad,c,e,_,hK,hc0⟩:=Kd.C_get h z32 i h0 h1
  have hc:∀j u,c[j]? =some u->w.cell? (ad.add (i.toNat*4+j))=some u:=hc0
  obtain⟨A3,c3,rfl,l3,g3⟩:=k32_open hK
  exact⟨ad,A3,c3,e,hc 0 _ rfl,by rw[<-add_field _ _ 1 (by omega)];exact hc 1 _ rfl,by rw[<-add_field _ _ 2 (by omega)];exact hc 2 _ rfl,by rw[<-add_field _ _ 3 (by omega)];exact hc 3 _ rfl,l3,g3⟩
def rd_L5 (xs:List (List S32)) (i:Int):(List S32):=xs.getD i.toNat ([]:List S32)
theorem at_L5 {w:World} {A:Option Addr} {n:Nat} {xs:List (List S32)} (h:Kd.C (Kd.slice 32 k32) w A n xs) (i:Int) (h0:0<=i) (h1:i<n):∃ad A0 c0,A=some ad/\w.cell? (ad.add i.toNat)=some (.slice A0 (rd_L5 xs i).length c0)/\(rd_L5 xs i).length <=c0/\k32.C w A0 (rd_L5 xs i).length (rd_L5 xs i):=by
  obtain⟨ad,c,e,_,hK,hc0⟩:=Kd.C_get h ([]:List S32) i h0 h1
  have hc:∀j u,c[j]? =some u->w.cell? (ad.add (i.toNat*1+j))=some u:=hc0
  obtain⟨A0,c0,rfl,l0,g0⟩:=hK
  exact⟨ad,A0,c0,e,by have hq:=hc 0 _ rfl;rwa [Nat.mul_one,Nat.add_zero]at hq,l0,g0⟩
end Go.Proofs.Ytbpoflicphgokaa.Q18
namespace Go.Proofs.Ytbpoflicphgokaa.Q18
open Go.RowKit Go.Proofs.Ytbpoflicphgokaa.Stp Go.Proofs.YtbpoflicphgokaaW.PrintWords Go.Proofs.YtbpoflicphgokaaW.PrintLast Go.Proofs.YtbpoflicphgokaaW.PrintMore
attribute [local go_sem] max2_int min2_int max_two min_two max_three min_three max_four min_four
set_option linter.unusedVariables false
set_option linter.unusedSimpArgs false
def watchwordlaw0_SpoilLinks.l0:Nat->List (S56)->Int->Option ((List (S56)))
 |0,_,_=>none
 |k+1,x0,x2=>if x2<(x0.length:Int)then(if 0<=x2 then(watchwordlaw0_SpoilLinks.l0 k (x0.set (x2:Int).toNat (⟨Go.bits .xor .i64 ((rd_T56 x0 x2).f0) 90,(rd_T56 x0 x2).f1⟩:S56)) (wrap64 (x2+1)))else(none))else(some x0)
def watchwordlaw0_SpoilLinks.f (k:Nat) (l0:List (S56)):Option ((List (S56))):=watchwordlaw0_SpoilLinks.l0 k l0 0
theorem watchwordlaw0_SpoilLinks.mono_l:∀k,(∀y0 y1,LeO (watchwordlaw0_SpoilLinks.l0 k y0 y1) (watchwordlaw0_SpoilLinks.l0 (k+1) y0 y1))
 |0=>λ_ _ r h=>by simp[watchwordlaw0_SpoilLinks.l0]at h
 |k+1=>by
  have ih0:=watchwordlaw0_SpoilLinks.mono_l k
  ·intro y0 y1
   unfold watchwordlaw0_SpoilLinks.l0
   repeat' (with_reducible first|exact ih0 _ _|exact LeO.refl _|exact LeO.none _|refine LeO.ite ?_ ?_ |refine LeO.bind ?_ (λ_=>?_))
theorem watchwordlaw0_SpoilLinks.mono:∀a0 k,LeO (watchwordlaw0_SpoilLinks.f k a0) (watchwordlaw0_SpoilLinks.f (k+1) a0):=by
 intro a0 k;have ih0:=watchwordlaw0_SpoilLinks.mono_l k;unfold watchwordlaw0_SpoilLinks.f
 repeat' (with_reducible first|exact ih0 _ _|exact LeO.refl _|exact LeO.none _|refine LeO.ite ?_ ?_ |refine LeO.bind ?_ (λ_=>?_))
def IK (w w':World):Prop:=∀(h:Nat) (cur:Array Value),w.heap[h]? =some (.cells cur 56 (0,0))->∃cur':Array Value,w'.heap[h]? =some (.cells cur' 56 (0,0))/\cur'.size=cur.size/\∀(j:Nat) (z:Int),cur[j]? =some (.int .i64 z)->∃z':Int,cur'[j]? =some (.int .i64 z')
theorem IK.refl (w:World):IK w w:=λh cur hc=>⟨cur,hc,rfl,λj z hj=>⟨z,hj⟩⟩
theorem IK.below {w w1 w2:World} (h:IK w w1) (hb:Below w1.heap.size w1 w2):IK w w2:=λg cur hc=>by
  obtain⟨c1,h1,h2,h3⟩:=h g cur hc;exact⟨c1,(hb.block g (Array.getElem?_eq_some_iff.1 h1).1).trans h1,h2,h3⟩
theorem IK.setCell {w w1:World} (h:IK w w1) (g o:Nat) (z:Int):IK w (w1.setCell ⟨g,o,none⟩ (.int .i64 z)):=λk cur hc=>by
  obtain⟨c1,h1,h2,h3⟩:=h k cur hc
  by_cases hk:k=g
  · subst hk
    refine⟨c1.setIfInBounds o (.int .i64 z),?_,by simp[h2],λj z' hj=>?_⟩
    · exact blk_put h1 o _ rfl
    · obtain⟨z1,hz1⟩:=h3 j z' hj
      rw[Array.getElem?_setIfInBounds]
      split
      · have:=(Array.getElem?_eq_some_iff.1 hz1).1
        rename_i hoj;subst hoj;rw[if_pos this];exact⟨z,rfl⟩
      · exact⟨z1,hz1⟩
  · exact⟨c1,by rw[Below.heap_setCell w1 ⟨g,o,none⟩ _ k hk];exact h1,h2,h3⟩
set_option maxHeartbeats 8000000 in
set_option maxRecDepth 100000 in
theorem watchwordlaw0_SpoilLinks.calls (k:Nat) (P0_:Nat->Prop) (u9000_:Value) (l0:List (S56)) (r:List (S56)) (w0 w:World) (hB:Below w0.heap.size w0 w) (ho0:Kd.R k56 56 w w0.heap.size P0_ u9000_ l0) (h:watchwordlaw0_SpoilLinks.f k l0=some r):
  Calls Try.prog 26 #[u9000_] w λe w'=>e= .returned (.tuple #[])/\Kd.R k56 56 w' w0.heap.size (λk_=>(P0_ k_\/w.heap.size<=k_)) u9000_ r/\Below w0.heap.size w0 w'/\Kept w w' (λk_=>P0_ k_)/\IK w w':=by
 have O0:=Aside0.mk (show Kd.R k56 56 w w0.heap.size (λk_=>(P0_ k_\/w.heap.size<=k_)) u9000_ l0 from Kd.R_mono ho0 (λk_ hk=>(.inl hk)));have HK:=Aside0.mk (Kept.refl w (λk_=>P0_ k_));have HW0:=Aside0.mk hB.size;have HIK:=Aside0.mk (IK.refl w);have HB:=Aside0.mk hB;clear hB;have H:(watchwordlaw0_SpoilLinks.l0 k l0 0)=some r:=h;clear h;have H':=Aside0.mk H;clear H
 go_enter Try.func26,Try.ntmps26
 go_wp2
 go_loopg [2] k (λkq v2 w'=>∃(x1:List (S56)) (x3:Int),v2= .int .i64 x3/\Aside0 (watchwordlaw0_SpoilLinks.l0 kq x1 x3=some r)/\Aside0 (kq<=k)/\Aside0 (Kd.R k56 56 w' w0.heap.size (λk_=>(P0_ k_\/w.heap.size<=k_)) u9000_ x1)/\Aside0 (Kept w w' (λk_=>P0_ k_))/\Aside0 (Below w0.heap.size w0 w')/\Aside0 (IK w w'))
 case atStart=>exact⟨(l0),(0),mJ,H',⟨Nat.le_refl _⟩,⟨by(with_reducible repeat (first|apply Kd.R_alloc|apply Kd.R_drewN|apply Kd.R_drew));exact O0.out⟩,⟨by repeat (first|(with_reducible first|exact HK.out|apply Kept.alloc|apply Kept.drewN|apply Kept.drew)|exact HK.out)⟩,⟨by repeat (first|(with_reducible first|exact HB.out|apply below_alloc|apply pw_below_drewN|apply below_drew1)|exact HB.out)⟩,HIK⟩
 case round=>
  clear H';clear HIK;obtain⟨x1,x3,rfl,HA,HK1,O1,HK,HB,HIK⟩:=hrel;cases gk with
  |zero=>exact absurd HA.out (by simp[watchwordlaw0_SpoilLinks.l0])
  |succ k1=>
   have H:=HA.out;clear HA;simp only[watchwordlaw0_SpoilLinks.l0]at H
   by_cases c2:x3<(x1.length:Int)
   ·rw[if_pos c2]at H
    have c4:=decide_eq_true c2;clear c2
    by_cases c3:0<=x3
    ·rw[if_pos c3]at H
     have c9:=decide_eq_true c3;clear c3;obtain⟨y2,Y0⟩:∃y_:List (S56),y_=(x1.set (x3:Int).toNat (⟨Go.bits .xor .i64 ((rd_T56 x1 x3).f0) 90,(rd_T56 x1 x3).f1⟩:S56)):=⟨_,rfl⟩
     replace H:(watchwordlaw0_SpoilLinks.l0 k1 y2 (wrap64 (x3+1)))=some r:=by first|(rw[Y0];with_reducible exact H)|(have H2_:=(Option.bind_some _ _).symm.trans H;rw[Y0];with_reducible exact H2_)|(have H2_:=(Option.bind_some _ _).symm.trans H;with_reducible exact H2_)|with_reducible exact H|(rw[Y0];exact H)|exact H
     have Y1:=Aside0.mk Y0;clear Y0;have H':=Aside0.mk H;clear H;obtain⟨s0,s1,s2⟩:=Kd.R_slice O1.out;subst s2;have p0:0<=(x3:Int):=of_decide_eq_true mF;have q0:x3<(x1.length:Int):=of_decide_eq_true mF;obtain⟨d0,e0,h0,h4⟩:=at_T56 (Kd.R_reads' O1.out).2.2 x3 p0 q0;cases e0;replace p0:=eq_true p0;replace q0:=eq_true q0;have p4:0<=(x3:Int):=of_decide_eq_true mF;have q4:(x3:Int)<((x1.length:Int):Int):=of_decide_eq_true mF;obtain⟨go4,s3,s4,g0,gl4,cl4,HG4⟩:=Kd.R_form O1.out mBX
     (first|cases s4|(injection s4 with ea_ en_ ec_;(first|subst ea_|(injection ea_ with ea_;subst ea_));subst ec_;clear en_))
     have GB4:=Aside0.mk g0;have GG4:=Aside0.mk HG4;clear g0 gl4 HG4;have HMgo4:=Aside0.mk (show(P0_ go4\/w.heap.size<=go4)from(O1.out.1 _ rfl))
     (first|simp only[add_plain]at h0|skip)
     (first|simp only[add_plain]at h4|skip)
     obtain⟨ce4,hcl4,hM4,hcc4,hfr4⟩:=Kd.R_elem O1.out z56 (x3:Int) p4 q4;obtain rfl:=k56_openM hM4;have h5:wr.cell? ⟨go4,(x3:Int).toNat *2,none⟩=some (.int .i64 ((rd_T56 x1 x3).f0)):=hcc4 0 _ rfl;have h6:wr.cell? ⟨go4,(x3:Int).toNat *2+1,none⟩=some (.int .i64 ((rd_T56 x1 x3).f1)):=hcc4 1 _ rfl;have hf4_0:wr.frozen? ⟨go4,(x3:Int).toNat *2,none⟩=false:=hfr4 0;have hf4_1:wr.frozen? ⟨go4,(x3:Int).toNat *2+1,none⟩=false:=hfr4 1;clear hcl4 hcc4 hfr4 hM4;replace p4:=eq_true p4;replace q4:=eq_true q4;have HX6:=Aside0.mk (show Kd.R k56 56 wr w0.heap.size (λk_=>(P0_ k_\/w.heap.size<=k_)) (.slice (some ⟨go4,0,none⟩) x1.length s1) x1 from mAJ);obtain⟨ce6,hcl6,hM6,hcc6,hfr6⟩:=Kd.R_elem HX6.out z56 (x3:Int) (of_decide_eq_true mF) mCY;obtain rfl:=k56_openM hM6;have HP6:=Kd.R_seg HX6.out (x3:Int) (of_decide_eq_true mF) mCY (seg:=[.int .i64 (Go.bits .xor .i64 ((rd_T56 x1 x3).f0) 90)]) (j:=0) hcl6 hcc6 (show 1<=2 from by decide) (x':=(⟨Go.bits .xor .i64 ((rd_T56 x1 x3).f0) 90,(rd_T56 x1 x3).f1⟩:S56)) (k56_mkM _ _ _ (⟨Go.bits .xor .i64 ((rd_T56 x1 x3).f0) 90,(rd_T56 x1 x3).f1⟩:S56)) (λ_ hk=>hk);have h7:=hcc6 0 _ rfl;(try simp only[show(k56).sz =2 from rfl,Nat.mul_one,Nat.add_zero]at h7);have hf6_0:=hfr6 0;(try simp only[show(k56).sz =2 from rfl,Nat.mul_one,Nat.add_zero]at hf6_0);clear hcl6 hcc6 hfr6 hM6
     go_wp2_with (first|((with_reducible refine gate_store (t:=3) (p:=18) rfl ?_);refine stV (t:=3) (p:=18) (w1:=(wr.setCell ⟨go4,(x3:Int).toNat *2,none⟩ (.int .i64 (Go.bits .xor .i64 ((rd_T56 x1 x3).f0) 90)))) (h:=?_);intro w7 hw;have hg:wr.grownBy w7 (some go4):=(by rw[hw];exact HP6.2);have hp_:Kd.R k56 56 w7 w0.heap.size (λk_=>(P0_ k_\/w.heap.size<=k_)) (.slice (some ⟨go4,0,none⟩) x1.length s1) y2:=(by rw[hw,Y1.out];exact HP6.1);clear HP6;replace HB:=Aside0.mk ((by rw[hw];exact below_set (HB.out) GB4.out:Below w0.heap.size w0 w7));replace HK:=Aside0.mk (Kept.of_grown (S:=(λk_=>P0_ k_)) hg (by repeat (first|(with_reducible first|exact HK.out|apply Kept.alloc|apply Kept.drewN|apply Kept.drew)|exact HK.out)) (λk_ e_=>(O1.out.1 k_ e_)));replace O1:=Aside0.mk (hp_);have n3_:=Aside0.mk (show IK w w7 by rw[hw];exact IK.setCell HIK.out _ _ _);clear HIK;have HIK:=n3_;clear n3_;clear hg hw hp_))
     go_roundg k1
     case measure=>have:=HK1.out;omega
     case rel=>exact⟨(y2),(wrap64 (x3+1)),mJ,H',⟨by have:=HK1.out;omega⟩,⟨by(with_reducible repeat (first|apply Kd.R_alloc|apply Kd.R_drewN|apply Kd.R_drew));exact O1.out⟩,⟨by repeat (first|(with_reducible first|exact HK.out|apply Kept.alloc|apply Kept.drewN|apply Kept.drew)|exact HK.out)⟩,⟨by repeat (first|(with_reducible first|exact HB.out|apply below_alloc|apply pw_below_drewN|apply below_drew1)|exact HB.out)⟩,HIK⟩
    ·rw[if_neg c3]at H
     exact absurd H mAY
   ·rw[if_neg c2]at H
    have c4:=decide_eq_false c2;clear c2;obtain rfl:=Option.some.inj H;obtain⟨s5,s6,s7⟩:=Kd.R_slice O1.out;subst s7;go_wp2
    first|go_end0|((try simp only[Exit.inBlock,Exit.then]);refine bodyPost_ret (results_none rfl _ _ _) rfl ?_)
    exact⟨by first|rfl|(simp[errW_none,errW_some] <;> rfl)|(simp[*,errW_none,errW_some] <;> rfl),by(with_reducible repeat (first|apply Kd.R_alloc|apply Kd.R_drewN|apply Kd.R_drew));exact O1.out,by repeat (first|(with_reducible first|exact HB.out|apply below_alloc|apply pw_below_drewN|apply below_drew1)|exact HB.out),by repeat (first|(with_reducible first|exact HK.out|apply Kept.alloc|apply Kept.drewN|apply Kept.drew)|exact HK.out),HIK.out⟩
end Go.Proofs.Ytbpoflicphgokaa.Q18
namespace Go.Proofs.YtbpoflicphgokaaW.PrintWords
open Go.RowKit Go.Proofs.YtbpoflicphgokaaW.PrintLast Go.Proofs.YtbpoflicphgokaaW.PrintMore
set_option linter.unusedVariables false
set_option linter.unusedSimpArgs false
section
variable {P : Program} {ops : Array Oper} {Q : Exit → Act → World → Prop}
theorem runV_ {oi:Oper} {a:Act} {w:World} {f:FuncId} {fn:Func} {as_:Array Operand} {ts:Array TypeId} (hf:P.funcs[f]? =some fn) (hname:(fn.name== "runtime.NumGoroutine")=false) (hb:fn.body.isSome=true) (args:Array Value) {x:Operand}
    (hop:oi.op= .call {callee:= .value x,args:=as_,argTypes:=ts}) (hx:a.eval x= .func (.func f) #[] #[]) (hargs:as_.map a.eval=args):(execOp a.eval oi).run P w= .ok (.enter f args) w:=by
  have he:=enters_ hf hname hb args w
  unfold execOp
  simp[hop,resolve,hx,Deferred.ofValue,invoke,hargs,he]
theorem goesV_ {oi:Oper} {N:Option Tmp} {a:Act} {w:World} {K:Act->World->Prop} {f:FuncId} {fn:Func} {as_:Array Operand} {ts:Array TypeId} (hf:P.funcs[f]? =some fn) (hname:(fn.name== "runtime.NumGoroutine")=false) (hb:fn.body.isSome=true) (args:Array Value)
    (hw:Region.wanted oi (yielded ops a.tmps)=true) (hN:oi.dst=N) {x:Operand} (hop:oi.op= .call {callee:= .value x,args:=as_,argTypes:=ts}) (hx:a.eval x= .func (.func f) #[] #[]) (hargs:as_.map a.eval=args)
    (h:Calls P f args w λe w'=>∃v,e= .returned v/\K (a.put N v) w'):if Region.wanted oi (yielded ops a.tmps)=true then Oper.wp P oi a w K Q else K (a.put N undef) w:=
  call_ f args hw hN (runV_ hf hname hb args hop hx hargs) h
theorem goesVL_ {rest:List Oper} {oi:Oper} {a:Act} {w:World} (N:Option Tmp) (hd:oi.dst=N) (hg:oi.guard=none) {f:FuncId} {fn:Func} {as_:Array Operand} {ts:Array TypeId} (hf:P.funcs[f]? =some fn) (hname:(fn.name== "runtime.NumGoroutine")=false) (hb:fn.body.isSome=true) (args:Array Value) {x:Operand}
    (hop:oi.op= .call {callee:= .value x,args:=as_,argTypes:=ts}) (hx:a.eval x= .func (.func f) #[] #[]) (hargs:as_.map a.eval=args)
    (h:Calls P f args w λe w'=>∃v,e= .returned v/\wpList P ops Q rest (a.put N v) w'):wpList P ops Q (oi::rest) a w:=by
  refine wpList_plain hg λK hK=>?_
  have hrun:=runV_ (w:=w) hf hname hb args hop hx hargs
  unfold Oper.wp
  rw[hrun,Oper.upon_enter]
  refine h.mono λe w'' hh=>?_
  obtain⟨v,rfl,hk⟩:=hh
  subst hd
  exact hK _ _ hk
end
namespace Kd
theorem R_inserted {α:Type} {d:Kd α} {e base:Nat} {ok okp:Nat->Prop} {W w1:World} {v v1:Value} {xs:List α} {p:α} {inner cs:List Value} {i:Nat} (hi:i<=xs.length) (h0:∀k,v.ownBlock=some k->ok k) (hr:Reps (d.M W base (λk=>ok k/\some k≠v.ownBlock)) d.sz xs inner) (hp:d.M W base okp p cs) (hokp:∀k,okp k->ok k/\some k≠v.ownBlock) (hfresh:∀k,W.heap.size<=k->ok k)
    (hown:w1.ownsRow base e d.sz v1 (xs.length+1) (inner.take (i*d.sz)++cs++inner.drop (i*d.sz))) (hg:W.grownBy w1 v.ownBlock) (hat:v1.ownBlock=v.ownBlock\/v1.ownBlock=some W.heap.size):d.R e w1 base ok v1 (xs.take i++[p]++xs.drop i):=by
  have hat':v1.ownBlock=v.ownBlock\/∃b,v1.ownBlock=some b/\W.heap.size<=b:=hat.imp_right λh=>⟨_,h,Nat.le_refl _⟩
  have hl:(xs.take i++[p]++xs.drop i).length =xs.length+1:=by
    simp only[List.length_append,List.length_take,List.length_drop,List.length_singleton];omega
  have hp':d.M W base (λk=>ok k/\some k≠v.ownBlock) p cs:=d.M_mono hokp hp
  refine⟨λk hk=>?_,_,by rw[hl];exact hown,?_⟩
  · rcases hat with hat|hat
    · exact h0 k (hat▸hk)
    · rw[hat]at hk;injection hk with hk;exact hfresh k (by omega)
  · refine Reps.imp_ (R:=d.M W base (λk=>ok k/\some k≠v.ownBlock)) ?_ (λ_ _ h=>M_after h hg hat')
    refine reps_append (reps_append (reps_take hr hi) ?_) (reps_drop hr)
    have:=Reps.snoc (Reps.none (d.M W base (λk=>ok k/\some k≠v.ownBlock)) d.sz) hp' (d.K_len (d.K_of_M hp'))
    simpa using this
theorem R_clear {P:Program} {α:Type} {d:Kd α} {t e:TypeId} {base n c i:Nat} {ok:Nat->Prop} {W:World} {A:Option Addr} {xs:List α} (z:Value) (ht:P.underlying t=some (.slice e)) (hz:∀w,(zeroValue e).run P w= .ok z w) (hzs:z.cells.size=d.sz) (hs0:0<d.sz) (hz1:∀u∈z.cells.toList,u.oneCell'=true)
    (h:d.R e W base ok (.slice A n c) xs) (hi:i<=n):
    ∃w1,(∀ty,(Builtin.clear_ #[t] ty #[.slice (if c=i then A else A.map (·.add (i*d.sz))) (n-i) (c-i)]).run P W= .ok (.tuple #[]) w1)/\W.grownBy w1 (Value.slice A n c).ownBlock /\d.R e w1 base ok (.slice A i c) (xs.take i):=by
  have hR:=h
  obtain⟨hok,inner,hown,hr⟩:=h
  have hn:n=xs.length:=(R_reads' hR).1
  by_cases h0:n-i=0
  · have hin:i=n:=by omega
    subst hin
    refine⟨W,λty=>?_,⟨rfl,rfl,rfl,Nat.le_refl _,λ_ _ _=>rfl⟩,?_⟩
    · rw[h0]
      generalize (if c=i then A else A.map (·.add (i*d.sz)))=A'
      cases A' <;> simp[Builtin.clear_,run_underlying ht]
    · rw[List.take_of_length_le (by omega)];exact hR
  · rcases hown.2 with⟨he,he0⟩|⟨g,cap,cur,he,hbg,hg,hnc,hcm,hcs,htake⟩
    · injection he with h1 h2 h3;omega
    · injection he with h1 h2 h3
      subst h1;subst h3
      have hlz:(Builtin.zeroCells z.cells (n-i)).toList.length =(n-i)*d.sz:=by rw[Array.length_toList,size_zeroCells,hzs]
      have hci:c≠i:=by omega
      have hmul:i*d.sz+(n-i)*d.sz=n*d.sz:=by rw[<-Nat.add_mul];congr 1;omega
      have hmc:n*d.sz<=c*d.sz:=Nat.mul_le_mul_right _ (by omega)
      have hil:inner.length=n*d.sz:=by rw[hown.1,hn]
      have hz1':∀v∈(Builtin.zeroCells z.cells (n-i)).toList,v.oneCell'=true:=by
        intro v hv
        have hv':v∈Builtin.zeroCells z.cells (n-i):=by simpa using hv
        simp only[Builtin.zeroCells,Array.mem_map]at hv'
        obtain⟨q,_,rfl⟩:=hv'
        have hlt:q % z.cells.size<z.cells.size:=Nat.mod_lt _ (by rw[hzs];exact hs0)
        rw[getElem!_pos z.cells _ hlt]
        exact hz1 _ (by simp)
      obtain⟨X,hX⟩:∃X:Array Value,X=(cur.toList.take (i*d.sz)++(Builtin.zeroCells z.cells (n-i)).toList ++cur.toList.drop (i*d.sz+(Builtin.zeroCells z.cells (n-i)).toList.length)).toArray :=⟨_,rfl⟩
      have hst:=run_storeCells_at P g (i*d.sz) e (Builtin.zeroCells z.cells (n-i)).toList 0 cur W hg (by rw[hlz,hcs];omega) hz1'
      simp only[Nat.add_zero]at hst
      rw[<-hX]at hst
      have hcl:cur.toList.length=c*d.sz:=by simpa using hcs
      refine⟨W.setRow g X,λty=>?_,⟨rfl,rfl,rfl,by simp[World.setRow],λk hk hne=>setRow_other W g k X (λe_=>hne (by rw[e_];rfl))⟩,?_⟩
      · rw[if_neg hci]
        obtain⟨m,hm⟩:∃m,n-i=m+1:=⟨n-i-1,by omega⟩
        have ha:(⟨g,0,none⟩:Addr).add (i*d.sz)=⟨g,i*d.sz,none⟩:=add_plain g _
        simp only[Option.map_some,ha]
        rw[hm]at hst |-
        simp[Builtin.clear_,run_underlying ht,hz,hst]
      · have hgr:W.grownBy (W.setRow g X) (some g):=⟨rfl,rfl,rfl,by simp[World.setRow],λk hk hne=>setRow_other W g k X (λe_=>hne (by rw[e_]))⟩
        have hti:(xs.take i).length =i:=by rw[List.length_take];omega
        refine⟨hok,inner.take (i*d.sz),⟨by rw[List.length_take,hil,hti];omega,.inr ⟨g,c,X,by rw[hti],hbg,setRow_heap W g cur X e _ hg,by omega,hcm,?_,?_⟩⟩,?_⟩
        · rw[hX];simp only[List.size_toArray,List.length_append,List.length_take,List.length_drop,hcl,hlz];omega
        · rw[hti,hX,List.toList_toArray,List.append_assoc,List.take_append_of_le_length (by rw[List.length_take,hcl];omega),List.take_take,Nat.min_self,<-htake,List.take_take,Nat.min_eq_left (by rw[<-hn];omega)]
        · exact(reps_take hr (by omega)).imp_ (λ_ _ hq=>M_grown hq hgr (λk hk=>hk.2))
end Kd
section
variable {P : Program} {ops : Array Oper} {Q : Exit → Act → World → Prop}
theorem clear_event {W w1:World} {rest:List Oper} {o:Oper} {a:Act} (hgd:o.guard=none) (s:Operand) (t:TypeId) (ho:o.op= .call {callee:= .builtin .clear,args:=#[s],argTypes:=#[t]}) (hN:o.dst=none) (v:Value) (hs:a.eval s=v) {u:Value}
    (hrun:(Builtin.clear_ #[t] o.type #[v]).run P W= .ok u w1) (h:∀w',w'=w1->wpList P ops Q rest a w'):wpList P ops Q (o::rest) a W:=
  wpList_plain hgd λK hK=>by
    unfold Oper.wp execOp
    simp only[ho,resolve,invoke,builtin,Sem.run_bind,Sem.run_pure,Result.andThen_ok,List.map_toArray,List.map_cons,List.map_nil,hs,hrun]
    have h1:=hK _ _ (h _ rfl)
    show K (a.put o.dst u) w1
    rw[hN]
    exact h1
end
end Go.Proofs.YtbpoflicphgokaaW.PrintWords
namespace Go.Proofs.YtbpoflicphgokaaW.PrintWords
open Go.RowKit
set_option linter.unusedVariables false
set_option linter.unusedSimpArgs false
namespace Kd
section
variable {α : Type} {d : Kd α} {e base n g : Nat} {ok okp : Nat → Prop} {w w1 W : World} {v v1 : Value} {xs : List α} {p : α} {inner cs : List Value}
theorem N_open (h:N d e w base ok v xs) (hs:0<d.sz):∃inner,w.ownsRow base e d.sz v xs.length inner/\(∀u∈inner,u.oneCell'=true)/\Reps (λx c=>FK d w (λk=>ok k/\some k≠v.ownBlock) x c) d.sz xs inner:=by
  obtain⟨h0,rows,hl,⟨_,inner,ho,hr⟩,hf⟩:=h
  have hone:∀u∈inner,u.oneCell'=true:=reps_one hr hs (λx c hp=>((raw d.sz).K_one ((raw d.sz).K_of_M hp)))
  have ho':w.ownsRow base e d.sz v xs.length inner:=by rw[<-hl];exact ho
  refine⟨inner,ho',hone,⟨ho'.1,λj x hj=>?_⟩⟩
  have hjl:j<rows.length:=by have:=(List.getElem?_eq_some_iff.1 hj).1;omega
  have hc:=hr.2 j _ (List.getElem?_eq_getElem hjl)
  have hK:=(raw d.sz).K_of_M hc
  have:=hf j x rows[j] hj (List.getElem?_eq_getElem hjl)
  rw[<-hK.1]at this
  exact this
theorem N_close (h0:∀k,v.ownBlock=some k->ok k) (hown:w.ownsRow base e d.sz v xs.length inner) (h1:∀u∈inner,u.oneCell'=true)
    (hr:Reps (λx c=>FK d w (λk=>ok k/\some k≠v.ownBlock) x c) d.sz xs inner):N d e w base ok v xs:=by
  refine⟨h0,chunks d.sz xs.length inner,chunks_length _ _ _,⟨λk hk=>hk.symm,inner,by rw[chunks_length];exact hown,⟨by rw[chunks_length];exact hown.1,λj q hj=>?_⟩⟩,λj x c hx hc=>?_⟩
  · have hq:=chunks_get hj
    have hjl:j<xs.length:=by have:=(List.getElem?_eq_some_iff.1 hj).1;rwa [chunks_length]at this
    refine⟨hq.symm,?_,λu hu=>h1 u (List.mem_of_mem_drop (i:=j*d.sz) (List.mem_of_mem_take (i:=d.sz) hu))⟩
    show(List.take d.sz (List.drop (j*d.sz) inner)).length =d.sz
    rw[List.length_take,List.length_drop,hown.1]
    have:(j+1)*d.sz<=xs.length*d.sz:=Nat.mul_le_mul_right _ (by omega)
    rw[Nat.add_mul]at this
    omega
  · rw[chunks_get hc]
    exact hr.2 j x hx
theorem FK_after {x:α} {c:List Value} (h:FK d W (λk=>ok k/\some k≠v.ownBlock) x c) (hg:W.grownBy w1 v.ownBlock) (hat:v1.ownBlock=v.ownBlock\/v1.ownBlock=some W.heap.size):FK d w1 (λk=>ok k/\some k≠v1.ownBlock) x c:=by
  refine FK_mono (FK_step (FK_bound h) (λk hk hlt=>hg.block k hlt hk.1.2)) (λk hk=>⟨hk.1.1,?_⟩)
  rcases hat with hat|hb
  · rw[hat];exact hk.1.2
  · rw[hb]
    intro he
    injection he with he
    have:=hk.2
    omega
theorem N_inserted {i:Nat} (hi:i<=xs.length) (h0:∀k,v.ownBlock=some k->ok k) (h1:∀u∈inner,u.oneCell'=true) (hr:Reps (λx c=>FK d W (λk=>ok k/\some k≠v.ownBlock) x c) d.sz xs inner)
    (hp:FK d W (λk=>ok k/\some k≠v.ownBlock) p cs) (hcl:cs.length=d.sz) (hc1:∀u∈cs,u.oneCell'=true) (hfresh:∀k,W.heap.size<=k->ok k)
    (hown:w1.ownsRow base e d.sz v1 (xs.length+1) (inner.take (i*d.sz)++cs++inner.drop (i*d.sz))) (hg:W.grownBy w1 v.ownBlock) (hat:v1.ownBlock=v.ownBlock\/v1.ownBlock=some W.heap.size):N d e w1 base ok v1 (xs.take i++[p]++xs.drop i):=by
  have hl:(xs.take i++[p]++xs.drop i).length =xs.length+1:=by
    simp only[List.length_append,List.length_take,List.length_drop,List.length_singleton];omega
  refine N_close (inner:=inner.take (i*d.sz)++cs++inner.drop (i*d.sz)) (λk hk=>?_) (by rw[hl];exact hown) (λu hu=>?_) ?_
  · rcases hat with hat|hat
    · exact h0 k (hat▸hk)
    · rw[hat]at hk;injection hk with hk;exact hfresh k (by omega)
  · rcases List.mem_append.1 hu with hu|hu
    · rcases List.mem_append.1 hu with hu|hu
      · exact h1 u (List.mem_of_mem_take hu)
      · exact hc1 u hu
    · exact h1 u (List.mem_of_mem_drop hu)
  · refine Reps.imp_ (R:=λx c=>FK d W (λk=>ok k/\some k≠v.ownBlock) x c) ?_ (λ_ _ h=>FK_after h hg hat)
    refine reps_append (reps_append (reps_take hr hi) ?_) (reps_drop hr)
    have:=Reps.snoc (Reps.none (λx c=>FK d W (λk=>ok k/\some k≠v.ownBlock) x c) d.sz) hp hcl
    simpa using this
theorem N_deleted {P:Program} {t:TypeId} {cap i:Nat} {cur:Array Value} (z:Value) (ht:P.underlying t=some (.slice e)) (hz:∀w,(zeroValue e).run P w= .ok z w) (hzs:z.cells.size=d.sz) (hs0:0<d.sz) (hz1:∀u∈z.cells.toList,u.oneCell'=true)
    (h:N d e W base ok (.slice (some ⟨g,0,none⟩) n cap) xs) (hg:W.heap[g]? =some (.cells cur e (0,0))) (hi:i<n) (hX:w1=W.setRow g (cur.toList.take (i*d.sz)++(cur.toList.drop ((i+1)*d.sz)).take ((n-(i+1))*d.sz)++cur.toList.drop ((n-1)*d.sz)).toArray):
    ∃w2,(∀ty,(Builtin.clear_ #[t] ty #[.slice (some ⟨g,(n-1)*d.sz,none⟩) 1 (cap-(n-1))]).run P w1= .ok (.tuple #[]) w2)/\W.grownBy w2 (some g)/\N d e w2 base ok (.slice (some ⟨g,0,none⟩) (n-1) cap) (xs.take i++xs.drop (i+1)):=by
  have hn:n=xs.length:=(N_reads' h).1
  obtain⟨inner,hown,h1,hr⟩:=N_open h hs0
  have h0:=h.1
  rcases hown.2 with⟨he,he0⟩|⟨g',cap',cur',he,hbg,hg',hnc,hcm,hcs,htake⟩
  · injection he with h1 h2 h3;omega
  · injection he with e1 e2 e3
    injection e1 with e1
    injection e1 with e1 _ _
    subst e1
    subst e3
    rw[hg]at hg'
    injection hg' with hg'
    injection hg' with hg' _ _
    subst hg'
    have hcl:cur.toList.length=cap*d.sz:=by simpa using hcs
    have m1:(i+1)*d.sz<=n*d.sz:=Nat.mul_le_mul_right _ (by omega)
    have m2:n*d.sz<=cap*d.sz:=Nat.mul_le_mul_right _ (by omega)
    have m3:i*d.sz+d.sz=(i+1)*d.sz:=by rw[Nat.add_mul,Nat.one_mul]
    have m4:(i+1)*d.sz+(n-(i+1))*d.sz=n*d.sz:=by rw[<-Nat.add_mul];congr 1;omega
    have m5:(n-1)*d.sz+d.sz=n*d.sz:=by
      obtain⟨m,rfl⟩:∃m,n=m+1:=⟨n-1,by omega⟩
      rw[Nat.add_mul,Nat.one_mul];rfl
    have ht2:cur.toList.take (n*d.sz)=inner:=by rw[hn];exact htake
    obtain⟨X,hXd⟩:∃X,X=(cur.toList.take (i*d.sz)++(cur.toList.drop ((i+1)*d.sz)).take ((n-(i+1))*d.sz)++cur.toList.drop ((n-1)*d.sz)).toArray :=⟨_,rfl⟩
    rw[<-hXd]at hX
    have hXl:X.toList.length=cap*d.sz:=by
      rw[hXd];simp only[List.length_append,List.length_take,List.length_drop,hcl];omega
    have hXs:X.size=cap*d.sz:=by rw[<-hXl,Array.length_toList]
    obtain⟨inner1,hin1⟩:∃l,l=inner.take (i*d.sz)++inner.drop ((i+1)*d.sz)++inner.drop ((n-1)*d.sz):=⟨_,rfl⟩
    have il:inner.length=n*d.sz:=by rw[hown.1,hn]
    have e1:cur.toList.take (i*d.sz)=inner.take (i*d.sz):=by rw[<-ht2,List.take_take];congr 1;omega
    have e2:(cur.toList.drop ((i+1)*d.sz)).take ((n-(i+1))*d.sz)=inner.drop ((i+1)*d.sz):=by rw[<-ht2,List.drop_take];congr 1;omega
    have e3:(cur.toList.drop ((n-1)*d.sz)).take d.sz=inner.drop ((n-1)*d.sz):=by rw[<-ht2,List.drop_take];congr 1;omega
    have hXt:X.toList.take (n*d.sz)=inner1:=by
      rw[hXd,List.toList_toArray,hin1,e1,e2,List.take_append,List.take_of_length_le (by simp only[List.length_append,List.length_take,List.length_drop,il];omega)]
      congr 1
      rw[<-e3]
      congr 1
      simp only[List.length_append,List.length_take,List.length_drop,il];omega
    have hw1g:w1.heap[g]? =some (.cells X e (0,0)):=by rw[hX];exact setRow_heap W g cur X e _ hg
    have hgr:W.grownBy w1 (some g):=by rw[hX];exact⟨rfl,rfl,rfl,by simp[World.setRow],λk hk hne=>setRow_other W g k X (λe_=>hne (by rw[e_]))⟩
    have hil1:inner1.length=n*d.sz:=by
      rw[hin1];simp only[List.length_append,List.length_take,List.length_drop,il];omega
    have h11:∀u∈inner1,u.oneCell'=true:=by
      intro u hu
      rw[hin1]at hu
      rcases List.mem_append.1 hu with hu|hu
      · rcases List.mem_append.1 hu with hu|hu
        · exact h1 u (List.mem_of_mem_take hu)
        · exact h1 u (List.mem_of_mem_drop hu)
      · exact h1 u (List.mem_of_mem_drop hu)
    have hR:(raw d.sz).R e w1 base (λk=>some k=(Value.slice (some ⟨g,0,none⟩) n cap).ownBlock) (.slice (some ⟨g,0,none⟩) n cap) (chunks d.sz n inner1):=by
      refine⟨λk hk=>hk.symm,inner1,⟨by rw[chunks_length];exact hil1,.inr ⟨g,cap,X,by rw[chunks_length],hbg,hw1g,by rw[chunks_length];omega,hcm,hXs,by rw[chunks_length];exact hXt⟩⟩,⟨by rw[chunks_length];exact hil1,λj q hj=>?_⟩⟩
      have hq:=chunks_get hj
      have hjl:j<n:=by have:=(List.getElem?_eq_some_iff.1 hj).1;rwa [chunks_length]at this
      refine⟨hq.symm,?_,λu hu=>h11 u (List.mem_of_mem_drop (i:=j*d.sz) (List.mem_of_mem_take (i:=d.sz) hu))⟩
      show(List.take d.sz (List.drop (j*d.sz) inner1)).length =d.sz
      rw[List.length_take,List.length_drop,hil1]
      have:(j+1)*d.sz<=n*d.sz:=Nat.mul_le_mul_right _ (by omega)
      rw[Nat.add_mul]at this
      omega
    obtain⟨w2,hrun,hg2,hR2⟩:=R_clear (P:=P) (d:=raw d.sz) (i:=n-1) z ht hz (show z.cells.size=(raw d.sz).sz from hzs) (show 0<(raw d.sz).sz from hs0) hz1 hR (by omega)
    have hgr2:W.grownBy w2 (some g):=⟨hg2.os.trans hgr.os,hg2.tape.trans hgr.tape,hg2.output.trans hgr.output,Nat.le_trans hgr.size hg2.size,λk hk hne=>(hg2.block k (Nat.lt_of_lt_of_le hk hgr.size) hne).trans (hgr.block k hk hne)⟩
    refine⟨w2,λty=>?_,hgr2,?_⟩
    · have:=hrun ty
      rw[if_neg (show ¬cap=n-1 by omega)]at this
      rw[show n-(n-1)=1 by omega]at this
      rw[show(raw d.sz).sz =d.sz from rfl]at this
      simpa[add_plain]using this
    · have hx:(xs.take i++xs.drop (i+1)).length =n-1:=by simp only[List.length_append,List.length_take,List.length_drop];omega
      have hrep:Reps (λx c=>FK d W (λk=>ok k/\some k≠(Value.slice (some ⟨g,0,none⟩) n cap).ownBlock) x c) d.sz (xs.take i++xs.drop (i+1)++xs.drop (n-1)) inner1:=by
        rw[hin1]
        exact reps_append (reps_append (reps_take hr (by omega)) (reps_drop hr)) (reps_drop hr)
      refine⟨h0,(chunks d.sz n inner1).take (n-1),by rw[List.length_take,chunks_length,hx];omega,hR2,λj x c hj hc=>?_⟩
      have hjl:j<n-1:=by have:=(List.getElem?_eq_some_iff.1 hj).1;omega
      rw[List.getElem?_take,if_pos hjl]at hc
      rw[chunks_get hc]
      have h3:=hrep.2 j x (by rw[List.getElem?_append_left (by omega)];exact hj)
      exact FK_after (v:= .slice (some ⟨g,0,none⟩) n cap) (v1:= .slice (some ⟨g,0,none⟩) (n-1) cap) h3 hgr2 (.inl rfl)
end
end Kd
end Go.Proofs.YtbpoflicphgokaaW.PrintWords
namespace Go.Proofs.YtbpoflicphgokaaW.PrintWords.Kd
open Go.RowKit
set_option linter.unusedVariables false
set_option linter.unusedSimpArgs false
section
variable {α : Type} {d d' : Kd α} {e base b b' n g cap : Nat} {ok okp : Nat → Prop} {w w1 W : World} {v : Value} {xs : List α} {x : α} {c : List Value}
def own (d:Kd α) (b:Nat):Kd α where
  sz:=d.sz
  E:=d.E
  K:=λw x cs=>∃ok,d.M w b ok x cs
  M:=λw base ok x cs=>d.M w (max b base) ok x cs
  K_len:=λ⟨_,h⟩=>d.K_len (d.K_of_M h)
  K_one:=λ⟨_,h⟩=>d.K_one (d.K_of_M h)
  K_below:=λhb ⟨ok,h⟩=>⟨_,d.M_move (λk hk=>hb.block k hk.2.2.1) (d.M_bound h)⟩
  K_of_M:=λh=>⟨_,d.M_lower (Nat.le_max_left _ _) h⟩
  M_mono:=λhok h=>d.M_mono hok h
  M_bound:=λh=>d.M_mono (λk hk=>⟨hk.1,Nat.le_trans (Nat.le_max_right _ _) hk.2.1,hk.2.2⟩) (d.M_bound h)
  M_move:=λhm h=>d.M_move hm h
  M_lower:=λhb h=>d.M_lower (by omega) h
theorem N_imp (hs:d'.sz=d.sz) (hK:∀w x c,d.K w x c->d'.K w x c) (h:N d e w base ok v xs):N d' e w base ok v xs:=by
  obtain⟨h0,rows,hl,hR,hf⟩:=h
  exact⟨h0,rows,hl,by rw[hs];exact hR,λj x c hx hc W hW=>hK _ _ _ (hf j x c hx hc W hW)⟩
theorem own_N (h:N (own d b) e w base ok v xs):N d e w base ok v xs:=N_imp (d:=own d b) (d':=d) rfl (λ_ _ _ ⟨_,h⟩=>d.K_of_M h) h
theorem own_FK (h:FK (own d b) w ok x c):FK d w ok x c:=λW hW=>by
  obtain⟨_,h⟩:=h W hW
  exact d.K_of_M h
theorem own_lower (h:N (own d b) e w base ok v xs) (hb:b'<=b):N (own d b') e w base ok v xs:=N_imp (d:=own d b) (d':=own d b') rfl (λ_ _ _ ⟨_,h⟩=>⟨_,d.M_lower hb h⟩) h
theorem own_lowerFK (h:FK (own d b) w ok x c) (hb:b'<=b):FK (own d b') w ok x c:=λW hW=>by
  obtain⟨_,h⟩:=h W hW
  exact⟨_,d.M_lower hb h⟩
theorem own_V (h:N d e w base ok v xs):V d e w base ok v xs:=by
  obtain⟨A,c,rfl⟩:=N_slice h
  have:=(N_reads' h).2
  exact⟨A,c,rfl,this.1,N_F h⟩
def Pre (d:Kd α) (z:α) (b:Nat) (W:World) (ok:Nat->Prop) (A:Option Addr) (xs:List α) (m:Nat):Prop:=
  ∀g,A=some ⟨g,0,none⟩->∀j,j<m->∀c:List Value,c.length=d.sz->(∀i u,c[i]? =some u->W.cell? ⟨g,j*d.sz+i,none⟩=some u)->FK (own d b) W (λk=>ok k/\k≠g) (xs.getD j z) c
theorem Pre_zero (z:α) {A:Option Addr} :Pre d z b W ok A xs 0:=λ_ _ _ hj=>absurd hj (by omega)
theorem Pre_le {z:α} {A:Option Addr} {m m':Nat} (h:Pre d z b W ok A xs m) (hm:m'<=m):Pre d z b W ok A xs m':=λg hA j hj=>h g hA j (Nat.lt_of_lt_of_le hj hm)
theorem Pre_below {z:α} {A:Option Addr} {m:Nat} (h:Pre d z b W ok A xs m) (hg:∀g,A=some ⟨g,0,none⟩->g<W.heap.size) (hb:Below W.heap.size W w1):Pre d z b w1 ok A xs m:=λg hA j hj c hc hcc=>
  FK_below (h g hA j hj c hc (λi u hu=>by
    have:=hcc i u hu
    rwa [show w1.cell? ⟨g,j*d.sz+i,none⟩=W.cell? ⟨g,j*d.sz+i,none⟩by simp[World.cell?,hb.block g (hg g hA)]]at this)) hb
theorem cells_eq {w:World} {c c':List Value} {g o:Nat} (hl:c.length=c'.length) (h:∀i u,c[i]? =some u->w.cell? ⟨g,o+i,none⟩=some u) (h':∀i u,c'[i]? =some u->w.cell? ⟨g,o+i,none⟩=some u):c=c':=by
  apply List.ext_getElem?
  intro i
  by_cases hi:i<c.length
  · have h1:=h i _ (List.getElem?_eq_getElem hi)
    rw[h' i _ (List.getElem?_eq_getElem (by omega))]at h1
    rw[List.getElem?_eq_getElem hi,List.getElem?_eq_getElem (by omega),<-h1]
  · rw[List.getElem?_eq_none (by omega),List.getElem?_eq_none (by omega)]
theorem Pre_set {z:α} {i:Nat} {c0:List Value} (h:Pre d z b W ok (some ⟨g,0,none⟩) xs i) (hi:i<xs.length) (hgr:W.grownBy w1 (some g))
    (hcell:∀j,j<i*d.sz->w1.cell? ⟨g,j,none⟩=W.cell? ⟨g,j,none⟩) (hcl:c0.length=d.sz) (hc0:∀j u,c0[j]? =some u->w1.cell? ⟨g,i*d.sz+j,none⟩=some u)
    (hx:FK (own d b) w1 (λk=>ok k/\k≠g) x c0):Pre d z b w1 ok (some ⟨g,0,none⟩) (xs.set i x) (i+1):=by
  intro g' hg' j hj c hc hcc
  obtain rfl:g=g':=by injection hg' with e;injection e
  by_cases hji:j=i
  · subst hji
    rw[cells_eq (hc.trans hcl.symm) hcc hc0,List.getD_eq_getElem?_getD,List.getElem?_set_self hi]
    exact hx
  · rw[List.getD_eq_getElem?_getD,List.getElem?_set_ne (Ne.symm hji),<-List.getD_eq_getElem?_getD]
    refine FK_step (h g rfl j (by omega) c hc (λi' u hu=>?_)) (λk hk hlt=>hgr.block k hlt (λe_=>hk.2 (by injection e_)))
    have hil:i'<c.length:=(List.getElem?_eq_some_iff.1 hu).1
    have h1:j*d.sz+d.sz<=i*d.sz:=by rw[<-Nat.succ_mul];exact Nat.mul_le_mul_right _ (by omega)
    rw[<-hcell _ (by omega)]
    exact hcc i' u hu
theorem Pre_N {z:α} {A:Option Addr} (hs:0<d.sz) (h:N d e W base ok (.slice A n cap) xs) (hP:Pre d z b W ok A xs xs.length):N (own d b) e W base ok (.slice A n cap) xs:=by
  have hn:=(N_reads' h).1
  obtain⟨h0,rows,hl,hR,hf⟩:=h
  refine⟨h0,rows,hl,hR,λj x c hx hc=>?_⟩
  obtain⟨hjl,hjx⟩:=List.getElem?_eq_some_iff.1 hx
  rcases A with _|ad
  · have:=(R_reads' hR).2.2.2.2 (by omega)
    obtain⟨_,he,_⟩:=this
    cases he
  obtain⟨g,rfl⟩:=R_head hR
  obtain⟨c',hcl,hM,hcc,_⟩:=R_elem hR [] (j:Int) (by omega) (by omega)
  have hM1:=hM.1
  rw[Int.toNat_natCast]at hM1 hcc
  rw[List.getD_eq_getElem?_getD,hc]at hM1
  have hM1:c'=c:=hM1
  subst hM1
  have:=hP g rfl j hjl c' hcl (λi u hu=>hcc i u hu)
  rw[List.getD_eq_getElem?_getD,hx]at this
  exact FK_mono this (λk hk=>⟨hk.1,λe_=>hk.2 (by simpa[Value.ownBlock]using e_)⟩)
end
end Go.Proofs.YtbpoflicphgokaaW.PrintWords.Kd
namespace Go.Proofs.Ytbpoflicphgokaa.Q18
open Go.RowKit Go.Proofs.YtbpoflicphgokaaW.PrintWords Go.Proofs.YtbpoflicphgokaaW.PrintWords.Kd
abbrev o32 (b:Nat):Kd S32:=Kd.own k32 b
theorem k56_N_R {w:World} {b:Nat} {ok:Nat->Prop} {v:Value} {xs:List S56} (h:Kd.N k56 56 w b ok v xs):k56.R 56 w b ok v xs:=by
  obtain⟨inner,ho,_,hr⟩:=N_open h (by decide)
  exact⟨h.1,inner,ho,hr.imp_ (λp c hp=>FK_now hp)⟩
theorem other_type (w:World) (k:Nat):∃w':World,(∀j,j≠k->w'.heap[j]? =w.heap[j]?)/\∀cells:Array Value,w'.heap[k]? ≠some (.cells cells 56 (0,0)):=by
  refine⟨{w with heap:=w.heap.setIfInBounds k (.cells #[] 57)},λj hj=>by simp[Ne.symm hj],λcells h=>?_⟩
  rw[Array.getElem?_setIfInBounds]at h
  split at h
  · split at h
    · injection h with h;injection h with _ h _;cases h
    · cases h
  · rename_i h';exact h' rfl
theorem o32_openF {W:World} {b:Nat} {ok:Nat->Prop} {x:S32} {cs:List Value} (h:Kd.FK (o32 b) W ok x cs):∃A3 c3,cs=[.int .i64 x.f0,.int .i64 x.f1,.int .i64 x.f2,.slice A3 x.f3.length c3]/\x.f3.length<=c3/\Kd.N k56 56 W b ok (.slice A3 x.f3.length c3) x.f3:=by
  obtain⟨ok',hM⟩:=FK_now h
  obtain⟨v3,rfl,hR⟩:=k32_openM hM
  obtain⟨A3,c3,rfl⟩:=R_slice hR
  refine⟨A3,c3,rfl,(R_reads' hR).2.1,R_N (R_reok rfl hR (λk hk=>?_))⟩
  by_cases hok:ok k
  · exact hok
  · obtain⟨W',h1,h2⟩:=other_type W k
    obtain⟨ok2,hM2⟩:=h W' (λj hj _=>h1 j (λe=>hok (e▸hj)))
    obtain⟨v4,he,hR2⟩:=k32_openM hM2
    have he:Value.slice A3 x.f3.length c3=v4:=Option.some.inj (congrArg (λl=>l[3]?) he)
    obtain⟨cells,hc⟩:=R_typed (he▸hR2) k hk
    exact absurd hc (h2 cells)
theorem o32_mkF (W:World) (b:Nat) (ok:Nat->Prop) (x:S32) {A3:Option Addr} {c3:Nat} (g3:Kd.N k56 56 W b ok (.slice A3 x.f3.length c3) x.f3):Kd.FK (o32 b) W ok x [.int .i64 x.f0,.int .i64 x.f1,.int .i64 x.f2,.slice A3 x.f3.length c3]:=λW2 hW=>
  ⟨ok,k32_mkM W2 b ok x (k56_N_R (N_step g3 hW))⟩
theorem Pre_links {W:World} {b g i:Nat} {ok:Nat->Prop} {xs:List S32} {x:S32} {A3:Option Addr} {c3:Nat} {u:Value} (h:Pre k32 z32 b W ok (some ⟨g,0,none⟩) xs i) (hi:i<xs.length)
    (hgr:W.grownBy (W.setCell ⟨g,i*4+3,none⟩ (.slice A3 x.f3.length c3)) (some g)) (h0:W.cell? ⟨g,i*4,none⟩=some (.int .i64 x.f0)) (h1:W.cell? ⟨g,i*4+1,none⟩=some (.int .i64 x.f1)) (h2:W.cell? ⟨g,i*4+2,none⟩=some (.int .i64 x.f2)) (h3:W.cell? ⟨g,i*4+3,none⟩=some u)
    (hR:k56.R 56 W b (λk=>ok k/\k≠g) (.slice A3 x.f3.length c3) x.f3):Pre k32 z32 b (W.setCell ⟨g,i*4+3,none⟩ (.slice A3 x.f3.length c3)) ok (some ⟨g,0,none⟩) (xs.set i x) (i+1):=by
  have hne:∀j,j≠i*4+3->(W.setCell ⟨g,i*4+3,none⟩ (.slice A3 x.f3.length c3)).cell? ⟨g,j,none⟩=W.cell? ⟨g,j,none⟩:=λj hj=>by rw[World.cell?_setCell_other];exact λe=>hj (by injection e with _ e _;exact e.symm)
  refine Pre_set (c0:=[.int .i64 x.f0,.int .i64 x.f1,.int .i64 x.f2,.slice A3 x.f3.length c3]) h hi hgr (λj hj=>hne j (by have:j<i*4:=hj;omega)) rfl (λj u hu=>?_) (o32_mkF _ b _ x (R_N (R_step hR (λk hk hlt=>hgr.block k hlt (λe=>hk.2 (by injection e))))))
  show(W.setCell ⟨g,i*4+3,none⟩ (.slice A3 x.f3.length c3)).cell? ⟨g,i*4+j,none⟩=some u
  rcases j with _|_|_|_|j
  · rw[hne _ (by omega)];exact h0.trans hu
  · rw[hne _ (by omega)];exact h1.trans hu
  · rw[hne _ (by omega)];exact h2.trans hu
  · exact(by rw[World.cell?_setCell_same (h:=h3)];exact hu)
  · simp at hu
end Go.Proofs.Ytbpoflicphgokaa.Q18
namespace Go.Proofs.Ytbpoflicphgokaa.Q18
open Go.RowKit Go.Proofs.YtbpoflicphgokaaW.PrintWords Go.Proofs.YtbpoflicphgokaaW.PrintLast Go.Proofs.YtbpoflicphgokaaW.PrintMore
set_option linter.unusedVariables false
set_option linter.unusedSimpArgs false
theorem spoil_some:∀(d k i:Nat) (l:List S56),l.length<=1000->i+d=l.length->d<k->∃m,watchwordlaw0_SpoilLinks.l0 k l (i:Int)=some m:=by
  intro d
  induction d with
  | zero=>
    intro k i l hl hi hk
    obtain⟨k,rfl⟩:∃m,k=m+1:=⟨k-1,by omega⟩
    simp only[watchwordlaw0_SpoilLinks.l0]
    exact⟨l,if_neg (by omega)⟩
  | succ d ih=>
    intro k i l hl hi hk
    obtain⟨k,rfl⟩:∃m,k=m+1:=⟨k-1,by omega⟩
    have h4:wrap64 ((i:Int)+1)=((i+1:Nat):Int):=by rw[IntWalk.wrap64_in _ ⟨by omega,by omega⟩];omega
    simp only[watchwordlaw0_SpoilLinks.l0,h4]
    rw[if_pos (by omega),if_pos (by omega)]
    exact ih k (i+1) _ (by rw[List.length_set];exact hl) (by rw[List.length_set];omega) (by omega)
theorem spoil_links (l:List S56) (hl:l.length<=1000):∃m,watchwordlaw0_SpoilLinks.f 2000 l=some m:=
  spoil_some l.length 2000 0 l hl (by omega) (by omega)
theorem R_IK {w w':World} {b:Nat} {ok:Nat->Prop} {v:Value} {l:List S56} (hk:IK w w') (h:k56.R 56 w b ok v l):∃l',l'.length=l.length/\k56.R 56 w' b ok v l':=by
  obtain⟨h0,inner,⟨h1,h2⟩,hr⟩:=h
  rcases h2 with⟨rfl,hn⟩|⟨g,cap,cur,rfl,hb,hg,hn,hm,hs,ht⟩
  · exact⟨[],hn.symm,Kd.R_nil _ _ _ _ _⟩
  · obtain⟨cur',hg',hs',hi⟩:=hk g cur hg
    have ht:List.take (l.length*2) cur.toList=inner:=ht
    have hs:cur.size=cap*2:=hs
    have hcell:∀j,j<l.length*2->∃z,cur'[j]? =some (.int .i64 z):=by
      intro j hj
      have hjl:j/2<l.length:=by omega
      have hx:=k56_openM (hr.2 (j/2) _ (List.getElem?_eq_getElem hjl))
      have e1:inner[j]? =(List.take 2 (List.drop (j/2*2) inner))[j % 2]? :=by
        rw[List.getElem?_take,if_pos (by omega),List.getElem?_drop];congr 1;omega
      have e2:cur[j]? =inner[j]? :=by
        rw[<-ht,List.getElem?_take,if_pos hj,Array.getElem?_toList]
      rw[show List.take k56.sz (List.drop (j/2*k56.sz) inner)=List.take 2 (List.drop (j/2*2) inner)from rfl]at hx
      rw[hx]at e1
      have hm2:j % 2=0\/j % 2=1:=by omega
      rcases hm2 with hm2|hm2
      · rw[hm2]at e1;exact hi j _ (e2.trans e1)
      · rw[hm2]at e1;exact hi j _ (e2.trans e1)
    obtain⟨f,hfd⟩:∃f:Nat->Int,f=λj=>match cur'[j]? with|some (.int .i64 z)=>z|_=>0:=⟨_,rfl⟩
    have hf:∀j,j<l.length*2->cur'[j]? =some (.int .i64 (f j)):=λj hj=>by
      obtain⟨z,hz⟩:=hcell j hj
      rw[hfd];simp only[hz]
    obtain⟨l',hl'⟩:∃l':List S56,l'=List.ofFn (n:=l.length) (λj=>(⟨f (j.1*2),f (j.1*2+1)⟩:S56)):=⟨_,rfl⟩
    have hll:l'.length=l.length:=by rw[hl',List.length_ofFn]
    have hsz:cur'.toList.length=cap*2:=by rw[Array.length_toList,hs',hs]
    refine⟨l',hll,h0,cur'.toList.take (l.length*2),⟨by rw[List.length_take,hsz,hll,show k56.sz=2 from rfl];first|done|omega,.inr ⟨g,cap,cur',by rw[hll],hb,hg',by omega,hm,hs'.trans hs,by rw[hll];rfl⟩⟩,⟨by rw[List.length_take,hsz,hll,show k56.sz=2 from rfl];first|done|omega,λj p hj=>?_⟩⟩
    have hjl:j<l.length:=by have:=(List.getElem?_eq_some_iff.1 hj).1;omega
    have hp:p=⟨f (j*2),f (j*2+1)⟩:=by
      rw[hl',List.getElem?_ofFn,dif_pos hjl]at hj
      exact(Option.some.inj hj).symm
    subst hp
    have:List.take k56.sz (List.drop (j*k56.sz) (List.take (l.length*2) cur'.toList))=[.int .i64 (f (j*2)),.int .i64 (f (j*2+1))]:=by
      rw[show k56.sz=2 from rfl]
      apply List.ext_getElem?
      intro i
      rw[List.getElem?_take]
      rcases i with _|_|i
      · rw[if_pos (by omega),List.getElem?_drop,List.getElem?_take,if_pos (by omega),Array.getElem?_toList];exact hf (j*2) (by omega)
      · rw[if_pos (by omega),List.getElem?_drop,List.getElem?_take,if_pos (by omega),Array.getElem?_toList];exact hf (j*2+1) (by omega)
      · rw[if_neg (by omega)];rfl
    rw[this]
    exact k56_mkM _ _ _ _
def Spo (b g:Nat) (w:World) (j:Nat):Prop:=∃r A n c l,w.cell? ⟨g,j*4,none⟩=some (.int .i64 r)/\w.cell? ⟨g,j*4+3,none⟩=some (.slice A n c)/\l.length<=1000/\k56.R 56 w b (λk=>b<=k/\k≠g) (.slice A n c) l
theorem Spo_N {b g n cap:Nat} {w:World} {ok:Nat->Prop} {xs:List S32} (h:Kd.N (o32 b) 32 w b ok (.slice (some ⟨g,0,none⟩) n cap) xs) (hx:∀x∈xs,x.f3.length<=1000) (j:Nat) (hj:j<n):Spo b g w j:=by
  have hn:=(Kd.N_reads' h).1
  obtain⟨c,hcl,hF,hcc,_⟩:=Kd.N_elem h z32 (j:Int) (by omega) (by omega)
  rw[Int.toNat_natCast]at hF hcc
  obtain⟨A,c3,rfl,hl,hN⟩:=o32_openF hF
  have hR:=k56_N_R hN
  refine⟨_,A,_,c3,_,hcc 0 _ rfl,hcc 3 _ rfl,?_,Kd.R_mono (Kd.R_bound hR) (λk hk=>⟨hk.2.1,hk.1.2⟩)⟩
  rw[List.getD_eq_getElem?_getD,List.getElem?_eq_getElem (by omega)]
  exact hx _ (List.getElem_mem _)
theorem Spo_IK {b g j:Nat} {w w':World} (h:Spo b g w j) (hk:IK w w') (hg:w'.heap[g]? =w.heap[g]?):Spo b g w' j:=by
  obtain⟨r,A,n,c,l,h0,h3,hl,hR⟩:=h
  obtain⟨l',hl',hR'⟩:=R_IK hk hR
  exact⟨r,A,n,c,l',by simpa[World.cell?,hg]using h0,by simpa[World.cell?,hg]using h3,by omega,hR'⟩
theorem Spo_set {b g j i:Nat} {w:World} {z:Int} (h:Spo b g w j):Spo b g (w.setCell ⟨g,i*4,none⟩ (.int .i64 z)) j:=by
  obtain⟨r,A,n,c,l,h0,h3,hl,hR⟩:=h
  have h3':(w.setCell ⟨g,i*4,none⟩ (.int .i64 z)).cell? ⟨g,j*4+3,none⟩=some (.slice A n c):=by
    rw[World.cell?_setCell_other];exact h3
    intro e;injection e with _ e _;omega
  have hR':k56.R 56 (w.setCell ⟨g,i*4,none⟩ (.int .i64 z)) b (λk=>b<=k/\k≠g) (.slice A n c) l:=Kd.R_far (p:=⟨g,i*4,none⟩) hR (λk hk=>hk.2) _
  by_cases hji:j=i
  · subst hji
    exact⟨z,A,n,c,l,by rw[World.cell?_setCell_same (h:=h0)],h3',hl,hR'⟩
  · refine⟨r,A,n,c,l,?_,h3',hl,hR'⟩
    rw[World.cell?_setCell_other];exact h0
    intro e;injection e with _ e _;omega
def KT (own:Option Nat) (w w':World):Prop:=∀(k:Nat) (cells:Array Value),w.heap[k]? =some (.cells cells 32 (0,0))->some k≠own->w'.heap[k]? =w.heap[k]?
theorem KT.then_ {own own':Option Nat} {w w1 w2:World} (h:KT own w w1) (h':KT own' w1 w2) (ho:own'=none\/own'=own):KT own w w2:=λk cells hk hne=>by
  have h1:=h k cells hk hne
  rw[<-h1]
  exact h' k cells (h1.trans hk) (by rcases ho with rfl|rfl;simp;exact hne)
theorem KT.blk {own:Option Nat} {w w':World} {k:Nat} {cells:Array Value} (h:KT own w w') (hk:w.heap[k]? =some (.cells cells 32 (0,0))) (hne:some k≠own):w'.heap[k]? =some (.cells cells 32 (0,0)):=(h k cells hk hne).trans hk
theorem IK.then_ {w w1 w2:World} (h:IK w w1) (h':IK w1 w2):IK w w2:=λk cur hc=>by
  obtain⟨c1,h1,h2,h3⟩:=h k cur hc
  obtain⟨c2,g1,g2,g3⟩:=h' k c1 h1
  exact⟨c2,g1,g2.trans h2,λj z hj=>by obtain⟨z1,hz⟩:=h3 j z hj;exact g3 j z1 hz⟩
theorem watchwordlaw0_SpoilLinks.spoilt (v:Value) (l:List S56) {ok:Nat->Prop} (w0 w:World) (hB:Below w0.heap.size w0 w) (h:k56.R 56 w w0.heap.size ok v l) (hl:l.length<=1000):
    Calls Try.prog 26 #[v] w λe w'=>e= .returned (.tuple #[])/\Below w0.heap.size w0 w'/\IK w w'/\KT none w w':=by
  obtain⟨m,hm⟩:=spoil_links l hl
  refine(watchwordlaw0_SpoilLinks.calls 2000 _ v l m w0 w hB (Kd.R_bound h) hm).mono ?_
  rintro e w' ⟨rfl,-,hb,hk,hi⟩
  refine⟨rfl,hb,hi,λk cells hc _=>hk.2 k (Array.getElem?_eq_some_iff.1 hc).1 (λh=>?_)⟩
  obtain⟨_,_,_,q,hq,cs,hcs⟩:=h
  rw[hc]at hcs
  injection hcs with hcs
  injection hcs with _ hcs _
  subst hcs
  revert hq
  decide
def SPR (b:Nat) (w:World) (A:Option Addr) (n:Nat):Prop:=(∀g,A=some ⟨g,0,none⟩->∀j,j<n->Spo b g w j)/\(0<n->∃g cells,A=some ⟨g,0,none⟩/\b<=g/\w.heap[g]? =some (.cells cells 32 (0,0)))
theorem SPR_N {b n cap:Nat} {w:World} {ok:Nat->Prop} {xs:List S32} {A:Option Addr} (h:Kd.N (o32 b) 32 w b ok (.slice A n cap) xs) (hx:∀x∈xs,x.f3.length<=1000):SPR b w A n:=by
  have hn:=(Kd.N_reads' h).1
  refine⟨λg hA j hj=>by subst hA;exact Spo_N h hx j hj,λhp=>?_⟩
  obtain⟨g,cap,ev,hbg,hgl,cells,hgc⟩:=Kd.N_form h (by omega)
  injection ev with ev
  exact⟨g,cells,ev,hbg,hgc⟩
theorem SPR_step {b n c:Nat} {own:Option Nat} {w w':World} {A:Option Addr} (hi:IK w w') (hk:KT own w w') (hne:own=none\/∀k,(Value.slice A n c).ownBlock =some k->some k≠own) (h:SPR b w A n):SPR b w' A n:=by
  have key:∀g,A=some ⟨g,0,none⟩->0<n->w'.heap[g]? =w.heap[g]? :=by
    rintro g rfl hp
    obtain⟨g',cells,e,hbg,hg⟩:=h.2 hp
    injection e with e
    injection e with e _ _
    subst e
    exact hk g cells hg (by rcases hne with rfl|hne;simp;exact hne g rfl)
  refine⟨λg hA j hj=>Spo_IK (h.1 g hA j hj) hi (key g hA (by omega)),λhp=>?_⟩
  obtain⟨g,cells,rfl,hbg,hg⟩:=h.2 hp
  exact⟨g,cells,rfl,hbg,(key g rfl hp).trans hg⟩
set_option maxHeartbeats 8000000 in
set_option maxRecDepth 100000 in
theorem watchwordlaw0_SpoilLsas.spoilt (A:Option Addr) (n c:Nat) (w0 w:World) (hB:Below w0.heap.size w0 w) (h:SPR w0.heap.size w A n) (hn:n<=1000000) (hc0:n<=c):
    Calls Try.prog 25 #[.slice A n c] w λe w'=>e= .returned (.tuple #[])/\Below w0.heap.size w0 w'/\IK w w'/\KT (Value.slice A n c).ownBlock w w':=by
  have HN0:=Aside0.mk hn
  have HB:=Aside0.mk hB
  have HSP:=Aside0.mk h.1
  have HFO:=Aside0.mk h.2
  have HC0:=Aside0.mk hc0
  clear h hB hn
  go_enter Try.func25,Try.ntmps25
  go_wp2
  go_loopg [2] n (λkx s2 wr=>∃(i:Nat),s2= .int .i64 (i:Int)/\Aside0 (i<=n)/\Aside0 (n-i<=kx)/\Aside0 (∀g,A=some ⟨g,0,none⟩->∀j,j<n->Spo w0.heap.size g wr j)/\Aside0 (0<n->∃g cells,A=some ⟨g,0,none⟩/\w0.heap.size<=g/\wr.heap[g]? =some (.cells cells 32 (0,0)))/\Aside0 (Below w0.heap.size w0 wr)/\Aside0 (IK w wr)/\Aside0 (KT (Value.slice A n c).ownBlock w wr))
  case atStart=>exact⟨0,rfl,⟨Nat.zero_le _⟩,⟨by omega⟩,HSP,HFO,HB,⟨IK.refl w⟩,⟨λ_ _ _ _=>rfl⟩⟩
  case round=>
    clear HSP HFO HB
    obtain⟨i,rfl,HI,HK,HSP,HFO,HB,HF,HT⟩:=hrel
    by_cases hi:i<n
    · obtain⟨g,cells,rfl,hbg,hg⟩:=HFO.out (by omega)
      have hc:decide (i<n)=true:=decide_eq_true hi
      obtain⟨r,A3,n3,c3,l,hx0,hc3,hl3,hv3⟩:=HSP.out g rfl i hi
      have hn3:n3=l.length:=(Kd.R_reads' hv3).1
      subst hn3
      have HV:=Aside0.mk hv3
      have HM:=Aside0.mk hl3
      have HG:=Aside0.mk hg
      have HBG:=Aside0.mk hbg
      clear hv3 hg hbg hl3 hx0 HFO
      go_upto_region 4 with(first|((with_reducible refine gate_callee (f:=26) rfl ?_);refine goesL_ (some 14) rfl rfl Try.func26 (by kernel_rfl) rfl #[.slice A3 l.length c3] rfl (by(try simp only[List.map_toArray,List.map_cons,List.map_nil]);first|done|rfl) ?_;(with_reducible refine(watchwordlaw0_SpoilLinks.spoilt (.slice A3 l.length c3) l w0 wr HB.out HV.out HM.out).mono ?_);rintro e w5 ⟨rfl,hb5,hi5,hk5⟩;refine⟨_,rfl,?_⟩;have HB5:=Aside0.mk hb5;have HK5:=Aside0.mk hk5;have HI5:=Aside0.mk hi5;clear hb5 hk5 hi5))
      have hg5:w5.heap[g]? =wr.heap[g]? :=HK5.out g _ HG.out (by simp)
      have HSP5:=Aside0.mk (show ∀j,j<n->Spo w0.heap.size g w5 j from λj hj=>Spo_IK (HSP.out g rfl j hj) HI5.out hg5)
      have HF5:=Aside0.mk (IK.then_ HF.out HI5.out)
      have HT5:=Aside0.mk (KT.then_ HT.out HK5.out (.inl rfl))
      have HG5:=Aside0.mk (hg5.trans HG.out)
      obtain⟨r5,A5,n5,c5,l5,hx6,-,-,-⟩:=HSP5.out i hi
      have hf6:w5.frozen? ⟨g,i*4,none⟩=false:=blk_frozen HG5.out _
      clear hg5 HSP HF HT HG HK5 HI5 HB HV HM hc3
      go_wp2_with (first|((with_reducible refine gate_store (t:=3) (p:=24) rfl ?_);refine store_event (t:=3) (p:=24) (v:=?vo_w7) (w1:=(w5.setCell ⟨g,i*4,none⟩ (.int .i64 (Go.bits .xor .i64 r5 90)))) ?hg ?ho ?hn ?hr ?_;(case ho=>rfl);(case hg=>rfl);(case hn=>rfl);(case hr=>first|(go_simp;done)|(go_simp;rfl));intro w7 hw;have HW7:=Aside0.mk hw;clear hw))
      go_roundg (n-(i+1))
      case measure=>have:=HK.out;omega
      case rel=>
        refine⟨i+1,by have hN:=HN0.out;first|rfl|(rw[IntWalk.wrap64_in _ ⟨by omega,by omega⟩];rfl),⟨by omega⟩,⟨Nat.le_refl _⟩,⟨λg' hg' j hj=>?_⟩,⟨λ_=>?_⟩,⟨?_⟩,⟨?_⟩,⟨?_⟩⟩
        · injection hg' with hg';injection hg' with hg';subst hg';rw[HW7.out];exact Spo_set (HSP5.out j hj)
        · obtain⟨c',hc'⟩:∃c',w7.heap[g]? =some (.cells c' 32 (0,0)):=⟨_,by rw[HW7.out];exact blk_put HG5.out (i*4) _ rfl⟩
          exact⟨g,c',rfl,HBG.out,hc'⟩
        · rw[HW7.out];exact below_set HB5.out HBG.out
        · rw[HW7.out];exact IK.setCell HF5.out _ _ _
        · rw[HW7.out];exact λk cells hk hne=>(Below.heap_setCell w5 ⟨g,i*4,none⟩ _ k (λe=>hne (by rw[e];rfl))).trans (HT5.out k cells hk hne)
    · have hc:decide (i<n)=false:=decide_eq_false hi
      go_wp2
      first|go_end0|((try simp only[Exit.inBlock,Exit.then]);refine bodyPost_ret (results_none rfl _ _ _) rfl ?_)
      exact⟨by first|rfl|simp,HB.out,HF.out,HT.out⟩
end Go.Proofs.Ytbpoflicphgokaa.Q18
namespace Go.Proofs.Ytbpoflicphgokaa.Q18
open Go.RowKit Go.Proofs.YtbpoflicphgokaaW.PrintWords Go.Proofs.YtbpoflicphgokaaW.PrintLast Go.Proofs.YtbpoflicphgokaaW.PrintMore
attribute [local go_sem] max2_int min2_int max_two min_two max_three min_three max_four min_four
set_option linter.unusedVariables false
set_option linter.unusedSimpArgs false
theorem eqA56 (d:Nat) (w:World) (x0 y0:Int) (x1 y1:Int):
    (Op.equalIn (d+2) 56 (.agg #[.int .i64 x0,.int .i64 x1]) (.agg #[.int .i64 y0,.int .i64 y1])).run Try.prog w= .ok (x0==y0&&(x1==y1)) w:=by
  refine eqA_of Try.underlying56 (by kernel_rfl) ?_
  refine eqf_cons (by rfl) (by go_simp;rfl) (by go_simp;rfl) (by go_simp) ?_
  exact eqf_last (by rfl) (by go_simp;rfl) (by go_simp;rfl) (by go_simp)
end Go.Proofs.Ytbpoflicphgokaa.Q18
namespace Go.Proofs.Ytbpoflicphgokaa.Q18
open Go.RowKit Go.Proofs.Ytbpoflicphgokaa.Stp Go.Proofs.YtbpoflicphgokaaW.PrintWords Go.Proofs.YtbpoflicphgokaaW.PrintLast Go.Proofs.YtbpoflicphgokaaW.PrintMore
attribute [local go_sem] max2_int min2_int max_two min_two max_three min_three max_four min_four
set_option linter.unusedVariables false
set_option linter.unusedSimpArgs false
attribute [local go_sem high] eqA56
def watchwordlaw0_CopyLsa.f (a0_0:Int) (a0_1:Int) (a0_2:Int) (l0_3:List (S56)):Option (Int × Int × Int × (List (S56))):=(some (([]:List (S56)):List (S56))).bind λy243=>(if y243.length+l0_3.length<8796093022208 then(some (a0_0,a0_1,a0_2,(y243++l0_3)))else(none))
set_option maxHeartbeats 8000000 in
set_option maxRecDepth 100000 in
theorem watchwordlaw0_CopyLsa.calls (a0_0:Int) (a0_1:Int) (a0_2:Int) (A0_3:Option Addr) (c0_3:Nat) (l0_3:List (S56)) (r1:Int) (r2:Int) (r3:Int) (r4:List (S56)) (w:World) (hr0_3:Kd.C k56 w A0_3 l0_3.length l0_3) (hc0_3:l0_3.length<=c0_3) (h:watchwordlaw0_CopyLsa.f a0_0 a0_1 a0_2 l0_3=some (r1,r2,r3,r4)):
  Calls Try.prog 14 #[.agg #[.int .i64 a0_0,.int .i64 a0_1,.int .i64 a0_2,.slice A0_3 l0_3.length c0_3]] w λe w'=>∃v3_:Value,e= .returned (.agg #[.int .i64 r1,.int .i64 r2,.int .i64 r3,v3_])/\Kd.R k56 56 w' w.heap.size (λ_=>True) v3_ r4/\Below w.heap.size w w':=by
 have hu32:=Try.underlying32;have R0:=Aside0.mk hr0_3;have K0:=Aside0.mk hc0_3;clear hr0_3 hc0_3;have HB:=Aside0.mk (Below.refl w.heap.size w);have H:((some (([]:List (S56)):List (S56))).bind λy0=>(if y0.length+l0_3.length<8796093022208 then(some (a0_0,a0_1,a0_2,(y0++l0_3)))else(none)))=some (r1,r2,r3,r4):=h;clear h;obtain⟨y0,Y0⟩:∃y_:List (S56),y_=(([]:List (S56))):=⟨_,rfl⟩
 replace H:(if y0.length+l0_3.length<8796093022208 then(some (a0_0,a0_1,a0_2,(y0++l0_3)))else(none))=some (r1,r2,r3,r4):=by first|(rw[Y0];with_reducible exact H)|(have H2_:=(Option.bind_some _ _).symm.trans H;rw[Y0];with_reducible exact H2_)|(have H2_:=(Option.bind_some _ _).symm.trans H;with_reducible exact H2_)|with_reducible exact H|(rw[Y0];exact H)|exact H
 have Y1:=Aside0.mk Y0;clear Y0
 by_cases c2:y0.length+l0_3.length<8796093022208
 ·rw[if_pos c2]at H
  have L0:=Aside0.mk c2;clear c2;obtain⟨y1,Y2⟩:∃y_:List (S56),y_=(y0++l0_3):=⟨_,rfl⟩
  replace H:(some (a0_0,a0_1,a0_2,y1))=some (r1,r2,r3,r4):=by first|(rw[Y2];with_reducible exact H)|(have H2_:=(Option.bind_some _ _).symm.trans H;rw[Y2];with_reducible exact H2_)|(have H2_:=(Option.bind_some _ _).symm.trans H;with_reducible exact H2_)|with_reducible exact H|(rw[Y2];exact H)|exact H
  have Y3:=Aside0.mk Y2;clear Y2;simp only[Option.some.injEq,Prod.mk.injEq]at H;obtain⟨rfl,rfl,rfl,rfl⟩:=H
  go_enter Try.func14,Try.ntmps14
  go_wp2_with (first|((with_reducible refine gate_dst (N:=1) rfl ?_);refine bxV (N:=1) (cs:=#[.int .i64 a0_0,.int .i64 a0_1,.int .i64 a0_2,.slice A0_3 l0_3.length c0_3]) (t:=32) (h:=?_);intro g0 hg w3 hbox hb;have B0:=Aside0.mk (hbox);have G0:=Aside0.mk ((mH:w.heap.size<=g0));have G1:=Aside0.mk ((mH:w.heap.size<=g0));replace HB:=Aside0.mk (below_step mA hb);clear hb hbox hg)|((with_reducible refine gate_dst (N:=2) rfl ?_);refine bxV (N:=2) (cs:=#[.int .i64 0,.int .i64 0,.int .i64 0,.slice none 0 0]) (t:=32) (h:=?_);intro g1 hg w4 hbox hb;have B1:=Aside0.mk (hbox);have G2:=Aside0.mk ((mW:w.heap.size<=g1));have G3:=Aside0.mk ((mW:w.heap.size<=g1));replace HB:=Aside0.mk (below_step mB hb);have N0:=Aside0.mk ((mX:g0≠g1));have N1:=Aside0.mk ((mY:g1≠g0));replace B0:=Aside0.mk (blk_below mC hb);clear hb hbox hg)|((with_reducible refine gate_dst (N:=3) rfl ?_);refine Kd.R_lit k56 _ 56 ?hg (N:=3) ?hd (xs:=([]:List (S56))) (inner:=[]) (ok:=λ_=>True) (okp:=λ_=>True) ?hr ?hp (λ_ hk=>hk) trivial (Below.refl _ _) (Nat.le_refl _) mAY ?_;(case hd=>rfl);(case hg=>rfl);(case hr=>first|(go_simp;done)|(go_simp;rfl));(case hp=>exact(Reps.none _ _));intro v244 w5 ho6 hb hg_ hnew_;clear hg_ hnew_;(first|rw[<-Y1.out]at ho6|(simp only[Int.reduceToNat]at ho6;rw[<-Y1.out]at ho6));have O0:=Aside0.mk (Kd.R_lower ho6 (below_size mD));replace B0:=Aside0.mk (blk_below mC hb);replace B1:=Aside0.mk (blk_below mE hb);replace HB:=Aside0.mk (below_step mD hb);clear hb ho6;have n0:=N0.out;have n1:=N1.out;obtain⟨z0,z1,z2,z3⟩:=bc4 B0.out;have z4:=blk_frozen B0.out)|((with_reducible refine gate_builtin (b:= .append) (xs:=#[.tmp 3,.tmp 5]) rfl ?_);at_builtin;refine Kd.R_append_rows k56 (w0:=w) w.heap.size rfl (.tmp 3) (.tmp 5) 30 56 (.agg #[(.int .i64 0),(.int .i64 0)]) 16 rfl Try.underlying30 info56 rfl mAE mBX v244 y0 l0_3 _ _ _ (λ_=>True) (λ_=>False) rfl rfl ?aO ?aR (λ_ _ h=>h) (λ_ h=>h.elim) ?aF ?aB ?aS ?aL ?_;(case aR=>repeat (first|exact(Kd.C_below R0.out HB.out)|(with_reducible refine Kd.C_alloc ?_ _)|(with_reducible refine Kd.C_drewN ?_ _)|(with_reducible refine Kd.C_drew ?_)));(case aB=>exact mD);(case aF=>exact(λ_ _=>trivial));(case aO=>exact mQ);(case aS=>exact(below_size mD));(case aL=>have:=L0.out;omega);intro v247 w9 ho hb hg hat;rw[<-Y3.out]at ho;replace B0:=Aside0.mk (blk_grown (g:=g0) (o:= .cells #[.int .i64 a0_0,.int .i64 a0_1,.int .i64 a0_2,.slice A0_3 l0_3.length c0_3] 32 (0,0)) mC hg (Kd.R_ne O0.out B0.out mAE));replace B1:=Aside0.mk (blk_grown (g:=g1) (o:= .cells #[.int .i64 0,.int .i64 0,.int .i64 0,.slice none 0 0] 32 (0,0)) mE hg (Kd.R_ne O0.out B1.out mAE));replace HB:=Aside0.mk (hb);have O1:=Aside0.mk (ho);clear O0;clear ho hb hg hat;obtain⟨s0,s1,s2⟩:=Kd.R_slice O1.out;subst s2;obtain⟨z5,z6,z7,z8⟩:=bc4 B0.out;have z9:=blk_frozen B0.out)|((with_reducible refine gate_store (t:=30) (p:=7) rfl ?_);refine stV (t:=30) (p:=7) (w1:=(w9.setCell ⟨g0,3,none⟩ (.slice s0 y1.length s1))) (h:=?_);intro wa hw;replace O1:Aside0 (Kd.R k56 56 wa w.heap.size (λ_=>True) (.slice s0 y1.length s1) y1):=⟨mCD⟩;replace B0:Aside0 (wa.heap[g0]? =some (.cells #[.int .i64 a0_0,.int .i64 a0_1,.int .i64 a0_2,.slice s0 y1.length s1] 32 (0,0))):=⟨mBP⟩;replace B1:Aside0 (wa.heap[g1]? =some (.cells #[.int .i64 0,.int .i64 0,.int .i64 0,.slice none 0 0] 32 (0,0))):=⟨mBZ⟩;replace HB:Aside0 (Below w.heap.size w wa):=⟨mCF⟩;clear hw;obtain⟨za,zb,zc,zd⟩:=bc4 B0.out;have ze:=blk_frozen B0.out;obtain⟨zf,zg,zh,zi⟩:=bc4 B1.out;have zj:=blk_frozen B1.out)|((with_reducible refine gate_store (t:=32) (p:=2) rfl ?_);refine stV (t:=32) (p:=2) (w1:=((((wa.setCell ⟨g1,0,none⟩ (.int .i64 a0_0)).setCell ⟨g1,1,none⟩ (.int .i64 a0_1)).setCell ⟨g1,2,none⟩ (.int .i64 a0_2)).setCell ⟨g1,3,none⟩ (.slice s0 y1.length s1))) (h:=?_);intro wc hw;replace O1:Aside0 (Kd.R k56 56 wc w.heap.size (λ_=>True) (.slice s0 y1.length s1) y1):=⟨mBG⟩;replace B0:Aside0 (wc.heap[g0]? =some (.cells #[.int .i64 a0_0,.int .i64 a0_1,.int .i64 a0_2,.slice s0 y1.length s1] 32 (0,0))):=⟨mN⟩;replace B1:Aside0 (wc.heap[g1]? =some (.cells #[.int .i64 a0_0,.int .i64 a0_1,.int .i64 a0_2,.slice s0 y1.length s1] 32 (0,0))):=⟨mAM⟩;replace HB:Aside0 (Below w.heap.size w wc):=⟨mCF⟩;clear hw))
  refine bodyPost_ret (results_cell_row rfl _ _ g1 32 #[.int .i64 a0_0,.int .i64 a0_1,.int .i64 a0_2,.slice s0 y1.length s1] (0,0) _ rfl mE Try.underlying32 rfl mAI) rfl ?_;exact⟨_,by first|rfl|(simp[errW_none,errW_some] <;> rfl)|(simp[*,errW_none,errW_some] <;> rfl),by(with_reducible repeat (first|apply Kd.R_alloc|apply Kd.R_drewN|apply Kd.R_drew));exact O1.out,by repeat (first|(with_reducible first|exact HB.out|apply below_alloc|apply pw_below_drewN|apply below_drew1|refine below_set ?_ G1.out|refine below_set ?_ G3.out)|exact HB.out)⟩
 ·rw[if_neg c2]at H
  exact absurd H mAY
def watchwordlaw0_CopyLsas.l0:Nat->List (S32)->List (S32)->Int->Option ((List (S32)))
 |0,_,_,_=>none
 |k+1,x0,x3,x4=>if x4<(x0.length:Int)then(if 0<=x4 then((watchwordlaw0_CopyLsa.f ((rd_T32 x0 x4).f0) ((rd_T32 x0 x4).f1) ((rd_T32 x0 x4).f2) ((rd_T32 x0 x4).f3)).bind λbt250=>(if x3.length<2932031007402 then(watchwordlaw0_CopyLsas.l0 k x0 (x3++[(⟨bt250.1,bt250.2.1,bt250.2.2.1,bt250.2.2.2⟩:S32)]) (wrap64 (x4+1)))else(none)))else(none))else(some x3)
def watchwordlaw0_CopyLsas.f (k:Nat) (l0:List (S32)):Option ((List (S32))):=watchwordlaw0_CopyLsas.l0 k l0 ([]:List (S32)) 0
theorem watchwordlaw0_CopyLsas.mono_l:∀k,(∀y0 y1 y2,LeO (watchwordlaw0_CopyLsas.l0 k y0 y1 y2) (watchwordlaw0_CopyLsas.l0 (k+1) y0 y1 y2))
 |0=>λ_ _ _ r h=>by simp[watchwordlaw0_CopyLsas.l0]at h
 |k+1=>by
  have ih0:=watchwordlaw0_CopyLsas.mono_l k
  ·intro y0 y1 y2
   unfold watchwordlaw0_CopyLsas.l0
   repeat' (with_reducible first|exact ih0 _ _ _|exact LeO.refl _|exact LeO.none _|refine LeO.ite ?_ ?_ |refine LeO.bind ?_ (λ_=>?_))
theorem watchwordlaw0_CopyLsas.mono:∀a0 k,LeO (watchwordlaw0_CopyLsas.f k a0) (watchwordlaw0_CopyLsas.f (k+1) a0):=by
 intro a0 k;have ih0:=watchwordlaw0_CopyLsas.mono_l k;unfold watchwordlaw0_CopyLsas.f
 repeat' (with_reducible first|exact ih0 _ _ _|exact LeO.refl _|exact LeO.none _|refine LeO.ite ?_ ?_ |refine LeO.bind ?_ (λ_=>?_))
set_option maxHeartbeats 8000000 in
set_option maxRecDepth 100000 in
theorem watchwordlaw0_CopyLsas.calls (k:Nat) (A0:Option Addr) (c0:Nat) (l0:List (S32)) (r:List (S32)) (w:World) (hr0:Kd.C k32 w A0 l0.length l0) (hc0:l0.length<=c0) (h:watchwordlaw0_CopyLsas.f k l0=some r):
  Calls Try.prog 16 #[.slice A0 l0.length c0] w λe w'=>∃v0_:Value,e= .returned (v0_)/\Kd.S k32 32 w' w.heap.size (λ_=>True) v0_ r/\Below w.heap.size w w':=by
 have hu32:=Try.underlying32;have R0:=Aside0.mk hr0;have K0:=Aside0.mk hc0;clear hr0 hc0;have HB:=Aside0.mk (Below.refl w.heap.size w);have H:(watchwordlaw0_CopyLsas.l0 k l0 ([]:List (S32)) 0)=some r:=h;clear h;have H':=Aside0.mk H;clear H
 go_enter Try.func16,Try.ntmps16
 go_wp2
 go_loopg [3,4] k (λkq v3 v4 w'=>∃(x1:List (S32)) (x2:Int),v4= .int .i64 x2/\Aside0 (watchwordlaw0_CopyLsas.l0 kq l0 x1 x2=some r)/\Aside0 (kq<=k)/\Aside0 (Kd.S k32 32 w' w.heap.size (λ_=>True) v3 x1)/\Aside0 (Below w.heap.size w w'))
 case atStart=>exact⟨(([]:List (S32))),(0),mJ,H',⟨Nat.le_refl _⟩,⟨by first|exact Kd.S_nil _ _ _ _ _|exact Kd.N_nil _ _ _ _ _|exact Kd.V_nil _ _ _ _ _|exact Kd.Q_nil _ _ _ _ _|exact Kd.R_nil _ _ _ _ _⟩,⟨by repeat (first|(with_reducible first|exact HB.out|apply below_alloc|apply pw_below_drewN|apply below_drew1)|exact HB.out)⟩⟩
 case round=>
  clear H';(try clear c1);obtain⟨x1,x2,rfl,HA,HK1,O0,HB⟩:=hrel;cases gk with
  |zero=>exact absurd HA.out (by simp[watchwordlaw0_CopyLsas.l0])
  |succ k1=>
   have H:=HA.out;clear HA;simp only[watchwordlaw0_CopyLsas.l0]at H
   by_cases c2:x2<(l0.length:Int)
   ·rw[if_pos c2]at H
    have c6:=decide_eq_true c2;clear c2
    by_cases c3:0<=x2
    ·rw[if_pos c3]at H
     have cb:=decide_eq_true c3;clear c3;obtain⟨⟨t0,t1,t2,t3⟩,A1,H⟩:=bsE H;(try dsimp only at H);have A4:=Aside0.mk A1;clear A1
     by_cases c5:x1.length<2932031007402
     ·rw[if_pos c5]at H
      have L0:=Aside0.mk c5;clear c5;obtain⟨y3,Y0⟩:∃y_:List (S32),y_=(x1++[(⟨t0,t1,t2,t3⟩:S32)]):=⟨_,rfl⟩
      replace H:(watchwordlaw0_CopyLsas.l0 k1 l0 y3 (wrap64 (x2+1)))=some r:=by first|(rw[Y0];with_reducible exact H)|(have H2_:=(Option.bind_some _ _).symm.trans H;rw[Y0];with_reducible exact H2_)|(have H2_:=(Option.bind_some _ _).symm.trans H;with_reducible exact H2_)|with_reducible exact H|(rw[Y0];exact H)|exact H
      have Y1:=Aside0.mk Y0;clear Y0;have H':=Aside0.mk H;clear H;have p0:0<=(x2:Int):=of_decide_eq_true mF;have q0:x2<(l0.length:Int):=of_decide_eq_true mF;obtain⟨d0,A3,s0,e0,h0,h1,h2,h3,i0,i1⟩:=at_T32 R0.out x2 p0 q0;cases e0;replace h0:=hB HB h0;replace h1:=hB HB h1;replace h2:=hB HB h2;replace h3:=hB HB h3;have R1:=Aside0.mk i1;have K1:=Aside0.mk i0;clear i1 i0;replace p0:=eq_true p0;replace q0:=eq_true q0
      go_wp2_with (first|((with_reducible refine gate_callee (f:=14) rfl ?_);refine cLV (some 16) Try.func14 #[.agg #[.int .i64 ((rd_T32 l0 x2).f0),.int .i64 ((rd_T32 l0 x2).f1),.int .i64 ((rd_T32 l0 x2).f2),.slice A3 ((rd_T32 l0 x2).f3).length s0]] (h:=?_);(with_reducible refine(watchwordlaw0_CopyLsa.calls ((rd_T32 l0 x2).f0) ((rd_T32 l0 x2).f1) ((rd_T32 l0 x2).f2) _ _ ((rd_T32 l0 x2).f3) t0 t1 t2 t3 _ ?side1 ?side2 A4.out).mono ?_);(case side1=>repeat (first|exact(Kd.C_below R1.out HB.out)|(with_reducible refine Kd.C_alloc ?_ _)|(with_reducible refine Kd.C_drewN ?_ _)|(with_reducible refine Kd.C_drew ?_)));(case side2=>exact K1.out);rintro e w6 ⟨v254,rfl,ho0,hb⟩;refine⟨_,rfl,?_⟩;replace O0:=Aside0.mk (Kd.S_elder' mT (Kd.R_base ho0) hb);have O1:=Aside0.mk (Kd.R_lower ho0 (below_size mA));replace HB:=Aside0.mk (below_step mA hb);(try clear hb);(try clear ho0);obtain⟨s1,s2,s3⟩:=Kd.R_slice O1.out;subst s3)|((with_reducible refine gate_builtin (b:= .append) (xs:=#[.tmp 11,.tmp 17]) rfl ?_);at_builtin;refine Kd.S_append k32 (w0:=w) w.heap.size rfl (.tmp 11) (.tmp 17) 24 32 (.agg #[(.int .i64 0),(.int .i64 0),(.int .i64 0),(.slice none 0 0)]) 48 rfl Try.underlying24 info32 rfl mAE mBX u3 x1 (⟨t0,t1,t2,t3⟩:S32) [.int .i64 t0,.int .i64 t1,.int .i64 t2,.slice s1 t3.length s2] (λ_=>True) (λk_=>some k_=(.slice s1 t3.length s2:Value).ownBlock) rfl rfl ?aP (λk_ hk_=>((Kd.R_mono (ok':=λk_=>((λ_=>True)) k_/\some k_≠(u3:Value).ownBlock) (Kd.R_apart' (O1.out) (Kd.S_typed O0.out) mAE) (λk_ hk=>⟨trivial,hk.2⟩))).1 k_ hk_.symm) ?aF ?aO ?aB ?aS ?aL ?_;(case aP=>exact k32_mkM _ _ _ (⟨t0,t1,t2,t3⟩:S32) (Kd.R_mono (Kd.R_tight rfl (Kd.R_mono (ok':=λk_=>((λ_=>True)) k_/\some k_≠(u3:Value).ownBlock) (Kd.R_apart' (O1.out) (Kd.S_typed O0.out) mAE) (λk_ hk=>⟨trivial,hk.2⟩))) (λ_ h_=>h_)));(case aB=>exact mA);(case aF=>exact(λ_ _=>trivial));(case aO=>exact mBU);(case aS=>exact(below_size mA));(case aL=>have:=L0.out;omega);intro v257 w7 ho hb hg hat;rw[<-Y1.out]at ho;replace HB:=Aside0.mk (hb);have O2:=Aside0.mk (ho);clear O0 O1;clear ho hb hg hat))
      go_roundg k1
      case measure=>have:=HK1.out;omega
      case rel=>exact⟨(y3),(wrap64 (x2+1)),mJ,H',⟨by have:=HK1.out;omega⟩,⟨by(with_reducible repeat (first|apply Kd.S_alloc|apply Kd.S_drewN|apply Kd.S_drew));exact O2.out⟩,⟨by repeat (first|(with_reducible first|exact HB.out|apply below_alloc|apply pw_below_drewN|apply below_drew1)|exact HB.out)⟩⟩
     ·rw[if_neg c5]at H
      exact absurd H mAY
    ·rw[if_neg c3]at H
     exact absurd H mAY
   ·rw[if_neg c2]at H
    have c6:=decide_eq_false c2;clear c2;obtain rfl:=Option.some.inj H;go_wp2;go_ret;exact⟨_,by first|rfl|(simp[errW_none,errW_some] <;> rfl)|(simp[*,errW_none,errW_some] <;> rfl),by(with_reducible repeat (first|apply Kd.S_alloc|apply Kd.S_drewN|apply Kd.S_drew));exact O0.out,by repeat (first|(with_reducible first|exact HB.out|apply below_alloc|apply pw_below_drewN|apply below_drew1)|exact HB.out)⟩
end Go.Proofs.Ytbpoflicphgokaa.Q18
namespace Go.Proofs.Ytbpoflicphgokaa.Q18
open Go.RowKit Go.Proofs.Ytbpoflicphgokaa.Stp Go.Proofs.YtbpoflicphgokaaW.PrintWords Go.Proofs.YtbpoflicphgokaaW.PrintLast Go.Proofs.YtbpoflicphgokaaW.PrintMore
attribute [local go_sem] max2_int min2_int max_two min_two max_three min_three max_four min_four
set_option linter.unusedVariables false
set_option linter.unusedSimpArgs false
def lsa_Router.f (a0:Int):Option (Bool):=if a0>=1 then(some (decide (a0<=4)))else(some false)
set_option maxHeartbeats 8000000 in
set_option maxRecDepth 100000 in
theorem lsa_Router.calls (a0:Int) (r:Bool) (w:World) (h:lsa_Router.f a0=some r):
  Calls Try.prog 46 #[.int .i64 a0] w λe w'=>e= .returned (.bool r)/\Drawn0 w w':=by
 have H:(if a0>=1 then(some (decide (a0<=4)))else(some false))=some r:=h;clear h
 by_cases c2:a0>=1
 ·rw[if_pos c2]at H
  have c3:decide (1<=a0)=true:=decide_eq_true c2;clear c2;obtain rfl:=Option.some.inj H
  go_enter Try.func46,Try.ntmps46
  go_wp2;go_ret;exact⟨by first|rfl|(simp;done)|(simp[*];done),by repeat (first|exact Drawn0.refl _|apply Drawn0.step)⟩
 ·rw[if_neg c2]at H
  have c3:decide (1<=a0)=false:=decide_eq_false c2;clear c2;obtain rfl:=Option.some.inj H
  go_enter Try.func46,Try.ntmps46
  go_wp2;go_ret;exact⟨by first|rfl|(simp;done)|(simp[*];done),by repeat (first|exact Drawn0.refl _|apply Drawn0.step)⟩
def lsa_Serial.f (a0:Int):Option (Bool):=if a0>=1 then(some (decide (a0<=2147483647)))else(some false)
set_option maxHeartbeats 8000000 in
set_option maxRecDepth 100000 in
theorem lsa_Serial.calls (a0:Int) (r:Bool) (w:World) (h:lsa_Serial.f a0=some r):
  Calls Try.prog 47 #[.int .i64 a0] w λe w'=>e= .returned (.bool r)/\Drawn0 w w':=by
 have H:(if a0>=1 then(some (decide (a0<=2147483647)))else(some false))=some r:=h;clear h
 by_cases c2:a0>=1
 ·rw[if_pos c2]at H
  have c3:decide (1<=a0)=true:=decide_eq_true c2;clear c2;obtain rfl:=Option.some.inj H
  go_enter Try.func47,Try.ntmps47
  go_wp2;go_ret;exact⟨by first|rfl|(simp;done)|(simp[*];done),by repeat (first|exact Drawn0.refl _|apply Drawn0.step)⟩
 ·rw[if_neg c2]at H
  have c3:decide (1<=a0)=false:=decide_eq_false c2;clear c2;obtain rfl:=Option.some.inj H
  go_enter Try.func47,Try.ntmps47
  go_wp2;go_ret;exact⟨by first|rfl|(simp;done)|(simp[*];done),by repeat (first|exact Drawn0.refl _|apply Drawn0.step)⟩
def lsa_Age.f (a0:Int):Option (Bool):=if a0>=0 then(some (decide (a0<=60)))else(some false)
set_option maxHeartbeats 8000000 in
set_option maxRecDepth 100000 in
theorem lsa_Age.calls (a0:Int) (r:Bool) (w:World) (h:lsa_Age.f a0=some r):
  Calls Try.prog 48 #[.int .i64 a0] w λe w'=>e= .returned (.bool r)/\Drawn0 w w':=by
 have H:(if a0>=0 then(some (decide (a0<=60)))else(some false))=some r:=h;clear h
 by_cases c2:a0>=0
 ·rw[if_pos c2]at H
  have c3:decide (0<=a0)=true:=decide_eq_true c2;clear c2;obtain rfl:=Option.some.inj H
  go_enter Try.func48,Try.ntmps48
  go_wp2;go_ret;exact⟨by first|rfl|(simp;done)|(simp[*];done),by repeat (first|exact Drawn0.refl _|apply Drawn0.step)⟩
 ·rw[if_neg c2]at H
  have c3:decide (0<=a0)=false:=decide_eq_false c2;clear c2;obtain rfl:=Option.some.inj H
  go_enter Try.func48,Try.ntmps48
  go_wp2;go_ret;exact⟨by first|rfl|(simp;done)|(simp[*];done),by repeat (first|exact Drawn0.refl _|apply Drawn0.step)⟩
def lsa_Links.l0:Nat->List (S56)->Int->List (S56)->Int->Int->Option (Bool)
 |0,_,_,_,_,_=>none
 |k+1,x0,x1,x7,x8,x9=>if x9<x8 then(if 0<=x9 then(if x9<(x7.length:Int)then((lsa_Router.f ((rd_T56 x7 x9).f0)).bind λt103=>(if t103=true then(if((rd_T56 x7 x9).f0)=x1 then(some false)else(if((rd_T56 x7 x9).f1)<1 then(some false)else(if((rd_T56 x7 x9).f1)>65535 then(some false)else(if x9>0 then(if 0<=(wrap64 (x9-1))then(if(wrap64 (x9-1))<(x0.length:Int)then(if((rd_T56 x0 (wrap64 (x9-1))).f0)>=((rd_T56 x7 x9).f0)then(some false)else(lsa_Links.l0 k x0 x1 x7 x8 (wrap64 (x9+1))))else(none))else(none))else(lsa_Links.l0 k x0 x1 x7 x8 (wrap64 (x9+1)))))))else(some false)))else(none))else(none))else(some true)
def lsa_Links.f (k:Nat) (l0:List (S56)) (a1:Int):Option (Bool):=lsa_Links.l0 k l0 a1 l0 (l0.length:Int) 0
theorem lsa_Links.mono_l:∀k,(∀y0 y1 y2 y3 y4,LeO (lsa_Links.l0 k y0 y1 y2 y3 y4) (lsa_Links.l0 (k+1) y0 y1 y2 y3 y4))
 |0=>λ_ _ _ _ _ r h=>by simp[lsa_Links.l0]at h
 |k+1=>by
  have ih0:=lsa_Links.mono_l k
  ·intro y0 y1 y2 y3 y4
   unfold lsa_Links.l0
   repeat' (with_reducible first|exact ih0 _ _ _ _ _|exact LeO.refl _|exact LeO.none _|refine LeO.ite ?_ ?_ |refine LeO.bind ?_ (λ_=>?_))
theorem lsa_Links.mono:∀a0 a1 k,LeO (lsa_Links.f k a0 a1) (lsa_Links.f (k+1) a0 a1):=by
 intro a0 a1 k;have ih0:=lsa_Links.mono_l k;unfold lsa_Links.f
 repeat' (with_reducible first|exact ih0 _ _ _ _ _|exact LeO.refl _|exact LeO.none _|refine LeO.ite ?_ ?_ |refine LeO.bind ?_ (λ_=>?_))
def lsa_Links.T4:Bool × List (List Nat × List Nat):=(true,[([],[]),([0],[0]),([1],[1]),([2],[2]),([3,2],[3]),([4],[4]),([5,4],[4,5]),([4],[4]),([6,7,4],[4,6,7]),([4,8],[4,8]),([9,4],[9]),([10],[10]),([11,10],[10,11]),([12,10],[10,12]),([10,13],[10,13]),([14,10],[14]),([15],[15]),([16,15],[15,16]),([17,15],[15,17]),([15,18],[15,18]),([19,15],[19]),([20],[20]),([21,20],[20,21]),([22,20,20],[20,22]),([23],[23]),([23],[23]),([25,23],[23,25]),([24,26,23],[23,24,26]),([27,23],[23,27]),([28,23],[23,28]),([23],[23]),([30,23],[23,30]),([29,31,23],[23,29,31]),([23,32,20],[20,23,32]),([20,33],[20,33])])
def lsa_Links.B4:List Nat:=[0,1,3,7,15,31,63,31,255,511,1023,2047,4095,8191,16383,32767,65535,131071,262143,524287,1048575,2097151,4194303,8388607,16777215,16777215,50331647,134217727,268435455,536870911,16777215,1090519039,4294967295,8589934591,17179869183]
theorem lsa_Links.tab4:rtab .any (opsOf Try.f49 4)=lsa_Links.T4:=by kernel_rfl
theorem lsa_Links.bits4:waitsOk lsa_Links.T4.2 lsa_Links.B4=true:=by kernel_rfl
set_option maxHeartbeats 8000000 in
set_option maxRecDepth 100000 in
theorem lsa_Links.calls (k:Nat) (A0:Option Addr) (c0:Nat) (l0:List (S56)) (a1:Int) (r:Bool) (w:World) (hr0:Kd.C k56 w A0 l0.length l0) (hc0:l0.length<=c0) (h:lsa_Links.f k l0 a1=some r):
  Calls Try.prog 49 #[.slice A0 l0.length c0,.int .i64 a1] w λe w'=>e= .returned (.bool r)/\Below w.heap.size w w':=by
 have hu56:=Try.underlying56;have R0:=Aside0.mk hr0;have K0:=Aside0.mk hc0;clear hr0 hc0;have HB:=Aside0.mk (Below.refl w.heap.size w);have H:(lsa_Links.l0 k l0 a1 l0 (l0.length:Int) 0)=some r:=h;clear h;have H':=Aside0.mk H;clear H
 go_enter Try.func49,Try.ntmps49
 go_wp2
 go_loopg [9] k (λkq v9 w'=>∃(x2:Int),v9= .int .i64 x2/\Aside0 (lsa_Links.l0 kq l0 a1 l0 (l0.length:Int) x2=some r)/\Aside0 (kq<=k)/\Aside0 (Below w.heap.size w w'))
 case atStart=>exact⟨(0),mJ,H',⟨Nat.le_refl _⟩,⟨by repeat (first|(with_reducible first|exact HB.out|apply below_alloc|apply pw_below_drewN|apply below_drew1)|exact HB.out)⟩⟩
 case round=>
  clear H';(try clear p2);obtain⟨x2,rfl,HA,HK1,HB⟩:=hrel;cases gk with
  |zero=>exact absurd HA.out (by simp[lsa_Links.l0])
  |succ k1=>
   have H:=HA.out;clear HA;simp only[lsa_Links.l0]at H
   by_cases c3:x2<(l0.length:Int)
   ·rw[if_pos c3]at H
    have c6:=decide_eq_true c3;clear c3
    by_cases c4:0<=x2
    ·rw[if_pos c4]at H
     have cd:=decide_eq_true c4;clear c4
     by_cases c5:x2<(l0.length:Int)
     ·rw[if_pos c5]at H
      have ci:=decide_eq_true c5;clear c5;obtain⟨t0,A1,H⟩:=bsE H;(try dsimp only at H);have A6:=Aside0.mk A1;clear A1
      by_cases c7:t0=true
      ·subst c7
       rw[if_pos rfl]at H
       by_cases c8:((rd_T56 l0 x2).f0)=a1
       ·rw[if_pos c8]at H
        have cp:=beq_iff_eq.mpr c8;have cr:=bne_eq_false_iff_eq.mpr c8;clear c8;obtain rfl:=Option.some.inj H;have p0:0<=(x2:Int):=of_decide_eq_true mF;have q0:x2<(l0.length:Int):=of_decide_eq_true mF;obtain⟨d0,e0,h0,h1⟩:=at_T56 R0.out x2 p0 q0;cases e0;replace h0:=hB HB h0;replace h1:=hB HB h1;replace p0:=eq_true p0;replace q0:=eq_true q0;(try go_wp2_with (first|((with_reducible refine gate_dst (N:=6) rfl ?_);refine bxV (N:=6) (cs:=#[.int .i64 0,.int .i64 0]) (t:=56) (h:=?_);intro g0 hg w9 hbox hb;have B0:=Aside0.mk (hbox);have G0:=Aside0.mk ((mH:w.heap.size<=g0));have G1:=Aside0.mk ((mH:w.heap.size<=g0));replace HB:=Aside0.mk (below_step mA hb);clear hb hbox hg;obtain⟨z0,z1⟩:=bc2 B0.out;have z2:=blk_frozen B0.out)|((with_reducible refine gate_store (t:=56) (p:=6) rfl ?_);refine stV (t:=56) (p:=6) (w1:=((w9.setCell ⟨g0,0,none⟩ (.int .i64 ((rd_T56 l0 x2).f0))).setCell ⟨g0,1,none⟩ (.int .i64 ((rd_T56 l0 x2).f1)))) (h:=?_);intro w3 hw;replace B0:Aside0 (w3.heap[g0]? =some (.cells #[.int .i64 ((rd_T56 l0 x2).f0),.int .i64 ((rd_T56 l0 x2).f1)] 56 (0,0))):=⟨mP⟩;replace HB:Aside0 (Below w.heap.size w w3):=⟨mBF⟩;clear hw)));replace B0:=Aside0.mk (blk_drew B0.out);replace HB:=Aside0.mk (below_drew1 HB.out);refine start_ (n:=35) (S:=λw'=>w'.cell? ⟨g0,0,none⟩=some (.int .i64 ((rd_T56 l0 x2).f0))/\w'.cell? ⟨g0,1,none⟩=some (.int .i64 ((rd_T56 l0 x2).f1))) (ds:=[]) mk_35_0 mAI rfl rfl ⟨(blk_cell B0.out 0).trans rfl,(blk_cell B0.out 1).trans rfl⟩ (λhHeld=>?_);refine with_tabW lsa_Links.tab4 lsa_Links.bits4 (λHT_ HW_=>?_);generalize w3.drew=w4 at B0 HB hHeld |-;refine pV 0 14 mk_35_1 ?_;refine tV 1 (some 15) mk_35_2 (hy:=Or.inl ⟨by rfl,by rintro w' ⟨s0,s1⟩;go_simp;with_reducible rfl⟩) (h:=?_);refine oV 2 (some 16) mk_35_3 (h:=λK hK=>?_);refine gV Try.func46 #[.int .i64 ((rd_T56 l0 x2).f0)] (h:=?_)
        with_reducible refine(lsa_Router.calls ((rd_T56 l0 x2).f0) true _ A6.out).mono ?_
        rintro e w' ⟨rfl,⟨nd,rfl⟩⟩;refine⟨_,rfl,?_⟩;refine hK.out _ _ ⟨(blk_cell B0.out 0).trans rfl,(blk_cell B0.out 1).trans rfl⟩ (λhHeld=>?_);clear hK K;refine nV 16 (h:=?_);refine pV 3 17 mk_35_4 ?_;refine pV 4 18 mk_35_5 ?_;refine pV 5 19 mk_35_6 ?_;refine pV 7 21 #[true,true,true,true,true,true,false,true,false,false,false,false,false,false,false,false,false,false,false,false,false,false,false,false,false,false,false,false,false,false,false,false,false,false,false] ?_;refine tV 6 (some 20) mk_35_8 (hy:=Or.inl ⟨by rfl,by rintro w' ⟨s0,s1⟩;go_simp;with_reducible rfl⟩) (h:=?_);refine pV 8 22 mk_35_9 ?_;refine pV 9 23 mk_35_10 ?_;refine pV 10 24 mk_35_11 ?_;refine pU 11 25 mk_35_12 ?_;refine pU 12 26 mk_35_13 ?_;refine pU 13 27 mk_35_14 ?_;refine pV 14 28 mk_35_15 ?_;refine pV 15 29 mk_35_16 ?_;refine pU 16 30 mk_35_17 ?_;refine pU 17 31 mk_35_18 ?_;refine pU 18 32 mk_35_19 ?_;refine pV 19 33 mk_35_20 ?_;refine pV 20 34 mk_35_21 ?_;refine pU 21 35 mk_35_22 ?_;refine pU 22 36 mk_35_23 ?_;refine pU 23 37 mk_35_24 ?_;refine pU 24 38 mk_35_25 ?_;refine pU 25 39 mk_35_26 ?_;refine pU 26 40 mk_35_27 ?_;refine pU 27 41 mk_35_28 ?_;refine pU 28 42 mk_35_29 ?_;refine pU 29 43 mk_35_30 ?_;refine pU 30 44 mk_35_31 ?_;refine pU 31 45 mk_35_32 ?_;refine pU 32 46 mk_35_33 ?_;refine pU 33 47 mk_35_34 ?_;refine pV 34 48 mk_35_35 ?_
        refine done_ (done_of HT_.out mAI) ?_;(try go_wp2);go_ret;exact⟨by first|rfl|(simp[errW_none,errW_some] <;> rfl)|(simp[*,errW_none,errW_some] <;> rfl),by repeat (first|(with_reducible first|exact HB.out|apply below_alloc|apply pw_below_drewN|apply below_drew1|refine below_set ?_ G1.out)|exact HB.out)⟩
       ·rw[if_neg c8]at H
        have cp:=beq_eq_false_iff_ne.mpr c8;have cr:=bne_iff_ne.mpr c8
        by_cases cy:((rd_T56 l0 x2).f1)<1
        ·rw[if_pos cy]at H
         have cz:=decide_eq_true cy;clear cy;obtain rfl:=Option.some.inj H;have p0:0<=(x2:Int):=of_decide_eq_true mF;have q0:x2<(l0.length:Int):=of_decide_eq_true mF;obtain⟨d0,e0,h0,h1⟩:=at_T56 R0.out x2 p0 q0;cases e0;replace h0:=hB HB h0;replace h1:=hB HB h1;replace p0:=eq_true p0;replace q0:=eq_true q0;(try go_wp2_with (first|((with_reducible refine gate_dst (N:=6) rfl ?_);refine bxV (N:=6) (cs:=#[.int .i64 0,.int .i64 0]) (t:=56) (h:=?_);intro g0 hg w5 hbox hb;have B0:=Aside0.mk (hbox);have G0:=Aside0.mk ((mH:w.heap.size<=g0));have G1:=Aside0.mk ((mH:w.heap.size<=g0));replace HB:=Aside0.mk (below_step mA hb);clear hb hbox hg;obtain⟨z3,z4⟩:=bc2 B0.out;have z5:=blk_frozen B0.out)|((with_reducible refine gate_store (t:=56) (p:=6) rfl ?_);refine stV (t:=56) (p:=6) (w1:=((w5.setCell ⟨g0,0,none⟩ (.int .i64 ((rd_T56 l0 x2).f0))).setCell ⟨g0,1,none⟩ (.int .i64 ((rd_T56 l0 x2).f1)))) (h:=?_);intro w7 hw;replace B0:Aside0 (w7.heap[g0]? =some (.cells #[.int .i64 ((rd_T56 l0 x2).f0),.int .i64 ((rd_T56 l0 x2).f1)] 56 (0,0))):=⟨mP⟩;replace HB:Aside0 (Below w.heap.size w w7):=⟨mBF⟩;clear hw)));replace B0:=Aside0.mk (blk_drew B0.out);replace HB:=Aside0.mk (below_drew1 HB.out);refine start_ (n:=35) (S:=λw'=>w'.cell? ⟨g0,0,none⟩=some (.int .i64 ((rd_T56 l0 x2).f0))/\w'.cell? ⟨g0,1,none⟩=some (.int .i64 ((rd_T56 l0 x2).f1))) (ds:=[]) mk_35_0 mAI rfl rfl ⟨(blk_cell B0.out 0).trans rfl,(blk_cell B0.out 1).trans rfl⟩ (λhHeld=>?_);refine with_tabW lsa_Links.tab4 lsa_Links.bits4 (λHT_ HW_=>?_);generalize w7.drew=w8 at B0 HB hHeld |-;refine pV 0 14 mk_35_1 ?_;refine tV 1 (some 15) mk_35_2 (hy:=Or.inl ⟨by rfl,by rintro w' ⟨s0,s1⟩;go_simp;with_reducible rfl⟩) (h:=?_);refine oV 2 (some 16) mk_35_3 (h:=λK hK=>?_);refine gV Try.func46 #[.int .i64 ((rd_T56 l0 x2).f0)] (h:=?_)
         with_reducible refine(lsa_Router.calls ((rd_T56 l0 x2).f0) true _ A6.out).mono ?_
         rintro e w' ⟨rfl,⟨nd,rfl⟩⟩;refine⟨_,rfl,?_⟩;refine hK.out _ _ ⟨(blk_cell B0.out 0).trans rfl,(blk_cell B0.out 1).trans rfl⟩ (λhHeld=>?_);clear hK K;refine nV 16 (h:=?_);refine pV 3 17 mk_35_4 ?_;refine pV 4 18 mk_35_5 ?_;refine pV 5 19 mk_35_6 ?_;refine pV 7 21 #[true,true,true,true,true,true,false,true,false,false,false,false,false,false,false,false,false,false,false,false,false,false,false,false,false,false,false,false,false,false,false,false,false,false,false] ?_;refine tV 6 (some 20) mk_35_8 (hy:=Or.inl ⟨by rfl,by rintro w' ⟨s0,s1⟩;go_simp;with_reducible rfl⟩) (h:=?_);refine pV 8 22 mk_35_9 ?_;refine pV 9 23 mk_35_10 ?_;refine pV 10 24 mk_35_11 ?_;refine pV 11 25 mk_35_12 ?_;refine tV 12 (some 26) mk_35_13 (hy:=Or.inl ⟨by rfl,by rintro w' ⟨s0,s1⟩;go_simp;with_reducible rfl⟩) (h:=?_);refine pV 13 27 mk_35_14 ?_;refine pV 14 28 mk_35_15 ?_;refine pV 15 29 mk_35_16 ?_;refine pU 16 30 mk_35_17 ?_;refine pU 17 31 mk_35_18 ?_;refine pU 18 32 mk_35_19 ?_;refine pV 19 33 mk_35_20 ?_;refine pV 20 34 mk_35_21 ?_;refine pU 21 35 mk_35_22 ?_;refine pU 22 36 mk_35_23 ?_;refine pU 23 37 mk_35_24 ?_;refine pU 24 38 mk_35_25 ?_;refine pU 25 39 mk_35_26 ?_;refine pU 26 40 mk_35_27 ?_;refine pU 27 41 mk_35_28 ?_;refine pU 28 42 mk_35_29 ?_;refine pU 29 43 mk_35_30 ?_;refine pU 30 44 mk_35_31 ?_;refine pU 31 45 mk_35_32 ?_;refine pU 32 46 mk_35_33 ?_;refine pU 33 47 mk_35_34 ?_;refine pV 34 48 mk_35_35 ?_
         refine done_ (done_of HT_.out mAI) ?_;(try go_wp2);go_ret;exact⟨by first|rfl|(simp[errW_none,errW_some] <;> rfl)|(simp[*,errW_none,errW_some] <;> rfl),by repeat (first|(with_reducible first|exact HB.out|apply below_alloc|apply pw_below_drewN|apply below_drew1|refine below_set ?_ G1.out)|exact HB.out)⟩
        ·rw[if_neg cy]at H
         have cz:=decide_eq_false cy;clear cy
         by_cases c18:((rd_T56 l0 x2).f1)>65535
         ·rw[if_pos c18]at H
          have c02:decide (65535<((rd_T56 l0 x2).f1))=true:=decide_eq_true c18;clear c18;obtain rfl:=Option.some.inj H;have p0:0<=(x2:Int):=of_decide_eq_true mF;have q0:x2<(l0.length:Int):=of_decide_eq_true mF;obtain⟨d0,e0,h0,h1⟩:=at_T56 R0.out x2 p0 q0;cases e0;replace h0:=hB HB h0;replace h1:=hB HB h1;replace p0:=eq_true p0;replace q0:=eq_true q0;(try go_wp2_with (first|((with_reducible refine gate_dst (N:=6) rfl ?_);refine bxV (N:=6) (cs:=#[.int .i64 0,.int .i64 0]) (t:=56) (h:=?_);intro g0 hg wa hbox hb;have B0:=Aside0.mk (hbox);have G0:=Aside0.mk ((mH:w.heap.size<=g0));have G1:=Aside0.mk ((mH:w.heap.size<=g0));replace HB:=Aside0.mk (below_step mA hb);clear hb hbox hg;obtain⟨z6,z7⟩:=bc2 B0.out;have z8:=blk_frozen B0.out)|((with_reducible refine gate_store (t:=56) (p:=6) rfl ?_);refine stV (t:=56) (p:=6) (w1:=((wa.setCell ⟨g0,0,none⟩ (.int .i64 ((rd_T56 l0 x2).f0))).setCell ⟨g0,1,none⟩ (.int .i64 ((rd_T56 l0 x2).f1)))) (h:=?_);intro wc hw;replace B0:Aside0 (wc.heap[g0]? =some (.cells #[.int .i64 ((rd_T56 l0 x2).f0),.int .i64 ((rd_T56 l0 x2).f1)] 56 (0,0))):=⟨mP⟩;replace HB:Aside0 (Below w.heap.size w wc):=⟨mBF⟩;clear hw)));replace B0:=Aside0.mk (blk_drew B0.out);replace HB:=Aside0.mk (below_drew1 HB.out);refine start_ (n:=35) (S:=λw'=>w'.cell? ⟨g0,0,none⟩=some (.int .i64 ((rd_T56 l0 x2).f0))/\w'.cell? ⟨g0,1,none⟩=some (.int .i64 ((rd_T56 l0 x2).f1))) (ds:=[]) mk_35_0 mAI rfl rfl ⟨(blk_cell B0.out 0).trans rfl,(blk_cell B0.out 1).trans rfl⟩ (λhHeld=>?_);refine with_tabW lsa_Links.tab4 lsa_Links.bits4 (λHT_ HW_=>?_);generalize wc.drew=wd at B0 HB hHeld |-;refine pV 0 14 mk_35_1 ?_;refine tV 1 (some 15) mk_35_2 (hy:=Or.inl ⟨by rfl,by rintro w' ⟨s0,s1⟩;go_simp;with_reducible rfl⟩) (h:=?_);refine oV 2 (some 16) mk_35_3 (h:=λK hK=>?_);refine gV Try.func46 #[.int .i64 ((rd_T56 l0 x2).f0)] (h:=?_)
          with_reducible refine(lsa_Router.calls ((rd_T56 l0 x2).f0) true _ A6.out).mono ?_
          rintro e w' ⟨rfl,⟨nd,rfl⟩⟩;refine⟨_,rfl,?_⟩;refine hK.out _ _ ⟨(blk_cell B0.out 0).trans rfl,(blk_cell B0.out 1).trans rfl⟩ (λhHeld=>?_);clear hK K;refine nV 16 (h:=?_);refine pV 3 17 mk_35_4 ?_;refine pV 4 18 mk_35_5 ?_;refine pV 5 19 mk_35_6 ?_;refine pV 7 21 #[true,true,true,true,true,true,false,true,false,false,false,false,false,false,false,false,false,false,false,false,false,false,false,false,false,false,false,false,false,false,false,false,false,false,false] ?_;refine tV 6 (some 20) mk_35_8 (hy:=Or.inl ⟨by rfl,by rintro w' ⟨s0,s1⟩;go_simp;with_reducible rfl⟩) (h:=?_);refine pV 8 22 mk_35_9 ?_;refine pV 9 23 mk_35_10 ?_;refine pV 10 24 mk_35_11 ?_;refine pV 11 25 mk_35_12 ?_;refine tV 12 (some 26) mk_35_13 (hy:=Or.inl ⟨by rfl,by rintro w' ⟨s0,s1⟩;go_simp;with_reducible rfl⟩) (h:=?_);refine pV 13 27 mk_35_14 ?_;refine pV 14 28 mk_35_15 ?_;refine pV 15 29 mk_35_16 ?_;refine pV 16 30 mk_35_17 ?_;refine tV 17 (some 31) mk_35_18 (hy:=Or.inl ⟨by rfl,by rintro w' ⟨s0,s1⟩;go_simp;with_reducible rfl⟩) (h:=?_);refine pV 18 32 mk_35_19 ?_;refine pV 19 33 mk_35_20 ?_;refine pV 20 34 mk_35_21 ?_;refine pU 21 35 mk_35_22 ?_;refine pU 22 36 mk_35_23 ?_;refine pU 23 37 mk_35_24 ?_;refine pU 24 38 mk_35_25 ?_;refine pU 25 39 mk_35_26 ?_;refine pU 26 40 mk_35_27 ?_;refine pU 27 41 mk_35_28 ?_;refine pU 28 42 mk_35_29 ?_;refine pU 29 43 mk_35_30 ?_;refine pU 30 44 mk_35_31 ?_;refine pU 31 45 mk_35_32 ?_;refine pU 32 46 mk_35_33 ?_;refine pU 33 47 mk_35_34 ?_;refine pV 34 48 mk_35_35 ?_
          refine done_ (done_of HT_.out mAI) ?_;(try go_wp2);go_ret;exact⟨by first|rfl|(simp[errW_none,errW_some] <;> rfl)|(simp[*,errW_none,errW_some] <;> rfl),by repeat (first|(with_reducible first|exact HB.out|apply below_alloc|apply pw_below_drewN|apply below_drew1|refine below_set ?_ G1.out)|exact HB.out)⟩
         ·rw[if_neg c18]at H
          have c02:decide (65535<((rd_T56 l0 x2).f1))=false:=decide_eq_false c18;clear c18
          by_cases c23:x2>0
          ·rw[if_pos c23]at H
           have c0a:decide (0<x2)=true:=decide_eq_true c23;clear c23;obtain⟨j0,j1⟩:∃j_:Int,(wrap64 (x2-1))=j_:=⟨_,rfl⟩
           replace H:(if 0<=(j0)then(if(j0)<(l0.length:Int)then(if((rd_T56 l0 (j0)).f0)>=((rd_T56 l0 x2).f0)then(some false)else(lsa_Links.l0 k1 l0 a1 l0 (l0.length:Int) (wrap64 (x2+1))))else(none))else(none))=some r:=by first|(rw[j1]at H;exact H)|(simp only[j1]at H |-;exact H)
           (try rw[j1]at A6)
           have j2:(IntKind.i64.wrap (x2-1))=j0:=(i64_w _).trans j1
           by_cases c25:0<=(j0)
           ·rw[if_pos c25]at H
            have c0f:=decide_eq_true c25;clear c25
            by_cases c26:(j0)<(l0.length:Int)
            ·rw[if_pos c26]at H
             have c0k:=decide_eq_true c26;clear c26
             by_cases c27:((rd_T56 l0 (j0)).f0)>=((rd_T56 l0 x2).f0)
             ·rw[if_pos c27]at H
              have c0p:decide (((rd_T56 l0 x2).f0)<=((rd_T56 l0 (j0)).f0))=true:=decide_eq_true c27;clear c27;obtain rfl:=Option.some.inj H;have p0:0<=(x2:Int):=of_decide_eq_true mF;have q0:x2<(l0.length:Int):=of_decide_eq_true mF;obtain⟨d0,e0,h0,h1⟩:=at_T56 R0.out x2 p0 q0;cases e0;replace h0:=hB HB h0;replace h1:=hB HB h1;replace p0:=eq_true p0;replace q0:=eq_true q0;(try go_wp2_with (first|((with_reducible refine gate_dst (N:=6) rfl ?_);refine bxV (N:=6) (cs:=#[.int .i64 0,.int .i64 0]) (t:=56) (h:=?_);intro g0 hg we hbox hb;have B0:=Aside0.mk (hbox);have G0:=Aside0.mk ((mH:w.heap.size<=g0));have G1:=Aside0.mk ((mH:w.heap.size<=g0));replace HB:=Aside0.mk (below_step mA hb);clear hb hbox hg;obtain⟨z9,za⟩:=bc2 B0.out;have zb:=blk_frozen B0.out)|((with_reducible refine gate_store (t:=56) (p:=6) rfl ?_);refine stV (t:=56) (p:=6) (w1:=((we.setCell ⟨g0,0,none⟩ (.int .i64 ((rd_T56 l0 x2).f0))).setCell ⟨g0,1,none⟩ (.int .i64 ((rd_T56 l0 x2).f1)))) (h:=?_);intro wg hw;replace B0:Aside0 (wg.heap[g0]? =some (.cells #[.int .i64 ((rd_T56 l0 x2).f0),.int .i64 ((rd_T56 l0 x2).f1)] 56 (0,0))):=⟨mP⟩;replace HB:Aside0 (Below w.heap.size w wg):=⟨mBF⟩;clear hw)));replace B0:=Aside0.mk (blk_drew B0.out);replace HB:=Aside0.mk (below_drew1 HB.out);have p1:0<=((j0):Int):=of_decide_eq_true mF;have q1:(j0)<(l0.length:Int):=of_decide_eq_true mF;obtain⟨d1,e1,h2,h3⟩:=at_T56 R0.out (j0) p1 q1;have hw104_1:=h3;have hw104_0:=h2;obtain rfl:d0=d1:=mCM;replace h2:=hB HB h2;replace h3:=hB HB h3;replace p1:=eq_true p1;replace q1:=eq_true q1;refine start_ (n:=35) (S:=λw'=>w'.cell? ⟨g0,0,none⟩=some (.int .i64 ((rd_T56 l0 x2).f0))/\w'.cell? ⟨g0,1,none⟩=some (.int .i64 ((rd_T56 l0 x2).f1))/\w'.cell? (d0.add (((j0)).toNat *2))=some (.int .i64 ((rd_T56 l0 (j0)).f0))/\w'.cell? ⟨(d0.add (((j0)).toNat *2)).block,(d0.add (((j0)).toNat *2)).off +1,none⟩=some (.int .i64 ((rd_T56 l0 (j0)).f1))) (ds:=[]) mk_35_0 mAI rfl rfl ⟨(blk_cell B0.out 0).trans rfl,(blk_cell B0.out 1).trans rfl,((HB.out.cell (World.block_lt_of_cell? w _ hw104_0)).trans hw104_0),((HB.out.cell (World.block_lt_of_cell? w _ hw104_1)).trans hw104_1)⟩ (λhHeld=>?_);refine with_tabW lsa_Links.tab4 lsa_Links.bits4 (λHT_ HW_=>?_);generalize wg.drew=wh at B0 HB h2 h3 hHeld |-;refine pV 0 14 mk_35_1 ?_;refine tV 1 (some 15) mk_35_2 (hy:=Or.inl ⟨by rfl,by rintro w' ⟨s0,s1,s2,s3⟩;go_simp;with_reducible rfl⟩) (h:=?_);refine oV 2 (some 16) mk_35_3 (h:=λK hK=>?_);refine gV Try.func46 #[.int .i64 ((rd_T56 l0 x2).f0)] (h:=?_)
              with_reducible refine(lsa_Router.calls ((rd_T56 l0 x2).f0) true _ A6.out).mono ?_
              rintro e w' ⟨rfl,⟨nd,rfl⟩⟩;refine⟨_,rfl,?_⟩;refine hK.out _ _ ⟨(blk_cell B0.out 0).trans rfl,(blk_cell B0.out 1).trans rfl,((HB.out.cell (World.block_lt_of_cell? w _ hw104_0)).trans hw104_0),((HB.out.cell (World.block_lt_of_cell? w _ hw104_1)).trans hw104_1)⟩ (λhHeld=>?_);clear hK K;refine nV 16 (h:=?_);refine pV 3 17 mk_35_4 ?_;refine pV 4 18 mk_35_5 ?_;refine pV 5 19 mk_35_6 ?_;refine pV 7 21 #[true,true,true,true,true,true,false,true,false,false,false,false,false,false,false,false,false,false,false,false,false,false,false,false,false,false,false,false,false,false,false,false,false,false,false] ?_;refine tV 6 (some 20) mk_35_8 (hy:=Or.inl ⟨by rfl,by rintro w' ⟨s0,s1,s2,s3⟩;go_simp;with_reducible rfl⟩) (h:=?_);refine pV 8 22 mk_35_9 ?_;refine pV 9 23 mk_35_10 ?_;refine pV 10 24 mk_35_11 ?_;refine pV 11 25 mk_35_12 ?_;refine tV 12 (some 26) mk_35_13 (hy:=Or.inl ⟨by rfl,by rintro w' ⟨s0,s1,s2,s3⟩;go_simp;with_reducible rfl⟩) (h:=?_);refine pV 13 27 mk_35_14 ?_;refine pV 14 28 mk_35_15 ?_;refine pV 15 29 mk_35_16 ?_;refine pV 16 30 mk_35_17 ?_;refine tV 17 (some 31) mk_35_18 (hy:=Or.inl ⟨by rfl,by rintro w' ⟨s0,s1,s2,s3⟩;go_simp;with_reducible rfl⟩) (h:=?_);refine pV 18 32 mk_35_19 ?_;refine pV 19 33 mk_35_20 ?_;refine pV 20 34 mk_35_21 ?_;refine pV 21 35 mk_35_22 ?_;refine pV 22 36 mk_35_23 ?_;refine pV 23 37 mk_35_24 ?_;refine pV 24 38 mk_35_25 ?_;refine pV 25 39 mk_35_26 ?_;refine pV 26 40 mk_35_27 ?_;refine pV 27 41 mk_35_28 ?_;refine pV 28 42 mk_35_29 ?_;refine pV 30 44 #[true,true,true,true,true,true,true,true,true,true,true,true,true,true,true,true,true,true,true,true,true,true,true,true,true,true,true,true,true,false,true,false,false,false,false] ?_;refine tV 29 (some 43) mk_35_31 (hy:=Or.inl ⟨by rfl,by rintro w' ⟨s0,s1,s2,s3⟩;go_simp;with_reducible rfl⟩) (h:=?_);refine tV 31 (some 45) mk_35_32 (hy:=Or.inl ⟨by rfl,by rintro w' ⟨s0,s1,s2,s3⟩;go_simp;with_reducible rfl⟩) (h:=?_);refine pV 32 46 mk_35_33 ?_;refine pV 33 47 mk_35_34 ?_;refine pV 34 48 mk_35_35 ?_
              refine done_ (done_of HT_.out mAI) ?_;(try go_wp2);go_ret;exact⟨by first|rfl|(simp[errW_none,errW_some] <;> rfl)|(simp only[<-j1];first|rfl|(simp[errW_none,errW_some] <;> rfl))|(simp[*,errW_none,errW_some] <;> rfl),by repeat (first|(with_reducible first|exact HB.out|apply below_alloc|apply pw_below_drewN|apply below_drew1|refine below_set ?_ G1.out)|exact HB.out)⟩
             ·rw[if_neg c27]at H
              have c0p:decide (((rd_T56 l0 x2).f0)<=((rd_T56 l0 (j0)).f0))=false:=decide_eq_false c27;clear c27;have H':=Aside0.mk H;clear H;have p0:0<=(x2:Int):=of_decide_eq_true mF;have q0:x2<(l0.length:Int):=of_decide_eq_true mF;obtain⟨d0,e0,h0,h1⟩:=at_T56 R0.out x2 p0 q0;cases e0;replace h0:=hB HB h0;replace h1:=hB HB h1;replace p0:=eq_true p0;replace q0:=eq_true q0;(try go_wp2_with (first|((with_reducible refine gate_dst (N:=6) rfl ?_);refine bxV (N:=6) (cs:=#[.int .i64 0,.int .i64 0]) (t:=56) (h:=?_);intro g0 hg wi hbox hb;have B0:=Aside0.mk (hbox);have G0:=Aside0.mk ((mH:w.heap.size<=g0));have G1:=Aside0.mk ((mH:w.heap.size<=g0));replace HB:=Aside0.mk (below_step mA hb);clear hb hbox hg;obtain⟨zc,zd⟩:=bc2 B0.out;have ze:=blk_frozen B0.out)|((with_reducible refine gate_store (t:=56) (p:=6) rfl ?_);refine stV (t:=56) (p:=6) (w1:=((wi.setCell ⟨g0,0,none⟩ (.int .i64 ((rd_T56 l0 x2).f0))).setCell ⟨g0,1,none⟩ (.int .i64 ((rd_T56 l0 x2).f1)))) (h:=?_);intro wk hw;replace B0:Aside0 (wk.heap[g0]? =some (.cells #[.int .i64 ((rd_T56 l0 x2).f0),.int .i64 ((rd_T56 l0 x2).f1)] 56 (0,0))):=⟨mP⟩;replace HB:Aside0 (Below w.heap.size w wk):=⟨mBF⟩;clear hw)));replace B0:=Aside0.mk (blk_drew B0.out);replace HB:=Aside0.mk (below_drew1 HB.out);have p1:0<=((j0):Int):=of_decide_eq_true mF;have q1:(j0)<(l0.length:Int):=of_decide_eq_true mF;obtain⟨d1,e1,h2,h3⟩:=at_T56 R0.out (j0) p1 q1;have hw104_1:=h3;have hw104_0:=h2;obtain rfl:d0=d1:=mCM;replace h2:=hB HB h2;replace h3:=hB HB h3;replace p1:=eq_true p1;replace q1:=eq_true q1;refine start_ (n:=35) (S:=λw'=>w'.cell? ⟨g0,0,none⟩=some (.int .i64 ((rd_T56 l0 x2).f0))/\w'.cell? ⟨g0,1,none⟩=some (.int .i64 ((rd_T56 l0 x2).f1))/\w'.cell? (d0.add (((j0)).toNat *2))=some (.int .i64 ((rd_T56 l0 (j0)).f0))/\w'.cell? ⟨(d0.add (((j0)).toNat *2)).block,(d0.add (((j0)).toNat *2)).off +1,none⟩=some (.int .i64 ((rd_T56 l0 (j0)).f1))) (ds:=[]) mk_35_0 mAI rfl rfl ⟨(blk_cell B0.out 0).trans rfl,(blk_cell B0.out 1).trans rfl,((HB.out.cell (World.block_lt_of_cell? w _ hw104_0)).trans hw104_0),((HB.out.cell (World.block_lt_of_cell? w _ hw104_1)).trans hw104_1)⟩ (λhHeld=>?_);refine with_tabW lsa_Links.tab4 lsa_Links.bits4 (λHT_ HW_=>?_);generalize wk.drew=wl at B0 HB h2 h3 hHeld |-;refine pV 0 14 mk_35_1 ?_;refine tV 1 (some 15) mk_35_2 (hy:=Or.inl ⟨by rfl,by rintro w' ⟨s0,s1,s2,s3⟩;go_simp;with_reducible rfl⟩) (h:=?_);refine oV 2 (some 16) mk_35_3 (h:=λK hK=>?_);refine gV Try.func46 #[.int .i64 ((rd_T56 l0 x2).f0)] (h:=?_)
              with_reducible refine(lsa_Router.calls ((rd_T56 l0 x2).f0) true _ A6.out).mono ?_
              rintro e w' ⟨rfl,⟨nd,rfl⟩⟩;refine⟨_,rfl,?_⟩;refine hK.out _ _ ⟨(blk_cell B0.out 0).trans rfl,(blk_cell B0.out 1).trans rfl,((HB.out.cell (World.block_lt_of_cell? w _ hw104_0)).trans hw104_0),((HB.out.cell (World.block_lt_of_cell? w _ hw104_1)).trans hw104_1)⟩ (λhHeld=>?_);clear hK K;refine nV 16 (h:=?_);refine pV 3 17 mk_35_4 ?_;refine pV 4 18 mk_35_5 ?_;refine pV 5 19 mk_35_6 ?_;refine pV 7 21 #[true,true,true,true,true,true,false,true,false,false,false,false,false,false,false,false,false,false,false,false,false,false,false,false,false,false,false,false,false,false,false,false,false,false,false] ?_;refine tV 6 (some 20) mk_35_8 (hy:=Or.inl ⟨by rfl,by rintro w' ⟨s0,s1,s2,s3⟩;go_simp;with_reducible rfl⟩) (h:=?_);refine pV 8 22 mk_35_9 ?_;refine pV 9 23 mk_35_10 ?_;refine pV 10 24 mk_35_11 ?_;refine pV 11 25 mk_35_12 ?_;refine tV 12 (some 26) mk_35_13 (hy:=Or.inl ⟨by rfl,by rintro w' ⟨s0,s1,s2,s3⟩;go_simp;with_reducible rfl⟩) (h:=?_);refine pV 13 27 mk_35_14 ?_;refine pV 14 28 mk_35_15 ?_;refine pV 15 29 mk_35_16 ?_;refine pV 16 30 mk_35_17 ?_;refine tV 17 (some 31) mk_35_18 (hy:=Or.inl ⟨by rfl,by rintro w' ⟨s0,s1,s2,s3⟩;go_simp;with_reducible rfl⟩) (h:=?_);refine pV 18 32 mk_35_19 ?_;refine pV 19 33 mk_35_20 ?_;refine pV 20 34 mk_35_21 ?_;refine pV 21 35 mk_35_22 ?_;refine pV 22 36 mk_35_23 ?_;refine pV 23 37 mk_35_24 ?_;refine pV 24 38 mk_35_25 ?_;refine pV 25 39 mk_35_26 ?_;refine pV 26 40 mk_35_27 ?_;refine pV 27 41 mk_35_28 ?_;refine pV 28 42 mk_35_29 ?_;refine pV 30 44 #[true,true,true,true,true,true,true,true,true,true,true,true,true,true,true,true,true,true,true,true,true,true,true,true,true,true,true,true,true,false,true,false,false,false,false] ?_;refine tV 29 (some 43) mk_35_31 (hy:=Or.inl ⟨by rfl,by rintro w' ⟨s0,s1,s2,s3⟩;go_simp;with_reducible rfl⟩) (h:=?_);refine tV 31 (some 45) mk_35_32 (hy:=Or.inl ⟨by rfl,by rintro w' ⟨s0,s1,s2,s3⟩;go_simp;with_reducible rfl⟩) (h:=?_);refine pV 32 46 mk_35_33 ?_;refine pV 33 47 mk_35_34 ?_;refine pV 34 48 mk_35_35 ?_
              refine done_ (done_of HT_.out mAI) ?_;(try go_wp2)
              go_roundg k1
              case measure=>have:=HK1.out;omega
              case rel=>exact⟨(wrap64 (x2+1)),mJ,H',⟨by have:=HK1.out;omega⟩,⟨by repeat (first|(with_reducible first|exact HB.out|apply below_alloc|apply pw_below_drewN|apply below_drew1|refine below_set ?_ G1.out)|exact HB.out)⟩⟩
            ·rw[if_neg c26]at H
             exact absurd H mAY
           ·rw[if_neg c25]at H
            exact absurd H mAY
          ·rw[if_neg c23]at H
           have c0a:decide (0<x2)=false:=decide_eq_false c23;clear c23;have H':=Aside0.mk H;clear H;have p0:0<=(x2:Int):=of_decide_eq_true mF;have q0:x2<(l0.length:Int):=of_decide_eq_true mF;obtain⟨d0,e0,h0,h1⟩:=at_T56 R0.out x2 p0 q0;cases e0;replace h0:=hB HB h0;replace h1:=hB HB h1;replace p0:=eq_true p0;replace q0:=eq_true q0;(try go_wp2_with (first|((with_reducible refine gate_dst (N:=6) rfl ?_);refine bxV (N:=6) (cs:=#[.int .i64 0,.int .i64 0]) (t:=56) (h:=?_);intro g0 hg wm hbox hb;have B0:=Aside0.mk (hbox);have G0:=Aside0.mk ((mH:w.heap.size<=g0));have G1:=Aside0.mk ((mH:w.heap.size<=g0));replace HB:=Aside0.mk (below_step mA hb);clear hb hbox hg;obtain⟨zf,zg⟩:=bc2 B0.out;have zh:=blk_frozen B0.out)|((with_reducible refine gate_store (t:=56) (p:=6) rfl ?_);refine stV (t:=56) (p:=6) (w1:=((wm.setCell ⟨g0,0,none⟩ (.int .i64 ((rd_T56 l0 x2).f0))).setCell ⟨g0,1,none⟩ (.int .i64 ((rd_T56 l0 x2).f1)))) (h:=?_);intro wo hw;replace B0:Aside0 (wo.heap[g0]? =some (.cells #[.int .i64 ((rd_T56 l0 x2).f0),.int .i64 ((rd_T56 l0 x2).f1)] 56 (0,0))):=⟨mP⟩;replace HB:Aside0 (Below w.heap.size w wo):=⟨mBF⟩;clear hw)));replace B0:=Aside0.mk (blk_drew B0.out);replace HB:=Aside0.mk (below_drew1 HB.out);refine start_ (n:=35) (S:=λw'=>w'.cell? ⟨g0,0,none⟩=some (.int .i64 ((rd_T56 l0 x2).f0))/\w'.cell? ⟨g0,1,none⟩=some (.int .i64 ((rd_T56 l0 x2).f1))) (ds:=[]) mk_35_0 mAI rfl rfl ⟨(blk_cell B0.out 0).trans rfl,(blk_cell B0.out 1).trans rfl⟩ (λhHeld=>?_);refine with_tabW lsa_Links.tab4 lsa_Links.bits4 (λHT_ HW_=>?_);generalize wo.drew=wp at B0 HB hHeld |-;refine pV 0 14 mk_35_1 ?_;refine tV 1 (some 15) mk_35_2 (hy:=Or.inl ⟨by rfl,by rintro w' ⟨s0,s1⟩;go_simp;with_reducible rfl⟩) (h:=?_);refine oV 2 (some 16) mk_35_3 (h:=λK hK=>?_);refine gV Try.func46 #[.int .i64 ((rd_T56 l0 x2).f0)] (h:=?_)
           with_reducible refine(lsa_Router.calls ((rd_T56 l0 x2).f0) true _ A6.out).mono ?_
           rintro e w' ⟨rfl,⟨nd,rfl⟩⟩;refine⟨_,rfl,?_⟩;refine hK.out _ _ ⟨(blk_cell B0.out 0).trans rfl,(blk_cell B0.out 1).trans rfl⟩ (λhHeld=>?_);clear hK K;refine nV 16 (h:=?_);refine pV 3 17 mk_35_4 ?_;refine pV 4 18 mk_35_5 ?_;refine pV 5 19 mk_35_6 ?_;refine pV 7 21 #[true,true,true,true,true,true,false,true,false,false,false,false,false,false,false,false,false,false,false,false,false,false,false,false,false,false,false,false,false,false,false,false,false,false,false] ?_;refine tV 6 (some 20) mk_35_8 (hy:=Or.inl ⟨by rfl,by rintro w' ⟨s0,s1⟩;go_simp;with_reducible rfl⟩) (h:=?_);refine pV 8 22 mk_35_9 ?_;refine pV 9 23 mk_35_10 ?_;refine pV 10 24 mk_35_11 ?_;refine pV 11 25 mk_35_12 ?_;refine tV 12 (some 26) mk_35_13 (hy:=Or.inl ⟨by rfl,by rintro w' ⟨s0,s1⟩;go_simp;with_reducible rfl⟩) (h:=?_);refine pV 13 27 mk_35_14 ?_;refine pV 14 28 mk_35_15 ?_;refine pV 15 29 mk_35_16 ?_;refine pV 16 30 mk_35_17 ?_;refine tV 17 (some 31) mk_35_18 (hy:=Or.inl ⟨by rfl,by rintro w' ⟨s0,s1⟩;go_simp;with_reducible rfl⟩) (h:=?_);refine pV 18 32 mk_35_19 ?_;refine pV 19 33 mk_35_20 ?_;refine pV 20 34 mk_35_21 ?_;refine pV 21 35 mk_35_22 ?_;refine pV 22 36 mk_35_23 ?_;refine pV 23 37 mk_35_24 ?_;refine pU 24 38 mk_35_25 ?_;refine pU 25 39 mk_35_26 ?_;refine pU 26 40 mk_35_27 ?_;refine pU 27 41 mk_35_28 ?_;refine pU 28 42 mk_35_29 ?_;refine pU 29 43 mk_35_30 ?_;refine pU 30 44 mk_35_31 ?_;refine pU 31 45 mk_35_32 ?_;refine pU 32 46 mk_35_33 ?_;refine pV 33 47 mk_35_34 ?_;refine pV 34 48 mk_35_35 ?_
           refine done_ (done_of HT_.out mAI) ?_;(try go_wp2)
           go_roundg k1
           case measure=>have:=HK1.out;omega
           case rel=>exact⟨(wrap64 (x2+1)),mJ,H',⟨by have:=HK1.out;omega⟩,⟨by repeat (first|(with_reducible first|exact HB.out|apply below_alloc|apply pw_below_drewN|apply below_drew1|refine below_set ?_ G1.out)|exact HB.out)⟩⟩
      ·replace c7:=Bool.eq_false_iff.mpr c7
       subst c7;rw[if_neg (show ¬(false=true)by decide)]at H;obtain rfl:=Option.some.inj H;have p0:0<=(x2:Int):=of_decide_eq_true mF;have q0:x2<(l0.length:Int):=of_decide_eq_true mF;obtain⟨d0,e0,h0,h1⟩:=at_T56 R0.out x2 p0 q0;cases e0;replace h0:=hB HB h0;replace h1:=hB HB h1;replace p0:=eq_true p0;replace q0:=eq_true q0;(try go_wp2_with (first|((with_reducible refine gate_dst (N:=6) rfl ?_);refine bxV (N:=6) (cs:=#[.int .i64 0,.int .i64 0]) (t:=56) (h:=?_);intro g0 hg wq hbox hb;have B0:=Aside0.mk (hbox);have G0:=Aside0.mk ((mH:w.heap.size<=g0));have G1:=Aside0.mk ((mH:w.heap.size<=g0));replace HB:=Aside0.mk (below_step mA hb);clear hb hbox hg;obtain⟨zi,zj⟩:=bc2 B0.out;have zk:=blk_frozen B0.out)|((with_reducible refine gate_store (t:=56) (p:=6) rfl ?_);refine stV (t:=56) (p:=6) (w1:=((wq.setCell ⟨g0,0,none⟩ (.int .i64 ((rd_T56 l0 x2).f0))).setCell ⟨g0,1,none⟩ (.int .i64 ((rd_T56 l0 x2).f1)))) (h:=?_);intro ws hw;replace B0:Aside0 (ws.heap[g0]? =some (.cells #[.int .i64 ((rd_T56 l0 x2).f0),.int .i64 ((rd_T56 l0 x2).f1)] 56 (0,0))):=⟨mP⟩;replace HB:Aside0 (Below w.heap.size w ws):=⟨mBF⟩;clear hw)));replace B0:=Aside0.mk (blk_drew B0.out);replace HB:=Aside0.mk (below_drew1 HB.out);refine start_ (n:=35) (S:=λw'=>w'.cell? ⟨g0,0,none⟩=some (.int .i64 ((rd_T56 l0 x2).f0))/\w'.cell? ⟨g0,1,none⟩=some (.int .i64 ((rd_T56 l0 x2).f1))) (ds:=[]) mk_35_0 mAI rfl rfl ⟨(blk_cell B0.out 0).trans rfl,(blk_cell B0.out 1).trans rfl⟩ (λhHeld=>?_);refine with_tabW lsa_Links.tab4 lsa_Links.bits4 (λHT_ HW_=>?_);generalize ws.drew=wt at B0 HB hHeld |-;refine pV 0 14 mk_35_1 ?_;refine tV 1 (some 15) mk_35_2 (hy:=Or.inl ⟨by rfl,by rintro w' ⟨s0,s1⟩;go_simp;with_reducible rfl⟩) (h:=?_);refine oV 2 (some 16) mk_35_3 (h:=λK hK=>?_);refine gV Try.func46 #[.int .i64 ((rd_T56 l0 x2).f0)] (h:=?_)
       with_reducible refine(lsa_Router.calls ((rd_T56 l0 x2).f0) false _ A6.out).mono ?_
       rintro e w' ⟨rfl,⟨nd,rfl⟩⟩;refine⟨_,rfl,?_⟩;refine hK.out _ _ ⟨(blk_cell B0.out 0).trans rfl,(blk_cell B0.out 1).trans rfl⟩ (λhHeld=>?_);clear hK K;refine nV 16 (h:=?_);refine pV 3 17 mk_35_4 ?_;refine pV 4 18 mk_35_5 ?_;refine pU 5 19 mk_35_6 ?_;refine pU 6 20 mk_35_7 ?_;refine pU 7 21 mk_35_8 ?_;refine pU 8 22 mk_35_9 ?_;refine pV 9 23 mk_35_10 ?_;refine pV 10 24 mk_35_11 ?_;refine pU 11 25 mk_35_12 ?_;refine pU 12 26 mk_35_13 ?_;refine pU 13 27 mk_35_14 ?_;refine pV 14 28 mk_35_15 ?_;refine pV 15 29 mk_35_16 ?_;refine pU 16 30 mk_35_17 ?_;refine pU 17 31 mk_35_18 ?_;refine pU 18 32 mk_35_19 ?_;refine pV 19 33 mk_35_20 ?_;refine pV 20 34 mk_35_21 ?_;refine pU 21 35 mk_35_22 ?_;refine pU 22 36 mk_35_23 ?_;refine pU 23 37 mk_35_24 ?_;refine pU 24 38 mk_35_25 ?_;refine pU 25 39 mk_35_26 ?_;refine pU 26 40 mk_35_27 ?_;refine pU 27 41 mk_35_28 ?_;refine pU 28 42 mk_35_29 ?_;refine pU 29 43 mk_35_30 ?_;refine pU 30 44 mk_35_31 ?_;refine pU 31 45 mk_35_32 ?_;refine pU 32 46 mk_35_33 ?_;refine pU 33 47 mk_35_34 ?_;refine pV 34 48 mk_35_35 ?_
       refine done_ (done_of HT_.out mAI) ?_;(try go_wp2);go_ret;exact⟨by first|rfl|(simp[errW_none,errW_some] <;> rfl)|(simp[*,errW_none,errW_some] <;> rfl),by repeat (first|(with_reducible first|exact HB.out|apply below_alloc|apply pw_below_drewN|apply below_drew1|refine below_set ?_ G1.out)|exact HB.out)⟩
     ·rw[if_neg c5]at H
      exact absurd H mAY
    ·rw[if_neg c4]at H
     exact absurd H mAY
   ·rw[if_neg c3]at H
    have c6:=decide_eq_false c3;clear c3;obtain rfl:=Option.some.inj H;go_wp2;go_ret;exact⟨by first|rfl|(simp[errW_none,errW_some] <;> rfl)|(simp[*,errW_none,errW_some] <;> rfl),by repeat (first|(with_reducible first|exact HB.out|apply below_alloc|apply pw_below_drewN|apply below_drew1)|exact HB.out)⟩
def lsa_May.f (k:Nat) (a0_0:Int) (a0_1:Int) (a0_2:Int) (l0_3:List (S56)):Option (Bool):=(lsa_Router.f a0_0).bind λt106=>(if t106=true then((lsa_Serial.f a0_1).bind λt107=>(if t107=true then((lsa_Age.f a0_2).bind λt108=>(if t108=true then((lsa_Links.f k l0_3 a0_0).bind λt109=>(some t109))else(some false)))else(some false)))else(some false))
theorem lsa_May.mono:∀a0 a1 a2 a3 k,LeO (lsa_May.f k a0 a1 a2 a3) (lsa_May.f (k+1) a0 a1 a2 a3):=by
 intro a0 a1 a2 a3 k;unfold lsa_May.f
 repeat' (with_reducible first|exact lsa_Links.mono _ _ _|exact LeO.refl _|exact LeO.none _|refine LeO.ite ?_ ?_ |refine LeO.bind ?_ (λ_=>?_))
set_option maxHeartbeats 8000000 in
set_option maxRecDepth 100000 in
theorem lsa_May.calls (k:Nat) (a0_0:Int) (a0_1:Int) (a0_2:Int) (A0_3:Option Addr) (c0_3:Nat) (l0_3:List (S56)) (r:Bool) (w:World) (hr0_3:Kd.C k56 w A0_3 l0_3.length l0_3) (hc0_3:l0_3.length<=c0_3) (h:lsa_May.f k a0_0 a0_1 a0_2 l0_3=some r):
  Calls Try.prog 27 #[.agg #[.int .i64 a0_0,.int .i64 a0_1,.int .i64 a0_2,.slice A0_3 l0_3.length c0_3]] w λe w'=>e= .returned (.bool r)/\Below w.heap.size w w':=by
 have hu32:=Try.underlying32;have R0:=Aside0.mk hr0_3;have K0:=Aside0.mk hc0_3;clear hr0_3 hc0_3;have HB:=Aside0.mk (Below.refl w.heap.size w);have H:((lsa_Router.f a0_0).bind λt0=>(if t0=true then((lsa_Serial.f a0_1).bind λt1=>(if t1=true then((lsa_Age.f a0_2).bind λt2=>(if t2=true then((lsa_Links.f k l0_3 a0_0).bind λt3=>(some t3))else(some false)))else(some false)))else(some false)))=some r:=h;clear h;obtain⟨t0,A0,H⟩:=bsE H;(try dsimp only at H);have A2:=Aside0.mk A0;clear A0
 by_cases c3:t0=true
 ·subst c3
  rw[if_pos rfl]at H;obtain⟨t1,A3,H⟩:=bsE H;(try dsimp only at H);have A4:=Aside0.mk A3;clear A3
  by_cases c5:t1=true
  ·subst c5
   rw[if_pos rfl]at H;obtain⟨t2,A5,H⟩:=bsE H;(try dsimp only at H);have A6:=Aside0.mk A5;clear A5
   by_cases c7:t2=true
   ·subst c7
    rw[if_pos rfl]at H;obtain⟨t3,A7,H⟩:=bsE H;(try dsimp only at H);have A8:=Aside0.mk A7;clear A7;obtain rfl:=Option.some.inj H
    go_enter Try.func27,Try.ntmps27
    go_wp2_with (first|((with_reducible refine gate_dst (N:=1) rfl ?_);refine bxV (N:=1) (cs:=#[.int .i64 a0_0,.int .i64 a0_1,.int .i64 a0_2,.slice A0_3 l0_3.length c0_3]) (t:=32) (h:=?_);intro g0 hg w9 hbox hb;have B0:=Aside0.mk (hbox);have G0:=Aside0.mk ((mH:w.heap.size<=g0));have G1:=Aside0.mk ((mH:w.heap.size<=g0));replace HB:=Aside0.mk (below_step mA hb);clear hb hbox hg;obtain⟨z0,z1,z2,z3⟩:=bc4 B0.out;have z4:=blk_frozen B0.out)|((with_reducible refine gate_callee (f:=46) rfl ?_);refine cLV (some 5) Try.func46 #[.int .i64 a0_0] (h:=?_);(with_reducible refine(lsa_Router.calls a0_0 true _ A2.out).mono ?_);rintro e w' ⟨rfl,⟨nd,rfl⟩⟩;refine⟨_,rfl,?_⟩)|(go_at_call 47;(with_reducible refine(lsa_Serial.calls a0_1 true _ A4.out).mono ?_);rintro e w' ⟨rfl,⟨nd,rfl⟩⟩)|(go_at_call 48;(with_reducible refine(lsa_Age.calls a0_2 true _ A6.out).mono ?_);rintro e w' ⟨rfl,⟨nd,rfl⟩⟩)|(go_at_call 49;(with_reducible refine(lsa_Links.calls k _ _ l0_3 a0_0 t3 _ ?side1 ?side2 A8.out).mono ?_);(case side1=>repeat (first|exact(Kd.C_below R0.out mB)|(with_reducible refine Kd.C_alloc ?_ _)|(with_reducible refine Kd.C_drewN ?_ _)|(with_reducible refine Kd.C_drew ?_)));(case side2=>exact K0.out);rintro e w1 ⟨rfl,hb⟩;replace B0:=Aside0.mk (blk_below mC hb);replace HB:=Aside0.mk (below_step mB hb);(try clear hb);(try clear hb2);(try clear hk);(try clear hi)))
    go_ret;exact⟨by first|rfl|(simp[errW_none,errW_some] <;> rfl)|(simp[*,errW_none,errW_some] <;> rfl),by repeat (first|(with_reducible first|exact HB.out|apply below_alloc|apply pw_below_drewN|apply below_drew1|refine below_set ?_ G1.out)|exact HB.out)⟩
   ·replace c7:=Bool.eq_false_iff.mpr c7
    subst c7;rw[if_neg (show ¬(false=true)by decide)]at H;obtain rfl:=Option.some.inj H
    go_enter Try.func27,Try.ntmps27
    go_wp2_with (first|((with_reducible refine gate_dst (N:=1) rfl ?_);refine bxV (N:=1) (cs:=#[.int .i64 a0_0,.int .i64 a0_1,.int .i64 a0_2,.slice A0_3 l0_3.length c0_3]) (t:=32) (h:=?_);intro g0 hg w2 hbox hb;have B0:=Aside0.mk (hbox);have G0:=Aside0.mk ((mH:w.heap.size<=g0));have G1:=Aside0.mk ((mH:w.heap.size<=g0));replace HB:=Aside0.mk (below_step mA hb);clear hb hbox hg;obtain⟨z5,z6,z7,z8⟩:=bc4 B0.out;have z9:=blk_frozen B0.out)|((with_reducible refine gate_callee (f:=46) rfl ?_);refine cLV (some 5) Try.func46 #[.int .i64 a0_0] (h:=?_);(with_reducible refine(lsa_Router.calls a0_0 true _ A2.out).mono ?_);rintro e w' ⟨rfl,⟨nd,rfl⟩⟩;refine⟨_,rfl,?_⟩)|(go_at_call 47;(with_reducible refine(lsa_Serial.calls a0_1 true _ A4.out).mono ?_);rintro e w' ⟨rfl,⟨nd,rfl⟩⟩)|(go_at_call 48;(with_reducible refine(lsa_Age.calls a0_2 false _ A6.out).mono ?_);rintro e w' ⟨rfl,⟨nd,rfl⟩⟩))
    go_ret;exact⟨by first|rfl|(simp[errW_none,errW_some] <;> rfl)|(simp[*,errW_none,errW_some] <;> rfl),by repeat (first|(with_reducible first|exact HB.out|apply below_alloc|apply pw_below_drewN|apply below_drew1|refine below_set ?_ G1.out)|exact HB.out)⟩
  ·replace c5:=Bool.eq_false_iff.mpr c5
   subst c5;rw[if_neg (show ¬(false=true)by decide)]at H;obtain rfl:=Option.some.inj H
   go_enter Try.func27,Try.ntmps27
   go_wp2_with (first|((with_reducible refine gate_dst (N:=1) rfl ?_);refine bxV (N:=1) (cs:=#[.int .i64 a0_0,.int .i64 a0_1,.int .i64 a0_2,.slice A0_3 l0_3.length c0_3]) (t:=32) (h:=?_);intro g0 hg w3 hbox hb;have B0:=Aside0.mk (hbox);have G0:=Aside0.mk ((mH:w.heap.size<=g0));have G1:=Aside0.mk ((mH:w.heap.size<=g0));replace HB:=Aside0.mk (below_step mA hb);clear hb hbox hg;obtain⟨za,zb,zc,zd⟩:=bc4 B0.out;have ze:=blk_frozen B0.out)|((with_reducible refine gate_callee (f:=46) rfl ?_);refine cLV (some 5) Try.func46 #[.int .i64 a0_0] (h:=?_);(with_reducible refine(lsa_Router.calls a0_0 true _ A2.out).mono ?_);rintro e w' ⟨rfl,⟨nd,rfl⟩⟩;refine⟨_,rfl,?_⟩)|(go_at_call 47;(with_reducible refine(lsa_Serial.calls a0_1 false _ A4.out).mono ?_);rintro e w' ⟨rfl,⟨nd,rfl⟩⟩))
   go_ret;exact⟨by first|rfl|(simp[errW_none,errW_some] <;> rfl)|(simp[*,errW_none,errW_some] <;> rfl),by repeat (first|(with_reducible first|exact HB.out|apply below_alloc|apply pw_below_drewN|apply below_drew1|refine below_set ?_ G1.out)|exact HB.out)⟩
 ·replace c3:=Bool.eq_false_iff.mpr c3
  subst c3;rw[if_neg (show ¬(false=true)by decide)]at H;obtain rfl:=Option.some.inj H
  go_enter Try.func27,Try.ntmps27
  go_wp2_with (first|((with_reducible refine gate_dst (N:=1) rfl ?_);refine bxV (N:=1) (cs:=#[.int .i64 a0_0,.int .i64 a0_1,.int .i64 a0_2,.slice A0_3 l0_3.length c0_3]) (t:=32) (h:=?_);intro g0 hg w4 hbox hb;have B0:=Aside0.mk (hbox);have G0:=Aside0.mk ((mH:w.heap.size<=g0));have G1:=Aside0.mk ((mH:w.heap.size<=g0));replace HB:=Aside0.mk (below_step mA hb);clear hb hbox hg;obtain⟨zf,zg,zh,zi⟩:=bc4 B0.out;have zj:=blk_frozen B0.out)|((with_reducible refine gate_callee (f:=46) rfl ?_);refine cLV (some 5) Try.func46 #[.int .i64 a0_0] (h:=?_);(with_reducible refine(lsa_Router.calls a0_0 false _ A2.out).mono ?_);rintro e w' ⟨rfl,⟨nd,rfl⟩⟩;refine⟨_,rfl,?_⟩))
  go_ret;exact⟨by first|rfl|(simp[errW_none,errW_some] <;> rfl)|(simp[*,errW_none,errW_some] <;> rfl),by repeat (first|(with_reducible first|exact HB.out|apply below_alloc|apply pw_below_drewN|apply below_drew1|refine below_set ?_ G1.out)|exact HB.out)⟩
def update_May.l0:Nat->List (S32)->List (S32)->Int->Int->Option (Bool)
 |0,_,_,_,_=>none
 |k+1,x0,x5,x6,x7=>if x7<x6 then(if 0<=x7 then(if x7<(x5.length:Int)then((lsa_May.f k ((rd_T32 x5 x7).f0) ((rd_T32 x5 x7).f1) ((rd_T32 x5 x7).f2) ((rd_T32 x5 x7).f3)).bind λt112=>(if t112=true then(if x7>0 then(if 0<=(wrap64 (x7-1))then(if(wrap64 (x7-1))<(x0.length:Int)then(if((rd_T32 x0 (wrap64 (x7-1))).f0)>=((rd_T32 x5 x7).f0)then(some false)else(update_May.l0 k x0 x5 x6 (wrap64 (x7+1))))else(none))else(none))else(update_May.l0 k x0 x5 x6 (wrap64 (x7+1))))else(some false)))else(none))else(none))else(some true)
def update_May.f (k:Nat) (l0:List (S32)):Option (Bool):=update_May.l0 k l0 l0 (l0.length:Int) 0
theorem update_May.mono_l:∀k,(∀y0 y1 y2 y3,LeO (update_May.l0 k y0 y1 y2 y3) (update_May.l0 (k+1) y0 y1 y2 y3))
 |0=>λ_ _ _ _ r h=>by simp[update_May.l0]at h
 |k+1=>by
  have ih0:=update_May.mono_l k
  ·intro y0 y1 y2 y3
   unfold update_May.l0
   repeat' (with_reducible first|exact ih0 _ _ _ _|exact lsa_May.mono _ _ _ _ _|exact LeO.refl _|exact LeO.none _|refine LeO.ite ?_ ?_ |refine LeO.bind ?_ (λ_=>?_))
theorem update_May.mono:∀a0 k,LeO (update_May.f k a0) (update_May.f (k+1) a0):=by
 intro a0 k;have ih0:=update_May.mono_l k;unfold update_May.f
 repeat' (with_reducible first|exact ih0 _ _ _ _|exact lsa_May.mono _ _ _ _ _|exact LeO.refl _|exact LeO.none _|refine LeO.ite ?_ ?_ |refine LeO.bind ?_ (λ_=>?_))
def update_May.T4:Bool × List (List Nat × List Nat):=(true,[([],[]),([0],[0]),([1],[1]),([2,1],[2]),([3],[3]),([4,3],[3,4]),([5,3,3],[3,5]),([6],[6]),([6],[6]),([8,6],[6,8]),([7,9,6],[6,7,9]),([10,6],[6,10]),([11,6],[6,11]),([6],[6]),([13,6],[6,13]),([12,14,6],[6,12,14]),([6,15,3],[3,6,15]),([3,16],[3,16])])
def update_May.B4:List Nat:=[0,1,3,7,15,31,63,127,127,383,1023,2047,4095,127,8319,32767,65535,131071]
theorem update_May.tab4:rtab .any (opsOf Try.f35 4)=update_May.T4:=by kernel_rfl
theorem update_May.bits4:waitsOk update_May.T4.2 update_May.B4=true:=by kernel_rfl
set_option maxHeartbeats 8000000 in
set_option maxRecDepth 100000 in
theorem update_May.calls (k:Nat) (A0:Option Addr) (c0:Nat) (l0:List (S32)) (r:Bool) (w:World) (hr0:Kd.C k32 w A0 l0.length l0) (hc0:l0.length<=c0) (h:update_May.f k l0=some r):
  Calls Try.prog 35 #[.slice A0 l0.length c0] w λe w'=>e= .returned (.bool r)/\Below w.heap.size w w':=by
 have hu32:=Try.underlying32;have R0:=Aside0.mk hr0;have K0:=Aside0.mk hc0;clear hr0 hc0;have HB:=Aside0.mk (Below.refl w.heap.size w);have H:(update_May.l0 k l0 l0 (l0.length:Int) 0)=some r:=h;clear h;have H':=Aside0.mk H;clear H
 go_enter Try.func35,Try.ntmps35
 go_wp2
 go_loopg [7] k (λkq v7 w'=>∃(x1:Int),v7= .int .i64 x1/\Aside0 (update_May.l0 kq l0 l0 (l0.length:Int) x1=some r)/\Aside0 (kq<=k)/\Aside0 (Below w.heap.size w w'))
 case atStart=>exact⟨(0),mJ,H',⟨Nat.le_refl _⟩,⟨by repeat (first|(with_reducible first|exact HB.out|apply below_alloc|apply pw_below_drewN|apply below_drew1)|exact HB.out)⟩⟩
 case round=>
  clear H';obtain⟨x1,rfl,HA,HK1,HB⟩:=hrel;cases gk with
  |zero=>exact absurd HA.out (by simp[update_May.l0])
  |succ k1=>
   have H:=HA.out;clear HA;simp only[update_May.l0]at H
   by_cases c2:x1<(l0.length:Int)
   ·rw[if_pos c2]at H
    have c5:=decide_eq_true c2;clear c2
    by_cases c3:0<=x1
    ·rw[if_pos c3]at H
     have cd:=decide_eq_true c3;clear c3
     by_cases c4:x1<(l0.length:Int)
     ·rw[if_pos c4]at H
      have ci:=decide_eq_true c4;clear c4;obtain⟨t0,A1,H⟩:=bsE H;(try dsimp only at H);have A5:=Aside0.mk A1;clear A1
      by_cases c6:t0=true
      ·subst c6
       rw[if_pos rfl]at H
       by_cases c7:x1>0
       ·rw[if_pos c7]at H
        have cp:decide (0<x1)=true:=decide_eq_true c7;clear c7;obtain⟨j0,j1⟩:∃j_:Int,(wrap64 (x1-1))=j_:=⟨_,rfl⟩
        replace H:(if 0<=(j0)then(if(j0)<(l0.length:Int)then(if((rd_T32 l0 (j0)).f0)>=((rd_T32 l0 x1).f0)then(some false)else(update_May.l0 k1 l0 l0 (l0.length:Int) (wrap64 (x1+1))))else(none))else(none))=some r:=by first|(rw[j1]at H;exact H)|(simp only[j1]at H |-;exact H)
        (try rw[j1]at A5)
        have j2:(IntKind.i64.wrap (x1-1))=j0:=(i64_w _).trans j1
        by_cases c9:0<=(j0)
        ·rw[if_pos c9]at H
         have cv:=decide_eq_true c9;clear c9
         by_cases cy:(j0)<(l0.length:Int)
         ·rw[if_pos cy]at H
          have cz:=decide_eq_true cy;clear cy
          by_cases c11:((rd_T32 l0 (j0)).f0)>=((rd_T32 l0 x1).f0)
          ·rw[if_pos c11]at H
           have c02:decide (((rd_T32 l0 x1).f0)<=((rd_T32 l0 (j0)).f0))=true:=decide_eq_true c11;clear c11;obtain rfl:=Option.some.inj H;have p0:0<=(x1:Int):=of_decide_eq_true mF;have q0:x1<(l0.length:Int):=of_decide_eq_true mF;obtain⟨d0,A4,s8,e0,h0,h1,h2,h3,i0,i1⟩:=at_T32 R0.out x1 p0 q0;cases e0;replace h0:=hB HB h0;replace h1:=hB HB h1;replace h2:=hB HB h2;replace h3:=hB HB h3;have R1:=Aside0.mk i1;have K1:=Aside0.mk i0;clear i1 i0;replace p0:=eq_true p0;replace q0:=eq_true q0;(try go_wp2_with (first|((with_reducible refine gate_dst (N:=4) rfl ?_);refine bxV (N:=4) (cs:=#[.int .i64 0,.int .i64 0,.int .i64 0,.slice none 0 0]) (t:=32) (h:=?_);intro g0 hg w0 hbox hb;have B0:=Aside0.mk (hbox);have G0:=Aside0.mk ((mH:w.heap.size<=g0));have G1:=Aside0.mk ((mH:w.heap.size<=g0));replace HB:=Aside0.mk (below_step mA hb);clear hb hbox hg;obtain⟨z0,z1,z2,z3⟩:=bc4 B0.out;have z4:=blk_frozen B0.out)|((with_reducible refine gate_store (t:=32) (p:=4) rfl ?_);refine stV (t:=32) (p:=4) (w1:=((((w0.setCell ⟨g0,0,none⟩ (.int .i64 ((rd_T32 l0 x1).f0))).setCell ⟨g0,1,none⟩ (.int .i64 ((rd_T32 l0 x1).f1))).setCell ⟨g0,2,none⟩ (.int .i64 ((rd_T32 l0 x1).f2))).setCell ⟨g0,3,none⟩ (.slice A4 ((rd_T32 l0 x1).f3).length s8))) (h:=?_);intro w2 hw;replace B0:Aside0 (w2.heap[g0]? =some (.cells #[.int .i64 ((rd_T32 l0 x1).f0),.int .i64 ((rd_T32 l0 x1).f1),.int .i64 ((rd_T32 l0 x1).f2),.slice A4 ((rd_T32 l0 x1).f3).length s8] 32 (0,0))):=⟨mO⟩;replace HB:Aside0 (Below w.heap.size w w2):=⟨mBF⟩;clear hw)));replace B0:=Aside0.mk (blk_drew B0.out);replace HB:=Aside0.mk (below_drew1 HB.out);have p1:0<=((j0):Int):=of_decide_eq_true mF;have q1:(j0)<(l0.length:Int):=of_decide_eq_true mF;obtain⟨d1,A6,s9,e1,h4,h5,h6,h7,i2,i3⟩:=at_T32 R0.out (j0) p1 q1;have hw113_3:=h7;have hw113_2:=h6;have hw113_1:=h5;have hw113_0:=h4;obtain rfl:d0=d1:=mCM;replace h4:=hB HB h4;replace h5:=hB HB h5;replace h6:=hB HB h6;replace h7:=hB HB h7;have R2:=Aside0.mk i3;have K2:=Aside0.mk i2;clear i3 i2;replace p1:=eq_true p1;replace q1:=eq_true q1;refine start_ (n:=18) (S:=λw'=>w'.cell? ⟨g0,0,none⟩=some (.int .i64 ((rd_T32 l0 x1).f0))/\w'.cell? ⟨g0,1,none⟩=some (.int .i64 ((rd_T32 l0 x1).f1))/\w'.cell? ⟨g0,2,none⟩=some (.int .i64 ((rd_T32 l0 x1).f2))/\w'.cell? ⟨g0,3,none⟩=some (.slice A4 ((rd_T32 l0 x1).f3).length s8)/\w'.cell? (d0.add (((j0)).toNat *4))=some (.int .i64 ((rd_T32 l0 (j0)).f0))/\w'.cell? ⟨(d0.add (((j0)).toNat *4)).block,(d0.add (((j0)).toNat *4)).off +1,none⟩=some (.int .i64 ((rd_T32 l0 (j0)).f1))/\w'.cell? ⟨(d0.add (((j0)).toNat *4)).block,(d0.add (((j0)).toNat *4)).off +2,none⟩=some (.int .i64 ((rd_T32 l0 (j0)).f2))/\w'.cell? ⟨(d0.add (((j0)).toNat *4)).block,(d0.add (((j0)).toNat *4)).off +3,none⟩=some (.slice A6 ((rd_T32 l0 (j0)).f3).length s9)) (ds:=[]) mk_18_0 mAI rfl rfl ⟨(blk_cell B0.out 0).trans rfl,(blk_cell B0.out 1).trans rfl,(blk_cell B0.out 2).trans rfl,(blk_cell B0.out 3).trans rfl,((HB.out.cell (World.block_lt_of_cell? w _ hw113_0)).trans hw113_0),((HB.out.cell (World.block_lt_of_cell? w _ hw113_1)).trans hw113_1),((HB.out.cell (World.block_lt_of_cell? w _ hw113_2)).trans hw113_2),((HB.out.cell (World.block_lt_of_cell? w _ hw113_3)).trans hw113_3)⟩ (λhHeld=>?_);refine with_tabW update_May.tab4 update_May.bits4 (λHT_ HW_=>?_);generalize w2.drew=w3 at B0 HB R2 h4 h5 h6 h7 hHeld |-;refine tV 0 (some 12) mk_18_1 (hy:=Or.inl ⟨by rfl,by rintro w' ⟨s0,s1,s2,s3,s4,s5,s6,s7⟩;go_simp;with_reducible rfl⟩) (h:=?_);refine oV 1 (some 13) mk_18_2 (h:=λK hK=>?_)
           refine gV Try.func27 #[.agg #[.int .i64 ((rd_T32 l0 x1).f0),.int .i64 ((rd_T32 l0 x1).f1),.int .i64 ((rd_T32 l0 x1).f2),.slice A4 ((rd_T32 l0 x1).f3).length s8]] (h:=?_)
           with_reducible refine(lsa_May.calls k1 ((rd_T32 l0 x1).f0) ((rd_T32 l0 x1).f1) ((rd_T32 l0 x1).f2) _ _ ((rd_T32 l0 x1).f3) true _ ?side1 ?side2 A5.out).mono ?_
           (case side1=>repeat (first|exact(Kd.C_below R1.out HB.out)|(with_reducible refine Kd.C_alloc ?_ _)|(with_reducible refine Kd.C_drewN ?_ _)|(with_reducible refine Kd.C_drew ?_)))
           (case side2=>exact K1.out)
           rintro e w4 ⟨rfl,hb⟩;refine⟨_,rfl,?_⟩;replace B0:=Aside0.mk (blk_below mC hb);replace HB:=Aside0.mk (below_step mB hb);(try clear hb);(try clear hb2);(try clear hk);(try clear hi);refine hK.out _ _ ⟨(blk_cell B0.out 0).trans rfl,(blk_cell B0.out 1).trans rfl,(blk_cell B0.out 2).trans rfl,(blk_cell B0.out 3).trans rfl,((HB.out.cell (World.block_lt_of_cell? w _ hw113_0)).trans hw113_0),((HB.out.cell (World.block_lt_of_cell? w _ hw113_1)).trans hw113_1),((HB.out.cell (World.block_lt_of_cell? w _ hw113_2)).trans hw113_2),((HB.out.cell (World.block_lt_of_cell? w _ hw113_3)).trans hw113_3)⟩ (λhHeld=>?_);clear hK K;refine nV 13 (h:=?_);refine pV 2 14 mk_18_3 ?_;refine pV 3 15 mk_18_4 ?_;refine pV 4 16 mk_18_5 ?_;refine pV 5 17 mk_18_6 ?_;refine pV 6 18 mk_18_7 ?_;refine pV 7 19 mk_18_8 ?_;refine pV 8 20 mk_18_9 ?_;refine pV 9 21 mk_18_10 ?_;refine pV 10 22 mk_18_11 ?_;refine pV 11 23 mk_18_12 ?_;refine pV 13 25 #[true,true,true,true,true,true,true,true,true,true,true,true,false,true,false,false,false,false] ?_;refine tV 12 (some 24) mk_18_14 (hy:=Or.inl ⟨by rfl,by rintro w' ⟨s0,s1,s2,s3,s4,s5,s6,s7⟩;go_simp;with_reducible rfl⟩) (h:=?_);refine tV 14 (some 26) mk_18_15 (hy:=Or.inl ⟨by rfl,by rintro w' ⟨s0,s1,s2,s3,s4,s5,s6,s7⟩;go_simp;with_reducible rfl⟩) (h:=?_);refine pV 15 27 mk_18_16 ?_;refine pV 16 28 mk_18_17 ?_;refine pV 17 29 mk_18_18 ?_;refine done_ (done_of HT_.out mAI) ?_;(try go_wp2);go_ret;exact⟨by first|rfl|(simp[errW_none,errW_some] <;> rfl)|(simp only[<-j1];first|rfl|(simp[errW_none,errW_some] <;> rfl))|(simp[*,errW_none,errW_some] <;> rfl),by repeat (first|(with_reducible first|exact HB.out|apply below_alloc|apply pw_below_drewN|apply below_drew1|refine below_set ?_ G1.out)|exact HB.out)⟩
          ·rw[if_neg c11]at H
           have c02:decide (((rd_T32 l0 x1).f0)<=((rd_T32 l0 (j0)).f0))=false:=decide_eq_false c11;clear c11;have H':=Aside0.mk H;clear H;have p0:0<=(x1:Int):=of_decide_eq_true mF;have q0:x1<(l0.length:Int):=of_decide_eq_true mF;obtain⟨d0,A4,s8,e0,h0,h1,h2,h3,i0,i1⟩:=at_T32 R0.out x1 p0 q0;cases e0;replace h0:=hB HB h0;replace h1:=hB HB h1;replace h2:=hB HB h2;replace h3:=hB HB h3;have R1:=Aside0.mk i1;have K1:=Aside0.mk i0;clear i1 i0;replace p0:=eq_true p0;replace q0:=eq_true q0;(try go_wp2_with (first|((with_reducible refine gate_dst (N:=4) rfl ?_);refine bxV (N:=4) (cs:=#[.int .i64 0,.int .i64 0,.int .i64 0,.slice none 0 0]) (t:=32) (h:=?_);intro g0 hg w5 hbox hb;have B0:=Aside0.mk (hbox);have G0:=Aside0.mk ((mH:w.heap.size<=g0));have G1:=Aside0.mk ((mH:w.heap.size<=g0));replace HB:=Aside0.mk (below_step mA hb);clear hb hbox hg;obtain⟨z5,z6,z7,z8⟩:=bc4 B0.out;have z9:=blk_frozen B0.out)|((with_reducible refine gate_store (t:=32) (p:=4) rfl ?_);refine stV (t:=32) (p:=4) (w1:=((((w5.setCell ⟨g0,0,none⟩ (.int .i64 ((rd_T32 l0 x1).f0))).setCell ⟨g0,1,none⟩ (.int .i64 ((rd_T32 l0 x1).f1))).setCell ⟨g0,2,none⟩ (.int .i64 ((rd_T32 l0 x1).f2))).setCell ⟨g0,3,none⟩ (.slice A4 ((rd_T32 l0 x1).f3).length s8))) (h:=?_);intro w7 hw;replace B0:Aside0 (w7.heap[g0]? =some (.cells #[.int .i64 ((rd_T32 l0 x1).f0),.int .i64 ((rd_T32 l0 x1).f1),.int .i64 ((rd_T32 l0 x1).f2),.slice A4 ((rd_T32 l0 x1).f3).length s8] 32 (0,0))):=⟨mO⟩;replace HB:Aside0 (Below w.heap.size w w7):=⟨mBF⟩;clear hw)));replace B0:=Aside0.mk (blk_drew B0.out);replace HB:=Aside0.mk (below_drew1 HB.out);have p1:0<=((j0):Int):=of_decide_eq_true mF;have q1:(j0)<(l0.length:Int):=of_decide_eq_true mF;obtain⟨d1,A6,s9,e1,h4,h5,h6,h7,i2,i3⟩:=at_T32 R0.out (j0) p1 q1;have hw113_3:=h7;have hw113_2:=h6;have hw113_1:=h5;have hw113_0:=h4;obtain rfl:d0=d1:=mCM;replace h4:=hB HB h4;replace h5:=hB HB h5;replace h6:=hB HB h6;replace h7:=hB HB h7;have R2:=Aside0.mk i3;have K2:=Aside0.mk i2;clear i3 i2;replace p1:=eq_true p1;replace q1:=eq_true q1;refine start_ (n:=18) (S:=λw'=>w'.cell? ⟨g0,0,none⟩=some (.int .i64 ((rd_T32 l0 x1).f0))/\w'.cell? ⟨g0,1,none⟩=some (.int .i64 ((rd_T32 l0 x1).f1))/\w'.cell? ⟨g0,2,none⟩=some (.int .i64 ((rd_T32 l0 x1).f2))/\w'.cell? ⟨g0,3,none⟩=some (.slice A4 ((rd_T32 l0 x1).f3).length s8)/\w'.cell? (d0.add (((j0)).toNat *4))=some (.int .i64 ((rd_T32 l0 (j0)).f0))/\w'.cell? ⟨(d0.add (((j0)).toNat *4)).block,(d0.add (((j0)).toNat *4)).off +1,none⟩=some (.int .i64 ((rd_T32 l0 (j0)).f1))/\w'.cell? ⟨(d0.add (((j0)).toNat *4)).block,(d0.add (((j0)).toNat *4)).off +2,none⟩=some (.int .i64 ((rd_T32 l0 (j0)).f2))/\w'.cell? ⟨(d0.add (((j0)).toNat *4)).block,(d0.add (((j0)).toNat *4)).off +3,none⟩=some (.slice A6 ((rd_T32 l0 (j0)).f3).length s9)) (ds:=[]) mk_18_0 mAI rfl rfl ⟨(blk_cell B0.out 0).trans rfl,(blk_cell B0.out 1).trans rfl,(blk_cell B0.out 2).trans rfl,(blk_cell B0.out 3).trans rfl,((HB.out.cell (World.block_lt_of_cell? w _ hw113_0)).trans hw113_0),((HB.out.cell (World.block_lt_of_cell? w _ hw113_1)).trans hw113_1),((HB.out.cell (World.block_lt_of_cell? w _ hw113_2)).trans hw113_2),((HB.out.cell (World.block_lt_of_cell? w _ hw113_3)).trans hw113_3)⟩ (λhHeld=>?_);refine with_tabW update_May.tab4 update_May.bits4 (λHT_ HW_=>?_);generalize w7.drew=w8 at B0 HB R2 h4 h5 h6 h7 hHeld |-;refine tV 0 (some 12) mk_18_1 (hy:=Or.inl ⟨by rfl,by rintro w' ⟨s0,s1,s2,s3,s4,s5,s6,s7⟩;go_simp;with_reducible rfl⟩) (h:=?_);refine oV 1 (some 13) mk_18_2 (h:=λK hK=>?_)
           refine gV Try.func27 #[.agg #[.int .i64 ((rd_T32 l0 x1).f0),.int .i64 ((rd_T32 l0 x1).f1),.int .i64 ((rd_T32 l0 x1).f2),.slice A4 ((rd_T32 l0 x1).f3).length s8]] (h:=?_)
           with_reducible refine(lsa_May.calls k1 ((rd_T32 l0 x1).f0) ((rd_T32 l0 x1).f1) ((rd_T32 l0 x1).f2) _ _ ((rd_T32 l0 x1).f3) true _ ?side1 ?side2 A5.out).mono ?_
           (case side1=>repeat (first|exact(Kd.C_below R1.out HB.out)|(with_reducible refine Kd.C_alloc ?_ _)|(with_reducible refine Kd.C_drewN ?_ _)|(with_reducible refine Kd.C_drew ?_)))
           (case side2=>exact K1.out)
           rintro e w9 ⟨rfl,hb⟩;refine⟨_,rfl,?_⟩;replace B0:=Aside0.mk (blk_below mC hb);replace HB:=Aside0.mk (below_step mB hb);(try clear hb);(try clear hb2);(try clear hk);(try clear hi);refine hK.out _ _ ⟨(blk_cell B0.out 0).trans rfl,(blk_cell B0.out 1).trans rfl,(blk_cell B0.out 2).trans rfl,(blk_cell B0.out 3).trans rfl,((HB.out.cell (World.block_lt_of_cell? w _ hw113_0)).trans hw113_0),((HB.out.cell (World.block_lt_of_cell? w _ hw113_1)).trans hw113_1),((HB.out.cell (World.block_lt_of_cell? w _ hw113_2)).trans hw113_2),((HB.out.cell (World.block_lt_of_cell? w _ hw113_3)).trans hw113_3)⟩ (λhHeld=>?_);clear hK K;refine nV 13 (h:=?_);refine pV 2 14 mk_18_3 ?_;refine pV 3 15 mk_18_4 ?_;refine pV 4 16 mk_18_5 ?_;refine pV 5 17 mk_18_6 ?_;refine pV 6 18 mk_18_7 ?_;refine pV 7 19 mk_18_8 ?_;refine pV 8 20 mk_18_9 ?_;refine pV 9 21 mk_18_10 ?_;refine pV 10 22 mk_18_11 ?_;refine pV 11 23 mk_18_12 ?_;refine pV 13 25 #[true,true,true,true,true,true,true,true,true,true,true,true,false,true,false,false,false,false] ?_;refine tV 12 (some 24) mk_18_14 (hy:=Or.inl ⟨by rfl,by rintro w' ⟨s0,s1,s2,s3,s4,s5,s6,s7⟩;go_simp;with_reducible rfl⟩) (h:=?_);refine tV 14 (some 26) mk_18_15 (hy:=Or.inl ⟨by rfl,by rintro w' ⟨s0,s1,s2,s3,s4,s5,s6,s7⟩;go_simp;with_reducible rfl⟩) (h:=?_);refine pV 15 27 mk_18_16 ?_;refine pV 16 28 mk_18_17 ?_;refine pV 17 29 mk_18_18 ?_;refine done_ (done_of HT_.out mAI) ?_;(try go_wp2)
           go_roundg k1
           case measure=>have:=HK1.out;omega
           case rel=>exact⟨(wrap64 (x1+1)),mJ,H',⟨by have:=HK1.out;omega⟩,⟨by repeat (first|(with_reducible first|exact HB.out|apply below_alloc|apply pw_below_drewN|apply below_drew1|refine below_set ?_ G1.out)|exact HB.out)⟩⟩
         ·rw[if_neg cy]at H
          exact absurd H mAY
        ·rw[if_neg c9]at H
         exact absurd H mAY
       ·rw[if_neg c7]at H
        have cp:decide (0<x1)=false:=decide_eq_false c7;clear c7;have H':=Aside0.mk H;clear H;have p0:0<=(x1:Int):=of_decide_eq_true mF;have q0:x1<(l0.length:Int):=of_decide_eq_true mF;obtain⟨d0,A4,s8,e0,h0,h1,h2,h3,i0,i1⟩:=at_T32 R0.out x1 p0 q0;cases e0;replace h0:=hB HB h0;replace h1:=hB HB h1;replace h2:=hB HB h2;replace h3:=hB HB h3;have R1:=Aside0.mk i1;have K1:=Aside0.mk i0;clear i1 i0;replace p0:=eq_true p0;replace q0:=eq_true q0;(try go_wp2_with (first|((with_reducible refine gate_dst (N:=4) rfl ?_);refine bxV (N:=4) (cs:=#[.int .i64 0,.int .i64 0,.int .i64 0,.slice none 0 0]) (t:=32) (h:=?_);intro g0 hg wa hbox hb;have B0:=Aside0.mk (hbox);have G0:=Aside0.mk ((mH:w.heap.size<=g0));have G1:=Aside0.mk ((mH:w.heap.size<=g0));replace HB:=Aside0.mk (below_step mA hb);clear hb hbox hg;obtain⟨za,zb,zc,zd⟩:=bc4 B0.out;have ze:=blk_frozen B0.out)|((with_reducible refine gate_store (t:=32) (p:=4) rfl ?_);refine stV (t:=32) (p:=4) (w1:=((((wa.setCell ⟨g0,0,none⟩ (.int .i64 ((rd_T32 l0 x1).f0))).setCell ⟨g0,1,none⟩ (.int .i64 ((rd_T32 l0 x1).f1))).setCell ⟨g0,2,none⟩ (.int .i64 ((rd_T32 l0 x1).f2))).setCell ⟨g0,3,none⟩ (.slice A4 ((rd_T32 l0 x1).f3).length s8))) (h:=?_);intro wc hw;replace B0:Aside0 (wc.heap[g0]? =some (.cells #[.int .i64 ((rd_T32 l0 x1).f0),.int .i64 ((rd_T32 l0 x1).f1),.int .i64 ((rd_T32 l0 x1).f2),.slice A4 ((rd_T32 l0 x1).f3).length s8] 32 (0,0))):=⟨mO⟩;replace HB:Aside0 (Below w.heap.size w wc):=⟨mBF⟩;clear hw)));replace B0:=Aside0.mk (blk_drew B0.out);replace HB:=Aside0.mk (below_drew1 HB.out);refine start_ (n:=18) (S:=λw'=>w'.cell? ⟨g0,0,none⟩=some (.int .i64 ((rd_T32 l0 x1).f0))/\w'.cell? ⟨g0,1,none⟩=some (.int .i64 ((rd_T32 l0 x1).f1))/\w'.cell? ⟨g0,2,none⟩=some (.int .i64 ((rd_T32 l0 x1).f2))/\w'.cell? ⟨g0,3,none⟩=some (.slice A4 ((rd_T32 l0 x1).f3).length s8)) (ds:=[]) mk_18_0 mAI rfl rfl ⟨(blk_cell B0.out 0).trans rfl,(blk_cell B0.out 1).trans rfl,(blk_cell B0.out 2).trans rfl,(blk_cell B0.out 3).trans rfl⟩ (λhHeld=>?_);refine with_tabW update_May.tab4 update_May.bits4 (λHT_ HW_=>?_);generalize wc.drew=wd at B0 HB hHeld |-;refine tV 0 (some 12) mk_18_1 (hy:=Or.inl ⟨by rfl,by rintro w' ⟨s0,s1,s2,s3⟩;go_simp;with_reducible rfl⟩) (h:=?_);refine oV 1 (some 13) mk_18_2 (h:=λK hK=>?_);refine gV Try.func27 #[.agg #[.int .i64 ((rd_T32 l0 x1).f0),.int .i64 ((rd_T32 l0 x1).f1),.int .i64 ((rd_T32 l0 x1).f2),.slice A4 ((rd_T32 l0 x1).f3).length s8]] (h:=?_)
        with_reducible refine(lsa_May.calls k1 ((rd_T32 l0 x1).f0) ((rd_T32 l0 x1).f1) ((rd_T32 l0 x1).f2) _ _ ((rd_T32 l0 x1).f3) true _ ?side1 ?side2 A5.out).mono ?_
        (case side1=>repeat (first|exact(Kd.C_below R1.out HB.out)|(with_reducible refine Kd.C_alloc ?_ _)|(with_reducible refine Kd.C_drewN ?_ _)|(with_reducible refine Kd.C_drew ?_)))
        (case side2=>exact K1.out)
        rintro e we ⟨rfl,hb⟩;refine⟨_,rfl,?_⟩;replace B0:=Aside0.mk (blk_below mC hb);replace HB:=Aside0.mk (below_step mB hb);(try clear hb);(try clear hb2);(try clear hk);(try clear hi);refine hK.out _ _ ⟨(blk_cell B0.out 0).trans rfl,(blk_cell B0.out 1).trans rfl,(blk_cell B0.out 2).trans rfl,(blk_cell B0.out 3).trans rfl⟩ (λhHeld=>?_);clear hK K;refine nV 13 (h:=?_);refine pV 2 14 mk_18_3 ?_;refine pV 3 15 mk_18_4 ?_;refine pV 4 16 mk_18_5 ?_;refine pV 5 17 mk_18_6 ?_;refine pV 6 18 mk_18_7 ?_;refine pU 7 19 mk_18_8 ?_;refine pU 8 20 mk_18_9 ?_;refine pU 9 21 mk_18_10 ?_;refine pU 10 22 mk_18_11 ?_;refine pU 11 23 mk_18_12 ?_;refine pU 12 24 mk_18_13 ?_;refine pU 13 25 mk_18_14 ?_;refine pU 14 26 mk_18_15 ?_;refine pU 15 27 mk_18_16 ?_;refine pV 16 28 mk_18_17 ?_;refine pV 17 29 mk_18_18 ?_;refine done_ (done_of HT_.out mAI) ?_;(try go_wp2)
        go_roundg k1
        case measure=>have:=HK1.out;omega
        case rel=>exact⟨(wrap64 (x1+1)),mJ,H',⟨by have:=HK1.out;omega⟩,⟨by repeat (first|(with_reducible first|exact HB.out|apply below_alloc|apply pw_below_drewN|apply below_drew1|refine below_set ?_ G1.out)|exact HB.out)⟩⟩
      ·replace c6:=Bool.eq_false_iff.mpr c6
       subst c6;rw[if_neg (show ¬(false=true)by decide)]at H;obtain rfl:=Option.some.inj H;have p0:0<=(x1:Int):=of_decide_eq_true mF;have q0:x1<(l0.length:Int):=of_decide_eq_true mF;obtain⟨d0,A4,s8,e0,h0,h1,h2,h3,i0,i1⟩:=at_T32 R0.out x1 p0 q0;cases e0;replace h0:=hB HB h0;replace h1:=hB HB h1;replace h2:=hB HB h2;replace h3:=hB HB h3;have R1:=Aside0.mk i1;have K1:=Aside0.mk i0;clear i1 i0;replace p0:=eq_true p0;replace q0:=eq_true q0;(try go_wp2_with (first|((with_reducible refine gate_dst (N:=4) rfl ?_);refine bxV (N:=4) (cs:=#[.int .i64 0,.int .i64 0,.int .i64 0,.slice none 0 0]) (t:=32) (h:=?_);intro g0 hg wf hbox hb;have B0:=Aside0.mk (hbox);have G0:=Aside0.mk ((mH:w.heap.size<=g0));have G1:=Aside0.mk ((mH:w.heap.size<=g0));replace HB:=Aside0.mk (below_step mA hb);clear hb hbox hg;obtain⟨zf,zg,zh,zi⟩:=bc4 B0.out;have zj:=blk_frozen B0.out)|((with_reducible refine gate_store (t:=32) (p:=4) rfl ?_);refine stV (t:=32) (p:=4) (w1:=((((wf.setCell ⟨g0,0,none⟩ (.int .i64 ((rd_T32 l0 x1).f0))).setCell ⟨g0,1,none⟩ (.int .i64 ((rd_T32 l0 x1).f1))).setCell ⟨g0,2,none⟩ (.int .i64 ((rd_T32 l0 x1).f2))).setCell ⟨g0,3,none⟩ (.slice A4 ((rd_T32 l0 x1).f3).length s8))) (h:=?_);intro wh hw;replace B0:Aside0 (wh.heap[g0]? =some (.cells #[.int .i64 ((rd_T32 l0 x1).f0),.int .i64 ((rd_T32 l0 x1).f1),.int .i64 ((rd_T32 l0 x1).f2),.slice A4 ((rd_T32 l0 x1).f3).length s8] 32 (0,0))):=⟨mO⟩;replace HB:Aside0 (Below w.heap.size w wh):=⟨mBF⟩;clear hw)));replace B0:=Aside0.mk (blk_drew B0.out);replace HB:=Aside0.mk (below_drew1 HB.out);refine start_ (n:=18) (S:=λw'=>w'.cell? ⟨g0,0,none⟩=some (.int .i64 ((rd_T32 l0 x1).f0))/\w'.cell? ⟨g0,1,none⟩=some (.int .i64 ((rd_T32 l0 x1).f1))/\w'.cell? ⟨g0,2,none⟩=some (.int .i64 ((rd_T32 l0 x1).f2))/\w'.cell? ⟨g0,3,none⟩=some (.slice A4 ((rd_T32 l0 x1).f3).length s8)) (ds:=[]) mk_18_0 mAI rfl rfl ⟨(blk_cell B0.out 0).trans rfl,(blk_cell B0.out 1).trans rfl,(blk_cell B0.out 2).trans rfl,(blk_cell B0.out 3).trans rfl⟩ (λhHeld=>?_);refine with_tabW update_May.tab4 update_May.bits4 (λHT_ HW_=>?_);generalize wh.drew=wi at B0 HB hHeld |-;refine tV 0 (some 12) mk_18_1 (hy:=Or.inl ⟨by rfl,by rintro w' ⟨s0,s1,s2,s3⟩;go_simp;with_reducible rfl⟩) (h:=?_);refine oV 1 (some 13) mk_18_2 (h:=λK hK=>?_);refine gV Try.func27 #[.agg #[.int .i64 ((rd_T32 l0 x1).f0),.int .i64 ((rd_T32 l0 x1).f1),.int .i64 ((rd_T32 l0 x1).f2),.slice A4 ((rd_T32 l0 x1).f3).length s8]] (h:=?_)
       with_reducible refine(lsa_May.calls k1 ((rd_T32 l0 x1).f0) ((rd_T32 l0 x1).f1) ((rd_T32 l0 x1).f2) _ _ ((rd_T32 l0 x1).f3) false _ ?side1 ?side2 A5.out).mono ?_
       (case side1=>repeat (first|exact(Kd.C_below R1.out HB.out)|(with_reducible refine Kd.C_alloc ?_ _)|(with_reducible refine Kd.C_drewN ?_ _)|(with_reducible refine Kd.C_drew ?_)))
       (case side2=>exact K1.out)
       rintro e wj ⟨rfl,hb⟩;refine⟨_,rfl,?_⟩;replace B0:=Aside0.mk (blk_below mC hb);replace HB:=Aside0.mk (below_step mB hb);(try clear hb);(try clear hb2);(try clear hk);(try clear hi);refine hK.out _ _ ⟨(blk_cell B0.out 0).trans rfl,(blk_cell B0.out 1).trans rfl,(blk_cell B0.out 2).trans rfl,(blk_cell B0.out 3).trans rfl⟩ (λhHeld=>?_);clear hK K;refine nV 13 (h:=?_);refine pV 2 14 mk_18_3 ?_;refine pV 3 15 mk_18_4 ?_;refine pU 4 16 mk_18_5 ?_;refine pU 5 17 mk_18_6 ?_;refine pU 6 18 mk_18_7 ?_;refine pU 7 19 mk_18_8 ?_;refine pU 8 20 mk_18_9 ?_;refine pU 9 21 mk_18_10 ?_;refine pU 10 22 mk_18_11 ?_;refine pU 11 23 mk_18_12 ?_;refine pU 12 24 mk_18_13 ?_;refine pU 13 25 mk_18_14 ?_;refine pU 14 26 mk_18_15 ?_;refine pU 15 27 mk_18_16 ?_;refine pU 16 28 mk_18_17 ?_;refine pV 17 29 mk_18_18 ?_;refine done_ (done_of HT_.out mAI) ?_;(try go_wp2);go_ret;exact⟨by first|rfl|(simp[errW_none,errW_some] <;> rfl)|(simp[*,errW_none,errW_some] <;> rfl),by repeat (first|(with_reducible first|exact HB.out|apply below_alloc|apply pw_below_drewN|apply below_drew1|refine below_set ?_ G1.out)|exact HB.out)⟩
     ·rw[if_neg c4]at H
      exact absurd H mAY
    ·rw[if_neg c3]at H
     exact absurd H mAY
   ·rw[if_neg c2]at H
    have c5:=decide_eq_false c2;clear c2;obtain rfl:=Option.some.inj H;go_wp2;go_ret;exact⟨by first|rfl|(simp[errW_none,errW_some] <;> rfl)|(simp[*,errW_none,errW_some] <;> rfl),by repeat (first|(with_reducible first|exact HB.out|apply below_alloc|apply pw_below_drewN|apply below_drew1)|exact HB.out)⟩
def store_May_1.f (a0_0:Int) (a0_1:Int) (a0_2:Int) (l0_3:List (S56)):Option (Bool):=some (decide (a0_2>=60))
set_option maxHeartbeats 8000000 in
set_option maxRecDepth 100000 in
theorem store_May_1.calls (a0_0:Int) (a0_1:Int) (a0_2:Int) (A0_3:Option Addr) (c0_3:Nat) (l0_3:List (S56)) (r:Bool) (w:World) (hr0_3:Kd.C k56 w A0_3 l0_3.length l0_3) (hc0_3:l0_3.length<=c0_3) (h:store_May_1.f a0_0 a0_1 a0_2 l0_3=some r):
  Calls Try.prog 34 #[.agg #[.int .i64 a0_0,.int .i64 a0_1,.int .i64 a0_2,.slice A0_3 l0_3.length c0_3]] w λe w'=>e= .returned (.bool r)/\Below w.heap.size w w':=by
 have hu32:=Try.underlying32;have R0:=Aside0.mk hr0_3;have K0:=Aside0.mk hc0_3;clear hr0_3 hc0_3;have HB:=Aside0.mk (Below.refl w.heap.size w);have H:(some (decide (a0_2>=60)))=some r:=h;clear h;obtain rfl:=Option.some.inj H
 go_enter Try.func34,Try.ntmps34
 go_wp2_with (first|((with_reducible refine gate_dst (N:=1) rfl ?_);refine bxV (N:=1) (cs:=#[.int .i64 a0_0,.int .i64 a0_1,.int .i64 a0_2,.slice A0_3 l0_3.length c0_3]) (t:=32) (h:=?_);intro g0 hg w2 hbox hb;have B0:=Aside0.mk (hbox);have G0:=Aside0.mk ((mH:w.heap.size<=g0));have G1:=Aside0.mk ((mH:w.heap.size<=g0));replace HB:=Aside0.mk (below_step mA hb);clear hb hbox hg;obtain⟨z0,z1,z2,z3⟩:=bc4 B0.out;have z4:=blk_frozen B0.out))
 go_ret;exact⟨by first|rfl|(simp[errW_none,errW_some] <;> rfl)|(simp[*,errW_none,errW_some] <;> rfl),by repeat (first|(with_reducible first|exact HB.out|apply below_alloc|apply pw_below_drewN|apply below_drew1|refine below_set ?_ G1.out)|exact HB.out)⟩
def api_Lsa_56.l0:Nat->List (S32)->Int->Int->Option (Int)
 |0,_,_,_=>none
 |k+1,x0,x7,x8=>if x8<x7 then(if 0<=x8 then(if x8<(x0.length:Int)then((store_May_1.f ((rd_T32 x0 x8).f0) ((rd_T32 x0 x8).f1) ((rd_T32 x0 x8).f2) ((rd_T32 x0 x8).f3)).bind λt116=>(if t116=true then(some x8)else(api_Lsa_56.l0 k x0 x7 (wrap64 (x8+1)))))else(none))else(none))else(some (-1))
def api_Lsa_56.f (k:Nat) (l0:List (S32)):Option (Int):=api_Lsa_56.l0 k l0 (l0.length:Int) 0
theorem api_Lsa_56.mono_l:∀k,(∀y0 y1 y2,LeO (api_Lsa_56.l0 k y0 y1 y2) (api_Lsa_56.l0 (k+1) y0 y1 y2))
 |0=>λ_ _ _ r h=>by simp[api_Lsa_56.l0]at h
 |k+1=>by
  have ih0:=api_Lsa_56.mono_l k
  ·intro y0 y1 y2
   unfold api_Lsa_56.l0
   repeat' (with_reducible first|exact ih0 _ _ _|exact LeO.refl _|exact LeO.none _|refine LeO.ite ?_ ?_ |refine LeO.bind ?_ (λ_=>?_))
theorem api_Lsa_56.mono:∀a0 k,LeO (api_Lsa_56.f k a0) (api_Lsa_56.f (k+1) a0):=by
 intro a0 k;have ih0:=api_Lsa_56.mono_l k;unfold api_Lsa_56.f
 repeat' (with_reducible first|exact ih0 _ _ _|exact LeO.refl _|exact LeO.none _|refine LeO.ite ?_ ?_ |refine LeO.bind ?_ (λ_=>?_))
set_option maxHeartbeats 8000000 in
set_option maxRecDepth 100000 in
theorem api_Lsa_56.calls (k:Nat) (A0:Option Addr) (c0:Nat) (l0:List (S32)) (r:Int) (w:World) (hr0:Kd.C k32 w A0 l0.length l0) (hc0:l0.length<=c0) (h:api_Lsa_56.f k l0=some r):
  Calls Try.prog 56 #[.slice A0 l0.length c0,.func (.func 34) #[] #[]] w λe w'=>e= .returned (.int .i64 r)/\Below w.heap.size w w':=by
 have hu32:=Try.underlying32;have R0:=Aside0.mk hr0;have K0:=Aside0.mk hc0;clear hr0 hc0;have HB:=Aside0.mk (Below.refl w.heap.size w);have H:(api_Lsa_56.l0 k l0 (l0.length:Int) 0)=some r:=h;clear h;have H':=Aside0.mk H;clear H
 go_enter Try.func56,Try.ntmps56
 go_wp2
 go_loopg [8] k (λkq v8 w'=>∃(x1:Int),v8= .int .i64 x1/\Aside0 (api_Lsa_56.l0 kq l0 (l0.length:Int) x1=some r)/\Aside0 (kq<=k)/\Aside0 (Below w.heap.size w w'))
 case atStart=>exact⟨(0),mJ,H',⟨Nat.le_refl _⟩,⟨by repeat (first|(with_reducible first|exact HB.out|apply below_alloc|apply pw_below_drewN|apply below_drew1)|exact HB.out)⟩⟩
 case round=>
  clear H';(try clear p2);obtain⟨x1,rfl,HA,HK1,HB⟩:=hrel;cases gk with
  |zero=>exact absurd HA.out (by simp[api_Lsa_56.l0])
  |succ k1=>
   have H:=HA.out;clear HA;simp only[api_Lsa_56.l0]at H
   by_cases c3:x1<(l0.length:Int)
   ·rw[if_pos c3]at H
    have c6:=decide_eq_true c3;clear c3
    by_cases c4:0<=x1
    ·rw[if_pos c4]at H
     have cc:=decide_eq_true c4;clear c4
     by_cases c5:x1<(l0.length:Int)
     ·rw[if_pos c5]at H
      have ch:=decide_eq_true c5;clear c5;obtain⟨t0,A1,H⟩:=bsE H;(try dsimp only at H);have A6:=Aside0.mk A1;clear A1
      by_cases c7:t0=true
      ·subst c7
       rw[if_pos rfl]at H;obtain rfl:=Option.some.inj H;have p0:0<=(x1:Int):=of_decide_eq_true mF;have q0:x1<(l0.length:Int):=of_decide_eq_true mF;obtain⟨d0,A3,s0,e0,h0,h1,h2,h3,i0,i1⟩:=at_T32 R0.out x1 p0 q0;cases e0;replace h0:=hB HB h0;replace h1:=hB HB h1;replace h2:=hB HB h2;replace h3:=hB HB h3;have R1:=Aside0.mk i1;have K1:=Aside0.mk i0;clear i1 i0;replace p0:=eq_true p0;replace q0:=eq_true q0
       go_wp2_with (first|((with_reducible refine gate_dst (N:=16) rfl ?_);refine goesVL_ (some 16) rfl rfl Try.func34 mAI rfl #[.agg #[.int .i64 ((rd_T32 l0 x1).f0),.int .i64 ((rd_T32 l0 x1).f1),.int .i64 ((rd_T32 l0 x1).f2),.slice A3 ((rd_T32 l0 x1).f3).length s0]] rfl rfl mDJ ?_;(with_reducible refine(store_May_1.calls ((rd_T32 l0 x1).f0) ((rd_T32 l0 x1).f1) ((rd_T32 l0 x1).f2) _ _ ((rd_T32 l0 x1).f3) true _ ?side1 ?side2 A6.out).mono ?_);(case side1=>repeat (first|exact(Kd.C_below R1.out HB.out)|(with_reducible refine Kd.C_alloc ?_ _)|(with_reducible refine Kd.C_drewN ?_ _)|(with_reducible refine Kd.C_drew ?_)));(case side2=>exact K1.out);rintro e w8 ⟨rfl,hb⟩;refine⟨_,rfl,?_⟩;replace HB:=Aside0.mk (below_step mA hb);(try clear hb)))
       go_ret;exact⟨by first|rfl|(simp[errW_none,errW_some] <;> rfl)|(simp[*,errW_none,errW_some] <;> rfl),by repeat (first|(with_reducible first|exact HB.out|apply below_alloc|apply pw_below_drewN|apply below_drew1)|exact HB.out)⟩
      ·replace c7:=Bool.eq_false_iff.mpr c7
       subst c7;rw[if_neg (show ¬(false=true)by decide)]at H;have H':=Aside0.mk H;clear H;have p0:0<=(x1:Int):=of_decide_eq_true mF;have q0:x1<(l0.length:Int):=of_decide_eq_true mF;obtain⟨d0,A3,s0,e0,h0,h1,h2,h3,i0,i1⟩:=at_T32 R0.out x1 p0 q0;cases e0;replace h0:=hB HB h0;replace h1:=hB HB h1;replace h2:=hB HB h2;replace h3:=hB HB h3;have R1:=Aside0.mk i1;have K1:=Aside0.mk i0;clear i1 i0;replace p0:=eq_true p0;replace q0:=eq_true q0
       go_wp2_with (first|((with_reducible refine gate_dst (N:=16) rfl ?_);refine goesVL_ (some 16) rfl rfl Try.func34 mAI rfl #[.agg #[.int .i64 ((rd_T32 l0 x1).f0),.int .i64 ((rd_T32 l0 x1).f1),.int .i64 ((rd_T32 l0 x1).f2),.slice A3 ((rd_T32 l0 x1).f3).length s0]] rfl rfl mDJ ?_;(with_reducible refine(store_May_1.calls ((rd_T32 l0 x1).f0) ((rd_T32 l0 x1).f1) ((rd_T32 l0 x1).f2) _ _ ((rd_T32 l0 x1).f3) false _ ?side1 ?side2 A6.out).mono ?_);(case side1=>repeat (first|exact(Kd.C_below R1.out HB.out)|(with_reducible refine Kd.C_alloc ?_ _)|(with_reducible refine Kd.C_drewN ?_ _)|(with_reducible refine Kd.C_drew ?_)));(case side2=>exact K1.out);rintro e w9 ⟨rfl,hb⟩;refine⟨_,rfl,?_⟩;replace HB:=Aside0.mk (below_step mA hb);(try clear hb)))
       go_roundg k1
       case measure=>have:=HK1.out;omega
       case rel=>exact⟨(wrap64 (x1+1)),mJ,H',⟨by have:=HK1.out;omega⟩,⟨by repeat (first|(with_reducible first|exact HB.out|apply below_alloc|apply pw_below_drewN|apply below_drew1)|exact HB.out)⟩⟩
     ·rw[if_neg c5]at H
      exact absurd H mAY
    ·rw[if_neg c4]at H
     exact absurd H mAY
   ·rw[if_neg c3]at H
    have c6:=decide_eq_false c3;clear c3;obtain rfl:=Option.some.inj H;go_wp2;go_ret;exact⟨by first|rfl|(simp[errW_none,errW_some] <;> rfl)|(simp[*,errW_none,errW_some] <;> rfl),by repeat (first|(with_reducible first|exact HB.out|apply below_alloc|apply pw_below_drewN|apply below_drew1)|exact HB.out)⟩
def api_Lsa_36.f (k:Nat) (l0:List (S32)):Option (Bool):=(api_Lsa_56.f k l0).bind λt117=>(some (decide (t117>=0)))
theorem api_Lsa_36.mono:∀a0 k,LeO (api_Lsa_36.f k a0) (api_Lsa_36.f (k+1) a0):=by
 intro a0 k;unfold api_Lsa_36.f
 repeat' (with_reducible first|exact api_Lsa_56.mono _ _|exact LeO.refl _|exact LeO.none _|refine LeO.ite ?_ ?_ |refine LeO.bind ?_ (λ_=>?_))
set_option maxHeartbeats 8000000 in
set_option maxRecDepth 100000 in
theorem api_Lsa_36.calls (k:Nat) (A0:Option Addr) (c0:Nat) (l0:List (S32)) (r:Bool) (w:World) (hr0:Kd.C k32 w A0 l0.length l0) (hc0:l0.length<=c0) (h:api_Lsa_36.f k l0=some r):
  Calls Try.prog 36 #[.slice A0 l0.length c0,.func (.func 34) #[] #[]] w λe w'=>e= .returned (.bool r)/\Below w.heap.size w w':=by
 have R0:=Aside0.mk hr0;have K0:=Aside0.mk hc0;clear hr0 hc0;have HB:=Aside0.mk (Below.refl w.heap.size w);have H:((api_Lsa_56.f k l0).bind λt0=>(some (decide (t0>=0))))=some r:=h;clear h;obtain⟨t0,A1,H⟩:=bsE H;(try dsimp only at H);have A3:=Aside0.mk A1;clear A1;obtain rfl:=Option.some.inj H
 go_enter Try.func36,Try.ntmps36
 go_wp2_with (first|((with_reducible refine gate_callee (f:=56) rfl ?_);refine cLV (some 7) Try.func56 #[.slice A0 l0.length c0,.func (.func 34) #[] #[]] (h:=?_);(with_reducible refine(api_Lsa_56.calls k _ _ l0 t0 _ ?side1 ?side2 A3.out).mono ?_);(case side1=>repeat (first|exact R0.out|(with_reducible refine Kd.C_alloc ?_ _)|(with_reducible refine Kd.C_drewN ?_ _)|(with_reducible refine Kd.C_drew ?_)));(case side2=>exact K0.out);rintro e w4 ⟨rfl,hb⟩;refine⟨_,rfl,?_⟩;replace HB:=Aside0.mk (below_step mA hb);(try clear hb)))
 go_ret;exact⟨by first|rfl|(simp[errW_none,errW_some] <;> rfl)|(simp[*,errW_none,errW_some] <;> rfl),by repeat (first|(with_reducible first|exact HB.out|apply below_alloc|apply pw_below_drewN|apply below_drew1)|exact HB.out)⟩
def store_May.f (k:Nat) (l0:List (S32)):Option (Bool):=(update_May.f k l0).bind λt118=>(if t118=true then((api_Lsa_36.f k l0).bind λt119=>(some (!t119)))else(some false))
theorem store_May.mono:∀a0 k,LeO (store_May.f k a0) (store_May.f (k+1) a0):=by
 intro a0 k;unfold store_May.f
 repeat' (with_reducible first|exact api_Lsa_36.mono _ _|exact update_May.mono _ _|exact LeO.refl _|exact LeO.none _|refine LeO.ite ?_ ?_ |refine LeO.bind ?_ (λ_=>?_))
set_option maxHeartbeats 8000000 in
set_option maxRecDepth 100000 in
theorem store_May.calls (k:Nat) (A0:Option Addr) (c0:Nat) (l0:List (S32)) (r:Bool) (w:World) (hr0:Kd.C k32 w A0 l0.length l0) (hc0:l0.length<=c0) (h:store_May.f k l0=some r):
  Calls Try.prog 13 #[.slice A0 l0.length c0] w λe w'=>e= .returned (.bool r)/\Below w.heap.size w w':=by
 have R0:=Aside0.mk hr0;have K0:=Aside0.mk hc0;clear hr0 hc0;have HB:=Aside0.mk (Below.refl w.heap.size w);have H:((update_May.f k l0).bind λt0=>(if t0=true then((api_Lsa_36.f k l0).bind λt1=>(some (!t1)))else(some false)))=some r:=h;clear h;obtain⟨t0,A1,H⟩:=bsE H;(try dsimp only at H);have A2:=Aside0.mk A1;clear A1
 by_cases c3:t0=true
 ·subst c3
  rw[if_pos rfl]at H;obtain⟨t1,A3,H⟩:=bsE H;(try dsimp only at H);have A4:=Aside0.mk A3;clear A3;obtain rfl:=Option.some.inj H
  go_enter Try.func13,Try.ntmps13
  go_wp2_with (first|((with_reducible refine gate_callee (f:=35) rfl ?_);refine cLV (some 5) Try.func35 #[.slice A0 l0.length c0] (h:=?_);(with_reducible refine(update_May.calls k _ _ l0 true _ ?side1 ?side2 A2.out).mono ?_);(case side1=>repeat (first|exact R0.out|(with_reducible refine Kd.C_alloc ?_ _)|(with_reducible refine Kd.C_drewN ?_ _)|(with_reducible refine Kd.C_drew ?_)));(case side2=>exact K0.out);rintro e w5 ⟨rfl,hb⟩;refine⟨_,rfl,?_⟩;replace HB:=Aside0.mk (below_step mA hb);(try clear hb))|(go_at_call 36;(with_reducible refine(api_Lsa_36.calls k _ _ l0 t1 _ ?side1 ?side2 A4.out).mono ?_);(case side1=>repeat (first|exact(Kd.C_below R0.out HB.out)|(with_reducible refine Kd.C_alloc ?_ _)|(with_reducible refine Kd.C_drewN ?_ _)|(with_reducible refine Kd.C_drew ?_)));(case side2=>exact K0.out);rintro e w6 ⟨rfl,hb⟩;replace HB:=Aside0.mk (below_step mA hb);(try clear hb);(try clear hb2);(try clear hk);(try clear hi)))
  go_ret;exact⟨by first|rfl|(simp[errW_none,errW_some] <;> rfl)|(simp[*,errW_none,errW_some] <;> rfl),by repeat (first|(with_reducible first|exact HB.out|apply below_alloc|apply pw_below_drewN|apply below_drew1)|exact HB.out)⟩
 ·replace c3:=Bool.eq_false_iff.mpr c3
  subst c3;rw[if_neg (show ¬(false=true)by decide)]at H;obtain rfl:=Option.some.inj H
  go_enter Try.func13,Try.ntmps13
  go_wp2_with (first|((with_reducible refine gate_callee (f:=35) rfl ?_);refine cLV (some 5) Try.func35 #[.slice A0 l0.length c0] (h:=?_);(with_reducible refine(update_May.calls k _ _ l0 false _ ?side1 ?side2 A2.out).mono ?_);(case side1=>repeat (first|exact R0.out|(with_reducible refine Kd.C_alloc ?_ _)|(with_reducible refine Kd.C_drewN ?_ _)|(with_reducible refine Kd.C_drew ?_)));(case side2=>exact K0.out);rintro e w7 ⟨rfl,hb⟩;refine⟨_,rfl,?_⟩;replace HB:=Aside0.mk (below_step mA hb);(try clear hb)))
  go_ret;exact⟨by first|rfl|(simp[errW_none,errW_some] <;> rfl)|(simp[*,errW_none,errW_some] <;> rfl),by repeat (first|(with_reducible first|exact HB.out|apply below_alloc|apply pw_below_drewN|apply below_drew1)|exact HB.out)⟩
def api_Link.f (l0:List (S56)):Option ((List (S56))):=(some (([]:List (S56)):List (S56))).bind λy120=>(if y120.length+l0.length<8796093022208 then(some (y120++l0))else(none))
set_option maxHeartbeats 8000000 in
set_option maxRecDepth 100000 in
theorem api_Link.calls (A0:Option Addr) (c0:Nat) (l0:List (S56)) (r:List (S56)) (w:World) (hr0:Kd.C k56 w A0 l0.length l0) (hc0:l0.length<=c0) (h:api_Link.f l0=some r):
  Calls Try.prog 33 #[.slice A0 l0.length c0] w λe w'=>∃v0_:Value,e= .returned (v0_)/\Kd.R k56 56 w' w.heap.size (λ_=>True) v0_ r/\Below w.heap.size w w':=by
 cases A0 with
 |none=>
  have e0:l0=[]:=by
   cases l0 with
   |nil=>rfl
   |cons x l=>obtain⟨ad,he,_⟩:=hr0.2.2 (Nat.succ_pos _);cases he
  subst e0
  have e1:r=[]:=by first|(simp[api_Link.f]at h;exact h)|(simp[api_Link.f]at h;exact h.symm)
  subst e1
  have hnil_:=λ(W:World) (m_:Nat)=>Go.Lib.run_eql_slice_nil (P:=Try.prog) W 30 56 none m_ c0 0 0 Try.underlying30
  clear hr0 hc0 h
  go_enter Try.func33,Try.ntmps33
  go_wp2;go_ret;exact⟨_,rfl,Kd.R_nil _ _ _ _ _,Below.refl _ _⟩
 |some ad0_=>
  have R0:=Aside0.mk hr0;have K0:=Aside0.mk hc0;clear hr0 hc0;have HB:=Aside0.mk (Below.refl w.heap.size w);have H:((some (([]:List (S56)):List (S56))).bind λy0=>(if y0.length+l0.length<8796093022208 then(some (y0++l0))else(none)))=some r:=h;clear h;obtain⟨y0,Y0⟩:∃y_:List (S56),y_=(([]:List (S56))):=⟨_,rfl⟩
  replace H:(if y0.length+l0.length<8796093022208 then(some (y0++l0))else(none))=some r:=by first|(rw[Y0];with_reducible exact H)|(have H2_:=(Option.bind_some _ _).symm.trans H;rw[Y0];with_reducible exact H2_)|(have H2_:=(Option.bind_some _ _).symm.trans H;with_reducible exact H2_)|with_reducible exact H|(rw[Y0];exact H)|exact H
  have Y1:=Aside0.mk Y0;clear Y0
  by_cases c2:y0.length+l0.length<8796093022208
  ·rw[if_pos c2]at H
   have L0:=Aside0.mk c2;clear c2;obtain⟨y1,Y2⟩:∃y_:List (S56),y_=(y0++l0):=⟨_,rfl⟩
   replace H:(some y1)=some r:=by first|(rw[Y2];with_reducible exact H)|(have H2_:=(Option.bind_some _ _).symm.trans H;rw[Y2];with_reducible exact H2_)|(have H2_:=(Option.bind_some _ _).symm.trans H;with_reducible exact H2_)|with_reducible exact H|(rw[Y2];exact H)|exact H
   have Y3:=Aside0.mk Y2;clear Y2;obtain rfl:=Option.some.inj H
   have hnil_:=λ(W:World) (a_:Addr) (m_:Nat)=>Go.Lib.run_eql_slice_nil (P:=Try.prog) W 30 56 (some a_) m_ c0 0 0 Try.underlying30
   go_enter Try.func33,Try.ntmps33
   go_wp2_with (first|((with_reducible refine gate_dst (N:=5) rfl ?_);refine Kd.R_lit k56 _ 56 ?hg (N:=5) ?hd (xs:=([]:List (S56))) (inner:=[]) (ok:=λ_=>True) (okp:=λ_=>True) ?hr ?hp (λ_ hk=>hk) trivial (Below.refl _ _) (Nat.le_refl _) mAY ?_;(case hd=>rfl);(case hg=>rfl);(case hr=>first|(go_simp;done)|(go_simp;rfl));(case hp=>exact(Reps.none _ _));intro v121 w3 ho4 hb hg_ hnew_;clear hg_ hnew_;(first|rw[<-Y1.out]at ho4|(simp only[Int.reduceToNat]at ho4;rw[<-Y1.out]at ho4));have O0:=Aside0.mk (Kd.R_lower ho4 (below_size mA));replace HB:=Aside0.mk (below_step mA hb);clear hb ho4)|((with_reducible refine gate_builtin (b:= .append) (xs:=#[.tmp 5,.tmp 6]) rfl ?_);at_builtin;refine Kd.R_append_rows k56 (w0:=w) w.heap.size rfl (.tmp 5) (.tmp 6) 30 56 (.agg #[(.int .i64 0),(.int .i64 0)]) 16 rfl Try.underlying30 info56 rfl mAE mBX v121 y0 l0 _ _ _ (λ_=>True) (λ_=>False) rfl rfl ?aO ?aR (λ_ _ h=>h) (λ_ h=>h.elim) ?aF ?aB ?aS ?aL ?_;(case aR=>repeat (first|exact(Kd.C_below R0.out HB.out)|(with_reducible refine Kd.C_alloc ?_ _)|(with_reducible refine Kd.C_drewN ?_ _)|(with_reducible refine Kd.C_drew ?_)));(case aB=>exact mA);(case aF=>exact(λ_ _=>trivial));(case aO=>exact mQ);(case aS=>exact(below_size mA));(case aL=>have:=L0.out;omega);intro v124 w5 ho hb hg hat;rw[<-Y3.out]at ho;replace HB:=Aside0.mk (hb);have O1:=Aside0.mk (ho);clear O0;clear ho hb hg hat))
   go_ret;exact⟨_,by first|rfl|(simp[errW_none,errW_some] <;> rfl)|(simp[*,errW_none,errW_some] <;> rfl),by(with_reducible repeat (first|apply Kd.R_alloc|apply Kd.R_drewN|apply Kd.R_drew));exact O1.out,by repeat (first|(with_reducible first|exact HB.out|apply below_alloc|apply pw_below_drewN|apply below_drew1)|exact HB.out)⟩
  ·rw[if_neg c2]at H
   exact absurd H mAY
def api_Lsa_50.f (l0:List (S32)):Option ((List (S32))):=(some (([]:List (S32)):List (S32))).bind λy126=>(if y126.length+l0.length<2932031007402 then(some (y126++l0))else(none))
set_option maxHeartbeats 8000000 in
set_option maxRecDepth 100000 in
theorem api_Lsa_50.calls (P0_:Nat->Prop) (A0:Option Addr) (c0:Nat) (l0:List (S32)) (r:List (S32)) (w:World) (hs0:Kd.V k32 32 w w.heap.size (λk_=>P0_ k_) (.slice A0 l0.length c0) l0) (h:api_Lsa_50.f l0=some r):
  Calls Try.prog 50 #[.slice A0 l0.length c0] w λe w'=>∃v0_:Value,e= .returned (v0_)/\Kd.N k32 32 w' w.heap.size (λk_=>(P0_ k_\/w.heap.size<=k_)) v0_ r/\Below w.heap.size w w':=by
 cases A0 with
 |none=>
  have e0:l0=[]:=by
   cases l0 with
   |nil=>rfl
   |cons x l=>obtain⟨A_,c_,he_,_,hF_⟩:=hs0;injection he_ with e1_ e2_ e3_;subst e1_;obtain⟨_,_,hn_⟩:=Kd.F_now hF_;obtain⟨ad,h1_,_⟩:=hn_ (Nat.succ_pos _);cases h1_
  subst e0
  have e1:r=[]:=by first|(simp[api_Lsa_50.f]at h;exact h)|(simp[api_Lsa_50.f]at h;exact h.symm)
  subst e1
  have hnil_:=λ(W:World) (m_:Nat)=>Go.Lib.run_eql_slice_nil (P:=Try.prog) W 24 32 none m_ c0 0 0 Try.underlying24
  clear hs0 h
  go_enter Try.func50,Try.ntmps50
  go_wp2;go_ret;exact⟨_,rfl,Kd.N_nil _ _ _ _ _,Below.refl _ _⟩
 |some ad0_=>
  have O0:=Aside0.mk (show Kd.V k32 32 w w.heap.size (λk_=>(P0_ k_\/w.heap.size<=k_)) (.slice (some ad0_) l0.length c0) l0 from Kd.V_mono hs0 (λk_ hk=> .inl hk));have HB:=Aside0.mk (Below.refl w.heap.size w);have H:((some (([]:List (S32)):List (S32))).bind λy0=>(if y0.length+l0.length<2932031007402 then(some (y0++l0))else(none)))=some r:=h;clear h;obtain⟨y0,Y0⟩:∃y_:List (S32),y_=(([]:List (S32))):=⟨_,rfl⟩
  replace H:(if y0.length+l0.length<2932031007402 then(some (y0++l0))else(none))=some r:=by first|(rw[Y0];with_reducible exact H)|(have H2_:=(Option.bind_some _ _).symm.trans H;rw[Y0];with_reducible exact H2_)|(have H2_:=(Option.bind_some _ _).symm.trans H;with_reducible exact H2_)|with_reducible exact H|(rw[Y0];exact H)|exact H
  have Y1:=Aside0.mk Y0;clear Y0
  by_cases c2:y0.length+l0.length<2932031007402
  ·rw[if_pos c2]at H
   have L0:=Aside0.mk c2;clear c2;obtain⟨y1,Y2⟩:∃y_:List (S32),y_=(y0++l0):=⟨_,rfl⟩
   replace H:(some y1)=some r:=by first|(rw[Y2];with_reducible exact H)|(have H2_:=(Option.bind_some _ _).symm.trans H;rw[Y2];with_reducible exact H2_)|(have H2_:=(Option.bind_some _ _).symm.trans H;with_reducible exact H2_)|with_reducible exact H|(rw[Y2];exact H)|exact H
   have Y3:=Aside0.mk Y2;clear Y2;obtain rfl:=Option.some.inj H
   have hnil_:=λ(W:World) (a_:Addr) (m_:Nat)=>Go.Lib.run_eql_slice_nil (P:=Try.prog) W 24 32 (some a_) m_ c0 0 0 Try.underlying24
   go_enter Try.func50,Try.ntmps50
   go_wp2_with (first|((with_reducible refine gate_dst (N:=5) rfl ?_);refine Kd.N_lit k32 _ 32 ?hg (N':=5) ?hd (xs:=([]:List (S32))) (inner:=[]) (ok:=(λk_=>(P0_ k_\/w.heap.size<=k_))) (okp:=(λk_=>(P0_ k_\/w.heap.size<=k_))) ?hr ?hp (λ_ hk=>hk) ((show ∀k_,w.heap.size<=k_->(λk_=>(P0_ k_\/w.heap.size<=k_)) k_ from λk_ hk=>(.inr (Nat.le_trans (below_size mA) hk))) _ (Nat.le_refl _)) (Below.refl _ _) (Nat.le_refl _) mAY ?_;(case hd=>rfl);(case hg=>rfl);(case hr=>first|(go_simp;done)|(go_simp;rfl));(case hp=>exact(Reps.none _ _));intro v127 w3 ho4 hb hg_ hnew_;clear hg_ hnew_;(first|rw[<-Y1.out]at ho4|(simp only[Int.reduceToNat]at ho4;rw[<-Y1.out]at ho4));replace O0:=Aside0.mk (Kd.V_elder' mAC (Kd.N_base ho4) hb);have O1:=Aside0.mk (Kd.N_lower ho4 (below_size mA));replace HB:=Aside0.mk (below_step mA hb);clear hb ho4)|((with_reducible refine gate_builtin (b:= .append) (xs:=#[.tmp 5,.tmp 6]) rfl ?_);at_builtin;refine Kd.N_append_rows k32 (w0:=w) w.heap.size rfl (.tmp 5) (.tmp 6) 24 32 (.agg #[(.int .i64 0),(.int .i64 0),(.int .i64 0),(.slice none 0 0)]) 48 rfl Try.underlying24 info32 rfl mAE mBX v127 y0 l0 _ _ _ (λk_=>(P0_ k_\/w.heap.size<=k_)) (λk_=>((λk_=>(P0_ k_\/w.heap.size<=k_))) k_/\some k_≠(v127:Value).ownBlock) rfl rfl ?aO ?aR (λ_ hk=>hk) ?aF ?aB ?aS ?aL ?_;(case aR=>exact(by skip;exact Kd.V_F (Kd.V_mono (ok':=(λk_=>((λk_=>(P0_ k_\/w.heap.size<=k_))) k_/\some k_≠(v127:Value).ownBlock)) (O0.out) (λk_ hk=>⟨hk.1,hk.2⟩))));(case aB=>exact mA);(case aF=>exact(λk_ hk=>(.inr (Nat.le_trans (below_size mA) hk))));(case aO=>exact mM);(case aS=>exact(below_size mA));(case aL=>have:=L0.out;omega);intro v130 w5 ho hb hg hat;rw[<-Y3.out]at ho;replace O0:=Aside0.mk (Kd.V_afterv (ok:=(λk_=>(P0_ k_\/w.heap.size<=k_))) mAC hg hat);replace HB:=Aside0.mk (hb);have O2:=Aside0.mk (ho);clear O1;clear ho hb hg hat))
   go_ret;exact⟨_,by first|rfl|(simp[errW_none,errW_some] <;> rfl)|(simp[*,errW_none,errW_some] <;> rfl),by(with_reducible repeat (first|apply Kd.N_alloc|apply Kd.N_drewN|apply Kd.N_drew));exact O2.out,by repeat (first|(with_reducible first|exact HB.out|apply below_alloc|apply pw_below_drewN|apply below_drew1)|exact HB.out)⟩
  ·rw[if_neg c2]at H
   exact absurd H mAY
def store_Copy.l0:Nat->List (S32)->Int->Int->Option ((List (S32)))
 |0,_,_,_=>none
 |k+1,x3,x8,x9=>if x9<x8 then(if 0<=x9 then(if x9<(x3.length:Int)then((api_Link.f ((rd_T32 x3 x9).f3)).bind λt136=>(store_Copy.l0 k (x3.set (x9:Int).toNat (⟨(rd_T32 x3 x9).f0,(rd_T32 x3 x9).f1,(rd_T32 x3 x9).f2,t136⟩:S32)) x8 (wrap64 (x9+1))))else(none))else(none))else(some x3)
def store_Copy.f (k:Nat) (l0:List (S32)):Option ((List (S32))):=(api_Lsa_50.f l0).bind λt132=>(store_Copy.l0 k t132 (t132.length:Int) 0)
theorem store_Copy.mono_l:∀k,(∀y0 y1 y2,LeO (store_Copy.l0 k y0 y1 y2) (store_Copy.l0 (k+1) y0 y1 y2))
 |0=>λ_ _ _ r h=>by simp[store_Copy.l0]at h
 |k+1=>by
  have ih0:=store_Copy.mono_l k
  ·intro y0 y1 y2
   unfold store_Copy.l0
   repeat' (with_reducible first|exact ih0 _ _ _|exact LeO.refl _|exact LeO.none _|refine LeO.ite ?_ ?_ |refine LeO.bind ?_ (λ_=>?_))
theorem store_Copy.mono:∀a0 k,LeO (store_Copy.f k a0) (store_Copy.f (k+1) a0):=by
 intro a0 k;have ih0:=store_Copy.mono_l k;unfold store_Copy.f
 repeat' (with_reducible first|exact ih0 _ _ _|exact LeO.refl _|exact LeO.none _|refine LeO.ite ?_ ?_ |refine LeO.bind ?_ (λ_=>?_))
set_option maxHeartbeats 8000000 in
set_option maxRecDepth 100000 in
theorem store_Copy.calls (k:Nat) (P0_:Nat->Prop) (A0:Option Addr) (c0:Nat) (l0:List (S32)) (r:List (S32)) (w:World) (hs0:Kd.V k32 32 w w.heap.size (λk_=>P0_ k_) (.slice A0 l0.length c0) l0) (h:store_Copy.f k l0=some r):
  Calls Try.prog 28 #[.slice A0 l0.length c0] w λe w'=>∃v0_:Value,e= .returned (v0_)/\Kd.N (o32 w.heap.size) 32 w' w.heap.size (λk_=>(P0_ k_\/w.heap.size<=k_)) v0_ r/\Below w.heap.size w w':=by
 have O0:=Aside0.mk (show Kd.V k32 32 w w.heap.size (λk_=>(P0_ k_\/w.heap.size<=k_)) (.slice A0 l0.length c0) l0 from Kd.V_mono hs0 (λk_ hk=> .inl hk));have HB:=Aside0.mk (Below.refl w.heap.size w);have H:((api_Lsa_50.f l0).bind λt0=>(store_Copy.l0 k t0 (t0.length:Int) 0))=some r:=h;clear h;obtain⟨t0,A1,H⟩:=bsE H;(try dsimp only at H);have A2:=Aside0.mk A1;clear A1;have H':=Aside0.mk H;clear H
 go_enter Try.func28,Try.ntmps28
 go_wp2_with (first|((with_reducible refine gate_callee (f:=50) rfl ?_);refine cLV (some 6) Try.func50 #[.slice A0 l0.length c0] (h:=?_);(with_reducible refine(api_Lsa_50.calls (λk_=>(P0_ k_\/w.heap.size<=k_)) _ _ l0 t0 _ ?side1 A2.out).mono ?_);(case side1=>exact O0.out);rintro e w3 ⟨v133,rfl,ho0,hb⟩;refine⟨_,rfl,?_⟩;replace O0:=Aside0.mk (Kd.V_elder' mAC (Kd.N_base ho0) hb);have O1:=Aside0.mk (Kd.N_lower (Kd.N_mono (ok':=λk_=>(P0_ k_\/w.heap.size<=k_)) ho0 (λk_ hk_=>Or.elim hk_ (λhs_=>hs_) (λhn_=>(.inr (Nat.le_trans (below_size mA) hn_))))) (below_size mA));replace HB:=Aside0.mk (below_step mA hb);(try clear hb);(try clear ho0);obtain⟨s0,s1,s2⟩:=Kd.N_slice O1.out;subst s2))
 go_loopg [9] k (λkq v9 w'=>∃(x0:List (S32)) (x1:Int),v9= .int .i64 x1/\Aside0 (store_Copy.l0 kq x0 (t0.length:Int) x1=some r)/\Aside0 (kq<=k)/\Aside0 (Kd.N k32 32 w' w.heap.size (λk_=>(P0_ k_\/w.heap.size<=k_)) (.slice s0 t0.length s1) x0)/\Aside0 (Below w.heap.size w w')/\Aside0 (0<=x1)/\Aside0 (Kd.Pre k32 z32 w.heap.size w' (λk_=>(P0_ k_\/w.heap.size<=k_)) s0 x0 x1.toNat))
 case atStart=>exact⟨(t0),(0),mJ,H',⟨Nat.le_refl _⟩,⟨by(with_reducible repeat (first|apply Kd.N_alloc|apply Kd.N_drewN|apply Kd.N_drew));exact O1.out⟩,⟨by repeat (first|(with_reducible first|exact HB.out|apply below_alloc|apply pw_below_drewN|apply below_drew1)|exact HB.out)⟩,⟨Int.le_refl 0⟩,⟨Kd.Pre_zero z32⟩⟩
 case round=>
  clear H';(try clear c2);(try clear p2);obtain⟨x0,x1,rfl,HA,HK1,O2,HB,H0_,HP_⟩:=hrel;have i0:=(Kd.N_reads' O2.out).1;rw[i0]at O2;(try simp only[i0]);cases gk with
  |zero=>exact absurd HA.out (by simp[store_Copy.l0])
  |succ k1=>
   have H:=HA.out;clear HA;simp only[store_Copy.l0]at H
   by_cases c5:x1<(t0.length:Int)
   ·rw[if_pos c5]at H
    have c4:=decide_eq_true c5;clear c5
    by_cases c6:0<=x1
    ·rw[if_pos c6]at H
     have cb:=decide_eq_true c6;clear c6
     by_cases c7:x1<(x0.length:Int)
     ·rw[if_pos c7]at H
      have cg:=decide_eq_true c7;clear c7;obtain⟨t1,A4,H⟩:=bsE H;(try dsimp only at H);have A8:=Aside0.mk A4;clear A4;obtain⟨y3,Y0⟩:∃y_:List (S32),y_=(x0.set (x1:Int).toNat (⟨(rd_T32 x0 x1).f0,(rd_T32 x0 x1).f1,(rd_T32 x0 x1).f2,t1⟩:S32)):=⟨_,rfl⟩
      replace H:(store_Copy.l0 k1 y3 (t0.length:Int) (wrap64 (x1+1)))=some r:=by first|(rw[Y0];with_reducible exact H)|(have H2_:=(Option.bind_some _ _).symm.trans H;rw[Y0];with_reducible exact H2_)|(have H2_:=(Option.bind_some _ _).symm.trans H;with_reducible exact H2_)|with_reducible exact H|(rw[Y0];exact H)|exact H
      have Y1:=Aside0.mk Y0;clear Y0;have H':=Aside0.mk H;clear H;have p0:0<=(x1:Int):=of_decide_eq_true mF;have q0:x1<(x0.length:Int):=of_decide_eq_true mF;obtain⟨d0,A6,s3,e0,h0,h1,h2,h3,i1,i2⟩:=at_T32 (Kd.N_reads' O2.out).2.2 x1 p0 q0;cases e0;obtain⟨ce135,hce135,hMe135,hcc135⟩:=Kd.N_get O2.out z32 x1 p0 mDP;obtain⟨ua135_3,uc135_3,rfl,ul135_3,ge135_3⟩:=k32_openF hMe135;have hv135_3:=hcc135 3 _ rfl;rw[add_field _ _ 3 mBX]at hv135_3;replace hv135_3:=Option.some.inj (hv135_3.symm.trans h3)
      injection hv135_3 with hva_ hvn_ hvc_
      rw[hva_]at ge135_3;rw[hvc_]at ul135_3;have HL135_3:=Aside0.mk (show Kd.V k56 56 _ w.heap.size _ _ ((rd_T32 x0 x1).f3)from Kd.V_mk ul135_3 ge135_3);clear hva_ hvn_ hvc_ ge135_3 ul135_3;clear hcc135 hce135;have R0:=Aside0.mk i2;have K0:=Aside0.mk i1;clear i2 i1;replace p0:=eq_true p0;replace q0:=eq_true q0;have HI_:=Aside0.mk (show x1.toNat<x0.length/\x0.length<=9223372036854775807 from⟨by have:=of_decide_eq_true cg;have:=H0_.out;omega,(Kd.N_reads' O2.out).2.2.2.1⟩)
      go_wp2_with (first|((with_reducible refine gate_callee (f:=33) rfl ?_);refine cLV (some 19) Try.func33 #[.slice A6 ((rd_T32 x0 x1).f3).length s3] (h:=?_);(with_reducible refine(api_Link.calls _ _ ((rd_T32 x0 x1).f3) t1 _ ?side1 ?side2 A8.out).mono ?_);(case side1=>repeat (first|exact mBB|(with_reducible refine Kd.C_alloc ?_ _)|(with_reducible refine Kd.C_drewN ?_ _)|(with_reducible refine Kd.C_drew ?_)));(case side2=>exact K0.out);rintro e w2 ⟨v137,rfl,ho0,hb⟩;refine⟨_,rfl,?_⟩;have n0_:=Aside0.mk (Kd.N_elder' mL (Kd.R_base ho0) hb);have n1_:=Aside0.mk (Kd.V_elder' (by(with_reducible repeat (first|apply Kd.V_alloc|apply Kd.V_drewN|apply Kd.V_drew));exact HL135_3.out) (Kd.R_base ho0) hb);have n2_:=Aside0.mk (Kd.R_lower (Kd.R_newM (M:=λk_=>(w.heap.size<=k_)) ho0 (below_size mA) (λk_ h_=>h_)) (below_size mA));have n3_:=Aside0.mk (Kd.C_below mBB hb);have n4_:=Aside0.mk (below_step mA hb);have n5_:=Aside0.mk (Kd.Pre_below HP_.out (λg_ hA_=>Kd.N_lt O2.out g_ (by injection hA_ with hA_;rw[hA_];rfl)) hb);clear HP_;have HP_:=n5_;clear n5_;clear O2;clear HL135_3;clear R0;clear HB;have O2:=n0_;have HL135_3:=n1_;have O3:=n2_;have R0:=n3_;have HB:=n4_;clear n0_ n1_ n2_ n3_ n4_;(try clear hb);(try clear ho0);obtain⟨s4,s5,s6⟩:=Kd.R_slice O3.out;subst s6;have p9:0<=(x1:Int):=of_decide_eq_true mF;have q9:(x1:Int)<((x0.length:Int):Int):=of_decide_eq_true mF;obtain⟨go9,s7,s8,g0,gl9,cl9,HG9⟩:=Kd.N_form O2.out mBX;(first|cases s8|(injection s8 with ea_ en_ ec_;(first|subst ea_|(injection ea_ with ea_;subst ea_));subst ec_;clear en_));have GB9:=Aside0.mk g0;have GG9:=Aside0.mk HG9;clear g0 gl9 HG9;(first|simp only[add_plain]at h0|skip);(first|simp only[add_plain]at h1|skip);(first|simp only[add_plain]at h2|skip);(first|simp only[add_plain]at h3|skip);obtain⟨ce9,hcl9,hM9,hcc9,hfr9⟩:=Kd.N_elem O2.out z32 (x1:Int) p9 q9;obtain⟨ua9_3,uc9_3,rfl,ul9_3,ge9_3⟩:=k32_openF hM9;have h4:w2.cell? ⟨go9,(x1:Int).toNat *4,none⟩=some (.int .i64 ((rd_T32 x0 x1).f0)):=hcc9 0 _ rfl;have h5:w2.cell? ⟨go9,(x1:Int).toNat *4+1,none⟩=some (.int .i64 ((rd_T32 x0 x1).f1)):=hcc9 1 _ rfl;have h6:w2.cell? ⟨go9,(x1:Int).toNat *4+2,none⟩=some (.int .i64 ((rd_T32 x0 x1).f2)):=hcc9 2 _ rfl;have h7:w2.cell? ⟨go9,(x1:Int).toNat *4+3,none⟩=some (.slice ua9_3 ((rd_T32 x0 x1).f3).length uc9_3):=hcc9 3 _ rfl;have hf9_0:w2.frozen? ⟨go9,(x1:Int).toNat *4,none⟩=false:=hfr9 0;have hf9_1:w2.frozen? ⟨go9,(x1:Int).toNat *4+1,none⟩=false:=hfr9 1;have hf9_2:w2.frozen? ⟨go9,(x1:Int).toNat *4+2,none⟩=false:=hfr9 2;have hf9_3:w2.frozen? ⟨go9,(x1:Int).toNat *4+3,none⟩=false:=hfr9 3;clear hcl9 hcc9 hfr9 hM9;replace p9:=eq_true p9;replace q9:=eq_true q9;have HX11:=Aside0.mk (show Kd.N k32 32 w2 w.heap.size (λk_=>(P0_ k_\/w.heap.size<=k_)) (.slice (some ⟨go9,0,none⟩) x0.length s1) x0 from(by(with_reducible repeat (first|apply Kd.N_alloc|apply Kd.N_drewN|apply Kd.N_drew));exact Kd.N_mono O2.out (λ_ hk=>hk.1)));obtain⟨ce11,hcl11,hM11,hcc11,hfr11⟩:=Kd.N_elem HX11.out z32 (x1:Int) (of_decide_eq_true mF) mCZ;obtain⟨ua11_3,uc11_3,rfl,ul11_3,ge11_3⟩:=k32_openF hM11;have HP11:=Kd.N_seg HX11.out (x1:Int) (of_decide_eq_true mF) mCZ (seg:=[.slice s4 t1.length s5]) (j:=3) hcl11 hcc11 (show 4<=4 from by decide) (x':=(⟨(rd_T32 x0 x1).f0,(rd_T32 x0 x1).f1,(rd_T32 x0 x1).f2,t1⟩:S32)) (k32_mkF _ _ (⟨(rd_T32 x0 x1).f0,(rd_T32 x0 x1).f1,(rd_T32 x0 x1).f2,t1⟩:S32) (Kd.R_reads' (Kd.R_mono (ok':=(λk_=>((λk_=>(P0_ k_\/w.heap.size<=k_))) k_/\k_≠go9)) (Kd.R_apart' (O3.out) (Kd.N_typed O2.out) mAE) (λk_ hk=>⟨(.inr (hk.1.1)),λe_=>(hk.2) (by rw[e_];rfl)⟩))).2.1 (Kd.R_F (Kd.R_mono (ok':=(λk_=>((λk_=>(P0_ k_\/w.heap.size<=k_))) k_/\k_≠go9)) (Kd.R_apart' (O3.out) (Kd.N_typed O2.out) mAE) (λk_ hk=>⟨(.inr (hk.1.1)),λe_=>(hk.2) (by rw[e_];rfl)⟩)))) (λ_ hk=>hk);have h8:=hcc11 3 _ rfl;(try simp only[show(k32).sz =4 from rfl,Nat.mul_one,Nat.add_zero]at h8);have hf11_3:=hfr11 3;(try simp only[show(k32).sz =4 from rfl,Nat.mul_one,Nat.add_zero]at hf11_3);clear hcl11 hcc11 hfr11 hM11)|((with_reducible refine gate_store (t:=30) (p:=21) rfl ?_);refine stV (t:=30) (p:=21) (w1:=(w2.setCell ⟨go9,(x1:Int).toNat *4+3,none⟩ (.slice s4 t1.length s5))) (h:=?_);intro w5 hw;have hg:w2.grownBy w5 (some go9):=(by rw[hw];exact HP11.2);have hp_:Kd.N k32 32 w5 w.heap.size (λk_=>(P0_ k_\/w.heap.size<=k_)) (.slice (some ⟨go9,0,none⟩) x0.length s1) y3:=(by rw[hw,Y1.out];exact HP11.1);clear HP11;have n5_:=Aside0.mk (Pre_links (x:=(⟨(rd_T32 x0 x1).f0,(rd_T32 x0 x1).f1,(rd_T32 x0 x1).f2,t1⟩:S32)) HP_.out HI_.out.1 (by rw[<-hw];exact hg) h4 h5 h6 h7 (Kd.R_mono (Kd.R_apart' (O3.out) (Kd.N_typed O2.out) mAE) (λk_ hk=>⟨(.inr (hk.1.1)),λe_=>(hk.2) (by rw[e_];rfl)⟩)));rw[<-hw,<-Y1.out]at n5_;clear HP_;have HP_:=n5_;clear n5_;replace O2:=Aside0.mk (hp_);replace HL135_3:=Aside0.mk (Kd.V_afterv (v:=(.slice (some ⟨go9,0,none⟩) x0.length s1)) (v1:=(.slice (some ⟨go9,0,none⟩) x0.length s1)) (ok:=(λk_=>(P0_ k_\/w.heap.size<=k_)/\some k_≠(.slice s4 t1.length s5:Value).ownBlock)) (by(with_reducible repeat (first|apply Kd.V_alloc|apply Kd.V_drewN|apply Kd.V_drew));exact Kd.V_mono HL135_3.out (λ_ hk=>⟨⟨hk.1.1,hk.2⟩,hk.1.2⟩)) hg (.inl rfl));replace HB:=Aside0.mk ((by rw[hw];exact below_set (HB.out) GB9.out:Below w.heap.size w w5));clear O3;clear hg hw hp_))
      (try simp only[<-i0])
      go_roundg k1
      case measure=>have:=HK1.out;omega
      case rel=>exact⟨(y3),(wrap64 (x1+1)),mJ,H',⟨by have:=HK1.out;omega⟩,⟨by(try simp only[i0]);(with_reducible repeat (first|apply Kd.N_alloc|apply Kd.N_drewN|apply Kd.N_drew));exact O2.out⟩,⟨by repeat (first|(with_reducible first|exact HB.out|apply below_alloc|apply pw_below_drewN|apply below_drew1)|exact HB.out)⟩,⟨by have:=H0_.out;have:=HI_.out;unfold wrap64;omega⟩,⟨by have:=H0_.out;have:=HI_.out;rw[show(wrap64 (x1+1)).toNat =x1.toNat+1 by unfold wrap64;omega];exact HP_.out⟩⟩
     ·rw[if_neg c7]at H
      exact absurd H mAY
    ·rw[if_neg c6]at H
     exact absurd H mAY
   ·rw[if_neg c5]at H
    have c4:=decide_eq_false c5;have cn:=c4;rw[i0]at cn;clear c5;obtain rfl:=Option.some.inj H;go_wp2;go_ret;exact⟨_,by first|rfl|(simp[errW_none,errW_some] <;> rfl)|(simp[*,errW_none,errW_some] <;> rfl),(Kd.Pre_N (z:=z32) mAE O2.out (Kd.Pre_le HP_.out (by rw[<-i0];have:=of_decide_eq_false c4;have:=H0_.out;omega))),by repeat (first|(with_reducible first|exact HB.out|apply below_alloc|apply pw_below_drewN|apply below_drew1)|exact HB.out)⟩
def store_at_1.f (a0_0:Int) (a0_1:Int) (a0_2:Int) (l0_3:List (S56)) (a1:Int):Option (Int):=some (wrap64 (a0_0-a1))
set_option maxHeartbeats 8000000 in
set_option maxRecDepth 100000 in
theorem store_at_1.calls (a0_0:Int) (a0_1:Int) (a0_2:Int) (A0_3:Option Addr) (c0_3:Nat) (l0_3:List (S56)) (a1:Int) (r:Int) (w:World) (hr0_3:Kd.C k56 w A0_3 l0_3.length l0_3) (hc0_3:l0_3.length<=c0_3) (h:store_at_1.f a0_0 a0_1 a0_2 l0_3 a1=some r):
  Calls Try.prog 52 #[.agg #[.int .i64 a0_0,.int .i64 a0_1,.int .i64 a0_2,.slice A0_3 l0_3.length c0_3],.int .i64 a1] w λe w'=>e= .returned (.int .i64 r)/\Below w.heap.size w w':=by
 have hu32:=Try.underlying32;have R0:=Aside0.mk hr0_3;have K0:=Aside0.mk hc0_3;clear hr0_3 hc0_3;have HB:=Aside0.mk (Below.refl w.heap.size w);have H:(some (wrap64 (a0_0-a1)))=some r:=h;clear h;obtain rfl:=Option.some.inj H
 go_enter Try.func52,Try.ntmps52
 go_wp2_with (first|((with_reducible refine gate_dst (N:=2) rfl ?_);refine bxV (N:=2) (cs:=#[.int .i64 a0_0,.int .i64 a0_1,.int .i64 a0_2,.slice A0_3 l0_3.length c0_3]) (t:=32) (h:=?_);intro g0 hg w3 hbox hb;have B0:=Aside0.mk (hbox);have G0:=Aside0.mk ((mH:w.heap.size<=g0));have G1:=Aside0.mk ((mH:w.heap.size<=g0));replace HB:=Aside0.mk (below_step mA hb);clear hb hbox hg;obtain⟨z0,z1,z2,z3⟩:=bc4 B0.out;have z4:=blk_frozen B0.out))
 go_ret;exact⟨by first|rfl|(simp[errW_none,errW_some] <;> rfl)|(simp[*,errW_none,errW_some] <;> rfl),by repeat (first|(with_reducible first|exact HB.out|apply below_alloc|apply pw_below_drewN|apply below_drew1|refine below_set ?_ G1.out)|exact HB.out)⟩
def api_Lsa_int.l0:Nat->List (S32)->Int->Int->Int->Int->Option (Int × Bool)
 |0,_,_,_,_,_=>none
 |k+1,x0,x1,x8,x9,x10=>if x9<x10 then(if 0<=(wrap64 ((IntKind.u64.wrap (wrap64 (x9+x10)))/2))then(if(wrap64 ((IntKind.u64.wrap (wrap64 (x9+x10)))/2))<(x0.length:Int)then((store_at_1.f ((rd_T32 x0 (wrap64 ((IntKind.u64.wrap (wrap64 (x9+x10)))/2))).f0) ((rd_T32 x0 (wrap64 ((IntKind.u64.wrap (wrap64 (x9+x10)))/2))).f1) ((rd_T32 x0 (wrap64 ((IntKind.u64.wrap (wrap64 (x9+x10)))/2))).f2) ((rd_T32 x0 (wrap64 ((IntKind.u64.wrap (wrap64 (x9+x10)))/2))).f3) x1).bind λt142=>(if t142<0 then(api_Lsa_int.l0 k x0 x1 x8 (wrap64 ((wrap64 ((IntKind.u64.wrap (wrap64 (x9+x10)))/2))+1)) x10)else(api_Lsa_int.l0 k x0 x1 x8 x9 (wrap64 ((IntKind.u64.wrap (wrap64 (x9+x10)))/2)))))else(none))else(none))else(if x9<x8 then(if 0<=x9 then(if x9<(x0.length:Int)then((store_at_1.f ((rd_T32 x0 x9).f0) ((rd_T32 x0 x9).f1) ((rd_T32 x0 x9).f2) ((rd_T32 x0 x9).f3) x1).bind λt144=>(some (x9,(t144==0))))else(none))else(none))else(some (x9,false)))
def api_Lsa_int.f (k:Nat) (l0:List (S32)) (a1:Int):Option (Int × Bool):=api_Lsa_int.l0 k l0 a1 (l0.length:Int) 0 (l0.length:Int)
theorem api_Lsa_int.mono_l:∀k,(∀y0 y1 y2 y3 y4,LeO (api_Lsa_int.l0 k y0 y1 y2 y3 y4) (api_Lsa_int.l0 (k+1) y0 y1 y2 y3 y4))
 |0=>λ_ _ _ _ _ r h=>by simp[api_Lsa_int.l0]at h
 |k+1=>by
  have ih0:=api_Lsa_int.mono_l k
  ·intro y0 y1 y2 y3 y4
   unfold api_Lsa_int.l0
   repeat' (with_reducible first|exact ih0 _ _ _ _ _|exact LeO.refl _|exact LeO.none _|refine LeO.ite ?_ ?_ |refine LeO.bind ?_ (λ_=>?_))
theorem api_Lsa_int.mono:∀a0 a1 k,LeO (api_Lsa_int.f k a0 a1) (api_Lsa_int.f (k+1) a0 a1):=by
 intro a0 a1 k;have ih0:=api_Lsa_int.mono_l k;unfold api_Lsa_int.f
 repeat' (with_reducible first|exact ih0 _ _ _ _ _|exact LeO.refl _|exact LeO.none _|refine LeO.ite ?_ ?_ |refine LeO.bind ?_ (λ_=>?_))
set_option maxHeartbeats 8000000 in
set_option maxRecDepth 100000 in
theorem api_Lsa_int.calls (k:Nat) (A0:Option Addr) (c0:Nat) (l0:List (S32)) (a1:Int) (r1:Int) (r2:Bool) (w:World) (hr0:Kd.C k32 w A0 l0.length l0) (hc0:l0.length<=c0) (h:api_Lsa_int.f k l0 a1=some (r1,r2)):
  Calls Try.prog 51 #[.slice A0 l0.length c0,.int .i64 a1,.func (.func 52) #[] #[]] w λe w'=>e= .returned (.tuple #[.int .i64 r1,.bool r2])/\Below w.heap.size w w':=by
 have hu32:=Try.underlying32;have R0:=Aside0.mk hr0;have K0:=Aside0.mk hc0;clear hr0 hc0;have HB:=Aside0.mk (Below.refl w.heap.size w);have H:(api_Lsa_int.l0 k l0 a1 (l0.length:Int) 0 (l0.length:Int))=some (r1,r2):=h;clear h;have H':=Aside0.mk H;clear H
 go_enter Try.func51,Try.ntmps51
 go_wp2
 go_loopg [9,10] k (λkq v9 v10 w'=>∃(x2:Int) (x3:Int),v9= .int .i64 x2/\v10= .int .i64 x3/\Aside0 (api_Lsa_int.l0 kq l0 a1 (l0.length:Int) x2 x3=some (r1,r2))/\Aside0 (kq<=k)/\Aside0 (Below w.heap.size w w'))
 case atStart=>exact⟨(0),((l0.length:Int)),mJ,mJ,H',⟨Nat.le_refl _⟩,⟨by repeat (first|(with_reducible first|exact HB.out|apply below_alloc|apply pw_below_drewN|apply below_drew1)|exact HB.out)⟩⟩
 case round=>
  clear H';(try clear p2);obtain⟨x2,x3,rfl,rfl,HA,HK1,HB⟩:=hrel;cases gk with
  |zero=>exact absurd HA.out (by simp[api_Lsa_int.l0])
  |succ k1=>
   have H:=HA.out;clear HA;simp only[api_Lsa_int.l0]at H
   by_cases c4:x2<x3
   ·rw[if_pos c4]at H
    have c3:=decide_eq_true c4;clear c4;obtain⟨j0,j1⟩:∃j_:Int,(wrap64 ((IntKind.u64.wrap (wrap64 (x2+x3)))/2))=j_:=⟨_,rfl⟩
    replace H:(if 0<=(j0)then(if(j0)<(l0.length:Int)then((store_at_1.f ((rd_T32 l0 (j0)).f0) ((rd_T32 l0 (j0)).f1) ((rd_T32 l0 (j0)).f2) ((rd_T32 l0 (j0)).f3) a1).bind λt0=>(if t0<0 then(api_Lsa_int.l0 k1 l0 a1 (l0.length:Int) (wrap64 ((j0)+1)) x3)else(api_Lsa_int.l0 k1 l0 a1 (l0.length:Int) x2 j0)))else(none))else(none))=some (r1,r2):=by first|(rw[j1]at H;exact H)|(simp only[j1]at H |-;exact H)
    have j2:(IntKind.i64.wrap ((IntKind.u64.wrap (wrap64 (x2+x3)))/2))=j0:=(i64_w _).trans j1
    by_cases c6:0<=(j0)
    ·rw[if_pos c6]at H
     have ca:=decide_eq_true c6;clear c6
     by_cases c7:(j0)<(l0.length:Int)
     ·rw[if_pos c7]at H
      have cf:=decide_eq_true c7;clear c7;obtain⟨t0,A1,H⟩:=bsE H;(try dsimp only at H);have A8:=Aside0.mk A1;clear A1
      by_cases c9:t0<0
      ·rw[if_pos c9]at H
       have ck:=decide_eq_true c9;clear c9;have H':=Aside0.mk H;clear H;have p0:0<=((j0):Int):=of_decide_eq_true mF;have q0:(j0)<(l0.length:Int):=of_decide_eq_true mF;obtain⟨d0,A3,s0,e0,h0,h1,h2,h3,i0,i1⟩:=at_T32 R0.out (j0) p0 q0;cases e0;replace h0:=hB HB h0;replace h1:=hB HB h1;replace h2:=hB HB h2;replace h3:=hB HB h3;have R1:=Aside0.mk i1;have K1:=Aside0.mk i0;clear i1 i0;replace p0:=eq_true p0;replace q0:=eq_true q0
       go_wp2_with (first|((with_reducible refine gate_dst (N:=30) rfl ?_);refine goesVL_ (some 30) rfl rfl Try.func52 mAI rfl #[.agg #[.int .i64 ((rd_T32 l0 (j0)).f0),.int .i64 ((rd_T32 l0 (j0)).f1),.int .i64 ((rd_T32 l0 (j0)).f2),.slice A3 ((rd_T32 l0 (j0)).f3).length s0],.int .i64 a1] rfl rfl mCW ?_;(with_reducible refine(store_at_1.calls ((rd_T32 l0 (j0)).f0) ((rd_T32 l0 (j0)).f1) ((rd_T32 l0 (j0)).f2) _ _ ((rd_T32 l0 (j0)).f3) a1 t0 _ ?side1 ?side2 A8.out).mono ?_);(case side1=>repeat (first|exact(Kd.C_below R1.out HB.out)|(with_reducible refine Kd.C_alloc ?_ _)|(with_reducible refine Kd.C_drewN ?_ _)|(with_reducible refine Kd.C_drew ?_)));(case side2=>exact K1.out);rintro e w0 ⟨rfl,hb⟩;refine⟨_,rfl,?_⟩;replace HB:=Aside0.mk (below_step mA hb);(try clear hb)))
       go_roundg k1
       case measure=>have:=HK1.out;omega
       case rel=>exact⟨(wrap64 ((j0)+1)),(x3),mDN,mJ,H',⟨by have:=HK1.out;omega⟩,⟨by repeat (first|(with_reducible first|exact HB.out|apply below_alloc|apply pw_below_drewN|apply below_drew1)|exact HB.out)⟩⟩
      ·rw[if_neg c9]at H
       have ck:=decide_eq_false c9;clear c9;have H':=Aside0.mk H;clear H;have p0:0<=((j0):Int):=of_decide_eq_true mF;have q0:(j0)<(l0.length:Int):=of_decide_eq_true mF;obtain⟨d0,A3,s0,e0,h0,h1,h2,h3,i0,i1⟩:=at_T32 R0.out (j0) p0 q0;cases e0;replace h0:=hB HB h0;replace h1:=hB HB h1;replace h2:=hB HB h2;replace h3:=hB HB h3;have R1:=Aside0.mk i1;have K1:=Aside0.mk i0;clear i1 i0;replace p0:=eq_true p0;replace q0:=eq_true q0
       go_wp2_with (first|((with_reducible refine gate_dst (N:=30) rfl ?_);refine goesVL_ (some 30) rfl rfl Try.func52 mAI rfl #[.agg #[.int .i64 ((rd_T32 l0 (j0)).f0),.int .i64 ((rd_T32 l0 (j0)).f1),.int .i64 ((rd_T32 l0 (j0)).f2),.slice A3 ((rd_T32 l0 (j0)).f3).length s0],.int .i64 a1] rfl rfl mCW ?_;(with_reducible refine(store_at_1.calls ((rd_T32 l0 (j0)).f0) ((rd_T32 l0 (j0)).f1) ((rd_T32 l0 (j0)).f2) _ _ ((rd_T32 l0 (j0)).f3) a1 t0 _ ?side1 ?side2 A8.out).mono ?_);(case side1=>repeat (first|exact(Kd.C_below R1.out HB.out)|(with_reducible refine Kd.C_alloc ?_ _)|(with_reducible refine Kd.C_drewN ?_ _)|(with_reducible refine Kd.C_drew ?_)));(case side2=>exact K1.out);rintro e w1 ⟨rfl,hb⟩;refine⟨_,rfl,?_⟩;replace HB:=Aside0.mk (below_step mA hb);(try clear hb)))
       go_roundg k1
       case measure=>have:=HK1.out;omega
       case rel=>exact⟨(x2),(j0),mJ,mDN,H',⟨by have:=HK1.out;omega⟩,⟨by repeat (first|(with_reducible first|exact HB.out|apply below_alloc|apply pw_below_drewN|apply below_drew1)|exact HB.out)⟩⟩
     ·rw[if_neg c7]at H
      exact absurd H mAY
    ·rw[if_neg c6]at H
     exact absurd H mAY
   ·rw[if_neg c4]at H
    have c3:=decide_eq_false c4;clear c4
    by_cases cv:x2<(l0.length:Int)
    ·rw[if_pos cv]at H
     have cw:=decide_eq_true cv;clear cv
     by_cases cx:0<=x2
     ·rw[if_pos cx]at H
      have cy:=decide_eq_true cx;clear cx
      by_cases cz:x2<(l0.length:Int)
      ·rw[if_pos cz]at H
       have c00:=decide_eq_true cz;clear cz;obtain⟨t1,A6,H⟩:=bsE H;(try dsimp only at H);have A7:=Aside0.mk A6;clear A6;simp only[Option.some.injEq,Prod.mk.injEq]at H;obtain⟨rfl,rfl⟩:=H;have p1:0<=(x2:Int):=of_decide_eq_true mF;have q1:x2<(l0.length:Int):=of_decide_eq_true mF;obtain⟨d1,A9,s1,e1,h4,h5,h6,h7,i2,i3⟩:=at_T32 R0.out x2 p1 q1;cases e1;replace h4:=hB HB h4;replace h5:=hB HB h5;replace h6:=hB HB h6;replace h7:=hB HB h7;have R2:=Aside0.mk i3;have K2:=Aside0.mk i2;clear i3 i2;replace p1:=eq_true p1;replace q1:=eq_true q1
       go_wp2_with (first|(go_at_call 52;(with_reducible refine(store_at_1.calls ((rd_T32 l0 x2).f0) ((rd_T32 l0 x2).f1) ((rd_T32 l0 x2).f2) _ _ ((rd_T32 l0 x2).f3) a1 t1 _ ?side1 ?side2 A7.out).mono ?_);(case side1=>repeat (first|exact(Kd.C_below R2.out HB.out)|(with_reducible refine Kd.C_alloc ?_ _)|(with_reducible refine Kd.C_drewN ?_ _)|(with_reducible refine Kd.C_drew ?_)));(case side2=>exact K2.out);rintro e w2 ⟨rfl,hb⟩;replace HB:=Aside0.mk (below_step mA hb);(try clear hb);(try clear hb2);(try clear hk);(try clear hi)))
       go_ret2
       exact⟨by first|rfl|(simp[errW_none,errW_some] <;> rfl)|(simp[*,errW_none,errW_some] <;> rfl),by repeat (first|(with_reducible first|exact HB.out|apply below_alloc|apply pw_below_drewN|apply below_drew1)|exact HB.out)⟩
      ·rw[if_neg cz]at H
       exact absurd H mAY
     ·rw[if_neg cx]at H
      exact absurd H mAY
    ·rw[if_neg cv]at H
     have cw:=decide_eq_false cv;clear cv;simp only[Option.some.injEq,Prod.mk.injEq]at H;obtain⟨rfl,rfl⟩:=H;go_wp2
     go_ret2
     exact⟨by first|rfl|(simp[errW_none,errW_some] <;> rfl)|(simp[*,errW_none,errW_some] <;> rfl),by repeat (first|(with_reducible first|exact HB.out|apply below_alloc|apply pw_below_drewN|apply below_drew1)|exact HB.out)⟩
def store_at.f (k:Nat) (l0:List (S32)) (a1:Int):Option (Int × Bool):=(api_Lsa_int.f k l0 a1).bind λbt145=>(some (bt145.1,bt145.2))
theorem store_at.mono:∀a0 a1 k,LeO (store_at.f k a0 a1) (store_at.f (k+1) a0 a1):=by
 intro a0 a1 k;unfold store_at.f
 repeat' (with_reducible first|exact api_Lsa_int.mono _ _ _|exact LeO.refl _|exact LeO.none _|refine LeO.ite ?_ ?_ |refine LeO.bind ?_ (λ_=>?_))
set_option maxHeartbeats 8000000 in
set_option maxRecDepth 100000 in
theorem store_at.calls (k:Nat) (A0:Option Addr) (c0:Nat) (l0:List (S32)) (a1:Int) (r1:Int) (r2:Bool) (w:World) (hr0:Kd.C k32 w A0 l0.length l0) (hc0:l0.length<=c0) (h:store_at.f k l0 a1=some (r1,r2)):
  Calls Try.prog 29 #[.slice A0 l0.length c0,.int .i64 a1] w λe w'=>e= .returned (.tuple #[.int .i64 r1,.bool r2])/\Below w.heap.size w w':=by
 have R0:=Aside0.mk hr0;have K0:=Aside0.mk hc0;clear hr0 hc0;have HB:=Aside0.mk (Below.refl w.heap.size w);have H:((api_Lsa_int.f k l0 a1).bind λbt145=>(some (bt145.1,bt145.2)))=some (r1,r2):=h;clear h;obtain⟨⟨t0,t1⟩,A1,H⟩:=bsE H;(try dsimp only at H);have A3:=Aside0.mk A1;clear A1;simp only[Option.some.injEq,Prod.mk.injEq]at H;obtain⟨rfl,rfl⟩:=H
 go_enter Try.func29,Try.ntmps29
 go_wp2_with (first|((with_reducible refine gate_callee (f:=51) rfl ?_);refine cLV (some 8) Try.func51 #[.slice A0 l0.length c0,.int .i64 a1,.func (.func 52) #[] #[]] (h:=?_);(with_reducible refine(api_Lsa_int.calls k _ _ l0 a1 t0 t1 _ ?side1 ?side2 A3.out).mono ?_);(case side1=>repeat (first|exact R0.out|(with_reducible refine Kd.C_alloc ?_ _)|(with_reducible refine Kd.C_drewN ?_ _)|(with_reducible refine Kd.C_drew ?_)));(case side2=>exact K0.out);rintro e w4 ⟨rfl,hb⟩;refine⟨_,rfl,?_⟩;replace HB:=Aside0.mk (below_step mA hb);(try clear hb)))
 go_ret2
 exact⟨by first|rfl|(simp[errW_none,errW_some] <;> rfl)|(simp[*,errW_none,errW_some] <;> rfl),by repeat (first|(with_reducible first|exact HB.out|apply below_alloc|apply pw_below_drewN|apply below_drew1)|exact HB.out)⟩
def fletch_Sum.l0:Nat->ByteArray->Int->Int->Int->Int->Option (Int)
 |0,_,_,_,_,_=>none
 |k+1,x0,x3,x4,x7,x8=>if x8<x7 then(if 0<=x8 then(if x8<(x0.size:Int)then(fletch_Sum.l0 k x0 (Int.tmod (wrap64 (x3+(wrap64 (bt x0 x8)))) 255) (Int.tmod (wrap64 (x4+(Int.tmod (wrap64 (x3+(wrap64 (bt x0 x8)))) 255))) 255) x7 (wrap64 (x8+1)))else(none))else(none))else(some (wrap64 ((wrap64 (256*x4))+x3)))
def fletch_Sum.f (k:Nat) (a0:ByteArray):Option (Int):=fletch_Sum.l0 k a0 0 0 (a0.size:Int) 0
theorem fletch_Sum.mono_l:∀k,(∀y0 y1 y2 y3 y4,LeO (fletch_Sum.l0 k y0 y1 y2 y3 y4) (fletch_Sum.l0 (k+1) y0 y1 y2 y3 y4))
 |0=>λ_ _ _ _ _ r h=>by simp[fletch_Sum.l0]at h
 |k+1=>by
  have ih0:=fletch_Sum.mono_l k
  ·intro y0 y1 y2 y3 y4
   unfold fletch_Sum.l0
   repeat' (with_reducible first|exact ih0 _ _ _ _ _|exact LeO.refl _|exact LeO.none _|refine LeO.ite ?_ ?_ |refine LeO.bind ?_ (λ_=>?_))
theorem fletch_Sum.mono:∀a0 k,LeO (fletch_Sum.f k a0) (fletch_Sum.f (k+1) a0):=by
 intro a0 k;have ih0:=fletch_Sum.mono_l k;unfold fletch_Sum.f
 repeat' (with_reducible first|exact ih0 _ _ _ _ _|exact LeO.refl _|exact LeO.none _|refine LeO.ite ?_ ?_ |refine LeO.bind ?_ (λ_=>?_))
set_option maxHeartbeats 8000000 in
set_option maxRecDepth 100000 in
theorem fletch_Sum.calls (k:Nat) (a0:ByteArray) (r:Int) (w:World) (h:fletch_Sum.f k a0=some r):
  Calls Try.prog 62 #[.string a0] w λe w'=>e= .returned (.int .i64 r)/\Drawn0 w w':=by
 have H:(fletch_Sum.l0 k a0 0 0 (a0.size:Int) 0)=some r:=h;clear h;have H':=Aside0.mk H;clear H
 go_enter Try.func62,Try.ntmps62
 go_wp2
 go_loopg [3,4,8] k (λkq v3 v4 v8 w'=>∃(x1:Int) (x2:Int) (x5:Int),v3= .int .i64 x1/\v4= .int .i64 x2/\v8= .int .i64 x5/\Aside0 (fletch_Sum.l0 kq a0 x1 x2 (a0.size:Int) x5=some r)/\Aside0 (kq<=k)/\Drawn0 w w')
 case atStart=>exact⟨(0),(0),(0),mJ,mJ,mJ,H',⟨Nat.le_refl _⟩,by repeat (first|exact Drawn0.refl _|apply Drawn0.step)⟩
 case round=>
  clear H';obtain⟨x1,x2,x5,rfl,rfl,rfl,HA,HK1,⟨m1,rfl⟩⟩:=hrel;cases gk with
  |zero=>exact absurd HA.out (by simp[fletch_Sum.l0])
  |succ k1=>
   have H:=HA.out;clear HA;simp only[fletch_Sum.l0]at H
   by_cases c2:x5<(a0.size:Int)
   ·rw[if_pos c2]at H
    have c5:=decide_eq_true c2;clear c2
    by_cases c3:0<=x5
    ·rw[if_pos c3]at H
     have ca:=decide_eq_true c3;clear c3
     by_cases c4:x5<(a0.size:Int)
     ·rw[if_pos c4]at H
      have cf:=decide_eq_true c4;clear c4;have H':=Aside0.mk H;clear H;have p5:0<=(x5:Int):=of_decide_eq_true mF;have q5:x5<(a0.size:Int):=of_decide_eq_true mF;have hx5:=bt_at a0 x5;replace p5:=eq_true p5;replace q5:=eq_true q5;go_wp2
      go_roundg k1
      case measure=>have:=HK1.out;omega
      case rel=>exact⟨(Int.tmod (wrap64 (x1+(wrap64 (bt a0 x5)))) 255),(Int.tmod (wrap64 (x2+(Int.tmod (wrap64 (x1+(wrap64 (bt a0 x5)))) 255))) 255),(wrap64 (x5+1)),mJ,mJ,mJ,H',⟨by have:=HK1.out;omega⟩,by repeat (first|exact Drawn0.refl _|apply Drawn0.step)⟩
     ·rw[if_neg c4]at H
      exact absurd H mAY
    ·rw[if_neg c3]at H
     exact absurd H mAY
   ·rw[if_neg c2]at H
    have c5:=decide_eq_false c2;clear c2;obtain rfl:=Option.some.inj H;go_wp2;go_ret;exact⟨by first|rfl|(simp;done)|(simp[*];done),by repeat (first|exact Drawn0.refl _|apply Drawn0.step)⟩
def lsa_One.f (a0:Int):Option (ByteArray):=some (strOfNums (([(a0) % 256]:List Int)))
set_option maxHeartbeats 8000000 in
set_option maxRecDepth 100000 in
theorem lsa_One.calls (a0:Int) (r:ByteArray) (w:World) (h:lsa_One.f a0=some r):
  Calls Try.prog 74 #[.int .i64 a0] w λe w'=>e= .returned (.string r)/\Below w.heap.size w w':=by
 have HB:=Aside0.mk (Below.refl w.heap.size w);have H:(some (strOfNums (([(a0) % 256]:List Int))))=some r:=h;clear h;obtain⟨y0,Y0⟩:∃y_:List Int,y_=(([(a0) % 256]:List Int)):=⟨_,rfl⟩
 replace H:(some (strOfNums y0))=some r:=by first|(rw[Y0];with_reducible exact H)|(have H2_:=(Option.bind_some _ _).symm.trans H;rw[Y0];with_reducible exact H2_)|(have H2_:=(Option.bind_some _ _).symm.trans H;with_reducible exact H2_)|with_reducible exact H|(rw[Y0];exact H)|exact H
 have Y1:=Aside0.mk Y0;clear Y0;obtain rfl:=Option.some.inj H
 go_enter Try.func74,Try.ntmps74
 go_wp2_with (first|((with_reducible refine gate_dst (N:=5) rfl ?_);refine Kd.R_lit (Kd.int .u8) _ 5 ?hg (N:=5) ?hd (xs:=([(a0) % 256]:List Int)) (inner:=[.int .u8 ((a0) % 256)]) (ok:=λ_=>True) (okp:=λ_=>True) ?hr ?hp (λ_ hk=>hk) trivial (Below.refl _ _) (Nat.le_refl _) mAY ?_;(case hd=>rfl);(case hg=>rfl);(case hr=>first|(go_simp;done)|(go_simp;rfl));(case hp=>exact(Reps.one (show Kd.M (Kd.int .u8) _ _ _ ((a0) % 256) [.int .u8 ((a0) % 256)]from rfl) (Reps.none _ _)));intro v148 w2 ho3 hb hg_ hnew_;clear hg_ hnew_;(first|rw[<-Y1.out]at ho3|(simp only[Int.reduceToNat]at ho3;rw[<-Y1.out]at ho3));have O0:=Aside0.mk (Kd.R_lower ho3 (below_size mA));replace HB:=Aside0.mk (below_step mA hb);clear hb ho3;have hcv4:=own_string (P:=Try.prog) Try.underlying97 Try.underlying5 Try.underlying9 (Kd.own_of_R O0.out)))
 go_ret;exact⟨by first|rfl|(simp[errW_none,errW_some] <;> rfl)|(simp[*,errW_none,errW_some] <;> rfl),by repeat (first|(with_reducible first|exact HB.out|apply below_alloc|apply pw_below_drewN|apply below_drew1)|exact HB.out)⟩
def lsa_Two.f (a0:Int):Option (ByteArray):=some (strOfNums (([(a0/256) % 256,(a0) % 256]:List Int)))
set_option maxHeartbeats 8000000 in
set_option maxRecDepth 100000 in
theorem lsa_Two.calls (a0:Int) (r:ByteArray) (w:World) (h:lsa_Two.f a0=some r):
  Calls Try.prog 76 #[.int .i64 a0] w λe w'=>e= .returned (.string r)/\Below w.heap.size w w':=by
 have HB:=Aside0.mk (Below.refl w.heap.size w);have H:(some (strOfNums (([(a0/256) % 256,(a0) % 256]:List Int))))=some r:=h;clear h;obtain⟨y0,Y0⟩:∃y_:List Int,y_=(([(a0/256) % 256,(a0) % 256]:List Int)):=⟨_,rfl⟩
 replace H:(some (strOfNums y0))=some r:=by first|(rw[Y0];with_reducible exact H)|(have H2_:=(Option.bind_some _ _).symm.trans H;rw[Y0];with_reducible exact H2_)|(have H2_:=(Option.bind_some _ _).symm.trans H;with_reducible exact H2_)|with_reducible exact H|(rw[Y0];exact H)|exact H
 have Y1:=Aside0.mk Y0;clear Y0;obtain rfl:=Option.some.inj H
 go_enter Try.func76,Try.ntmps76
 go_wp2_with (first|((with_reducible refine gate_dst (N:=8) rfl ?_);refine Kd.R_lit (Kd.int .u8) _ 5 ?hg (N:=8) ?hd (xs:=([(a0/256) % 256,(a0) % 256]:List Int)) (inner:=[.int .u8 ((a0/256) % 256),.int .u8 ((a0) % 256)]) (ok:=λ_=>True) (okp:=λ_=>True) ?hr ?hp (λ_ hk=>hk) trivial (Below.refl _ _) (Nat.le_refl _) mAY ?_;(case hd=>rfl);(case hg=>rfl);(case hr=>first|(go_simp;done)|(go_simp;rfl));(case hp=>exact(Reps.one (show Kd.M (Kd.int .u8) _ _ _ ((a0/256) % 256) [.int .u8 ((a0/256) % 256)]from rfl) (Reps.one (show Kd.M (Kd.int .u8) _ _ _ ((a0) % 256) [.int .u8 ((a0) % 256)]from rfl) (Reps.none _ _))));intro v151 w2 ho3 hb hg_ hnew_;clear hg_ hnew_;(first|rw[<-Y1.out]at ho3|(simp only[Int.reduceToNat]at ho3;rw[<-Y1.out]at ho3));have O0:=Aside0.mk (Kd.R_lower ho3 (below_size mA));replace HB:=Aside0.mk (below_step mA hb);clear hb ho3;have hcv4:=own_string (P:=Try.prog) Try.underlying97 Try.underlying5 Try.underlying9 (Kd.own_of_R O0.out)))
 go_ret;exact⟨by first|rfl|(simp[errW_none,errW_some] <;> rfl)|(simp[*,errW_none,errW_some] <;> rfl),by repeat (first|(with_reducible first|exact HB.out|apply below_alloc|apply pw_below_drewN|apply below_drew1)|exact HB.out)⟩
def lsa_Four.f (a0:Int):Option (ByteArray):=(lsa_Two.f (a0/65536)).bind λt153=>((lsa_Two.f a0).bind λt154=>(if t153.size+t154.size<=9223372036854775807 then(some (t153++t154))else(none)))
set_option maxHeartbeats 8000000 in
set_option maxRecDepth 100000 in
theorem lsa_Four.calls (a0:Int) (r:ByteArray) (w:World) (h:lsa_Four.f a0=some r):
  Calls Try.prog 75 #[.int .i64 a0] w λe w'=>e= .returned (.string r)/\Below w.heap.size w w':=by
 have HB:=Aside0.mk (Below.refl w.heap.size w);have H:((lsa_Two.f (a0/65536)).bind λt0=>((lsa_Two.f a0).bind λt1=>(if t0.size+t1.size<=9223372036854775807 then(some (t0++t1))else(none))))=some r:=h;clear h;obtain⟨t0,A0,H⟩:=bsE H;(try dsimp only at H);have A2:=Aside0.mk A0;clear A0;obtain⟨t1,A4,H⟩:=bsE H;(try dsimp only at H);have A3:=Aside0.mk A4;clear A4
 by_cases c4:t0.size+t1.size<=9223372036854775807
 ·rw[if_pos c4]at H
  have c2:=eq_true c4;have c5:=decide_eq_true c4;(try have c7:(9223372036854775807<t0.size+t1.size)=False:=eq_false (Nat.not_lt.2 c4));obtain rfl:=Option.some.inj H
  go_enter Try.func75,Try.ntmps75
  go_wp2_with (first|((with_reducible refine gate_callee (f:=76) rfl ?_);refine cLV (some 5) Try.func76 #[.int .i64 (a0/65536)] (h:=?_);(with_reducible refine(lsa_Two.calls (a0/65536) t0 _ A2.out).mono ?_);rintro e w5 ⟨rfl,hb⟩;refine⟨_,rfl,?_⟩;replace HB:=Aside0.mk (below_step mA hb);(try clear hb))|((with_reducible refine gate_callee (f:=76) rfl ?_);refine cLV (some 7) Try.func76 #[.int .i64 a0] (h:=?_);(with_reducible refine(lsa_Two.calls a0 t1 _ A3.out).mono ?_);rintro e w6 ⟨rfl,hb⟩;refine⟨_,rfl,?_⟩;replace HB:=Aside0.mk (below_step mA hb);(try clear hb)))
  go_ret;exact⟨by first|rfl|(simp[errW_none,errW_some] <;> rfl)|(simp[*,errW_none,errW_some] <;> rfl),by repeat (first|(with_reducible first|exact HB.out|apply below_alloc|apply pw_below_drewN|apply below_drew1)|exact HB.out)⟩
 ·rw[if_neg c4]at H
  exact absurd H mAY
end Go.Proofs.Ytbpoflicphgokaa.Q18
