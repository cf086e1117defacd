/- Written by a program of this session (out of what the print wrote for this seat): the functions' walks, packed. -/
import Derived.Test.YtbajimbccbckkaaM12k
namespace Go.Proofs.Ytbajimbccbckkaa.Stp
open Go.RowKit Go.Proofs.YtbajimbccbckkaaW.PrintWords Go.Proofs.YtbajimbccbckkaaW.PrintLast Go.Proofs.YtbajimbccbckkaaW.PrintMore
set_option linter.unusedVariables false
section
variable {P : Program} {ops : Array Oper} {Q : Exit → Act → World → Prop} {md : Region.Mode} {S : World → Prop} {ds : List Nat}
theorem pV (i:Nat) (N:Tmp) {oi:Oper} {v:Value} {fuel:Nat} {l:Array Bool} {a a':Act} {w:World} (l':Array Bool) (h:wpAnyLast P md ops Q S ds fuel l' a' w) (hi:ops[i]? =some oi:=by rfl) (hN:oi.dst=some N:=by rfl) (hc:anyB md ops l l' i=true:=by exact any_of HT_.out (by kernel_rfl))
    (hQ:∀c a w,Q (.panic c) (a.put oi.dst v) w->Q (.panic c) a w:=by exact λ_ _ _ h=>h) (hy:Yields P ops oi v a:=by exact Or.inl ⟨by rfl,by intro w';go_simp;with_reducible rfl⟩) (ha:a.put (some N) v=a':=by simp only[Act.put,List.setIfInBounds_toArray,List.set_cons_zero,List.set_cons_succ,i64_w,i32_w];rfl):wpAnyLast P md ops Q S ds (fuel+1) l a w:=pure_ l' hi hN hc hQ hy ha h
theorem pU (i:Nat) (N:Tmp) {oi:Oper} {fuel:Nat} {l:Array Bool} {a a':Act} {w:World} (l':Array Bool) (h:wpAnyLast P md ops Q S ds fuel l' a' w) (hi:ops[i]? =some oi:=by rfl) (hN:oi.dst=some N:=by rfl) (hc:anyB md ops l l' i=true:=by exact any_of HT_.out (by kernel_rfl))
    (hQ:∀c a w,Q (.panic c) (a.put oi.dst undef) w->Q (.panic c) a w:=by exact λ_ _ _ h=>h) (hy:Yields P ops oi undef a:=by exact Or.inr ⟨by rfl,rfl⟩) (ha:a.put (some N) undef=a':=by simp only[Act.put,List.setIfInBounds_toArray,List.set_cons_zero,List.set_cons_succ,i64_w,i32_w];rfl):wpAnyLast P md ops Q S ds (fuel+1) l a w:=pure_ l' hi hN hc hQ hy ha h
theorem nV (N:Tmp) {v:Value} {fuel:Nat} {l:Array Bool} {a a':Act} {w:World} (ha:a.put (some N) v=a':=by simp only[Act.put,List.setIfInBounds_toArray,List.set_cons_zero,List.set_cons_succ,i64_w,i32_w];rfl) (h:wpAnyLast P md ops Q S ds fuel l a' w):wpAnyLast P md ops Q S ds fuel l (a.put (some N) v) w:=norm_ ha h
theorem oV (i:Nat) (N:Option Tmp) {oi:Oper} {fuel:Nat} {l:Array Bool} {a:Act} {w:World} (l':Array Bool) (hi:ops[i]? =some oi:=by rfl) (hN:oi.dst=N:=by rfl) (hc:readyB md ops l l' i=true:=by exact one_of HT_.out (by kernel_rfl)) (hd:i ∉ ds:=by decide)
    (h:∀K:Act->World->Prop,Shut (∀a' w',S w'->(S w'->wpAnyLast P md ops Q S ds fuel l' a' w')->K a' w')->if Region.wanted oi (yielded ops a.tmps)=true then Oper.wp P oi a w K Q else K (a.put N undef) w):
    wpAnyLast P md ops Q S ds (fuel+1) l a w:=one_ l' hi hN hc hd h
theorem gV {oi:Oper} {N:Option Tmp} {a:Act} {w:World} {K:Act->World->Prop} {f:FuncId} {fn:Func} {as_:Array Operand} {ts:Array TypeId} (hf:P.funcs[f]? =some fn) (args:Array Value) (hname:(fn.name== "runtime.NumGoroutine")=false:=by kernel_rfl) (hb:fn.body.isSome=true:=by rfl)
    (hw:Region.wanted oi (yielded ops a.tmps)=true:=by rfl) (hN:oi.dst=N:=by rfl) (hop:oi.op= .call {callee:= .value (.func f),args:=as_,argTypes:=ts} :=by rfl) (hargs:as_.map a.eval=args:=by(try simp only[List.map_toArray,List.map_cons,List.map_nil]);first|done|rfl|(simp only[List.length_drop,List.length_take];rfl))
    (h:Calls P f args w λe w'=>∃v,e= .returned v/\K (a.put N v) w'):if Region.wanted oi (yielded ops a.tmps)=true then Oper.wp P oi a w K Q else K (a.put N undef) w:=goes_ hf hname hb args hw hN hop hargs h
theorem tV (i:Nat) (N:Option Tmp) {oi:Oper} {v:Value} {fuel:Nat} {l:Array Bool} {a:Act} {w:World} (l':Array Bool) (hi:ops[i]? =some oi:=by rfl) (hN:oi.dst=N:=by rfl) (hc:takeB md ops ds l l' i=true:=by exact take_ofW HT_.out HW_.out (by kernel_rfl))
    (hQ:∀c a w,Q (.panic c) (a.put oi.dst v) w->Q (.panic c) a w:=by exact λ_ _ _ h=>h) (hy:YieldsIf P ops S oi v a) (hS:S w:=by exact hHeld) {a':Act} (ha:a.put N v=a':=by simp only[Act.put,List.setIfInBounds_toArray,List.set_cons_zero,List.set_cons_succ,i64_w,i32_w];rfl)
    (h:wpAnyLast P md ops Q S ds fuel l' a' w):wpAnyLast P md ops Q S ds (fuel+1) l a w:=take_ l' hi hN hc hQ hy hS ha h
end
section
variable {P : Program} {ops : Array Oper} {rest : List Oper} {o : Oper} {a : Act} {Q : Exit → Act → World → Prop}
theorem bxV {W:World} {N:Tmp} {cs:Array Value} {t:TypeId} (hgd:o.guard=none:=by rfl) (hd:o.dst=some N:=by rfl)
    (hrun:(execOp a.eval o).run P W= .ok (.value (.pointer (some ⟨W.heap.size,0,none⟩))) (W.alloc (.cells cs t (0,0))):=by first|(go_simp;done)|(go_simp;rfl))
    (h:∀g,g=W.heap.size->∀w1,w1.heap[g]? =some (.cells cs t (0,0))->Below W.heap.size W w1->wpList P ops Q rest (a.put o.dst (.pointer (some ⟨g,0,none⟩))) w1):wpList P ops Q (o::rest) a W:=box_event hgd hd hrun h
theorem stV {W w1:World} {t:TypeId} {p:Tmp} {v:Operand} (hgd:o.guard=none:=by rfl) (ho:o.op= .store t (.tmp p) v:=by rfl) (hN:o.dst=none:=by rfl)
    (hrun:(execOp a.eval o).run P W= .ok .skip w1:=by first|(go_simp;done)|(go_simp;rfl)) (h:∀w',w'=w1->wpList P ops Q rest a w'):wpList P ops Q (o::rest) a W:=store_event hgd ho hN hrun h
theorem cLV {w:World} (N:Option Tmp) {f:FuncId} {fn:Func} {as_:Array Operand} {ts:Array TypeId} (hf:P.funcs[f]? =some fn) (args:Array Value) (hd:o.dst=N:=by rfl) (hg:o.guard=none:=by rfl) (hname:(fn.name== "runtime.NumGoroutine")=false:=by kernel_rfl) (hb:fn.body.isSome=true:=by rfl)
    (hop:o.op= .call {callee:= .value (.func f),args:=as_,argTypes:=ts} :=by rfl) (hargs:as_.map a.eval=args:=by(try simp only[List.map_toArray,List.map_cons,List.map_nil]);first|done|rfl|(simp only[List.length_drop,List.length_take];rfl))
    (h:Calls P f args w λe w'=>∃v,e= .returned v/\wpList P ops Q rest (a.put N v) w'):wpList P ops Q (o::rest) a w:=goesL_ N hd hg hf hname hb args hop hargs h
end
theorem bsE {α β:Type} {o:Option α} {f:α->Option β} {r:β} (h:o.bind f=some r):∃x,o=some x/\f x=some r:=Option.bind_eq_some_iff.mp h
theorem hB {w w':World} {p:Addr} {v:Value} (h:Aside0 (Below w.heap.size w w')) (x:w.cell? p=some v):w'.cell? p=some v:=(h.out.cell (World.block_lt_of_cell? w _ x)).trans x
theorem bc1 {w:World} {g:Nat} {t:TypeId} {c0:Value} (h:w.heap[g]? =some (.cells #[c0] t (0,0))):w.cell? ⟨g,0,none⟩=some c0:=(blk_cell h 0).trans rfl
theorem bc2 {w:World} {g:Nat} {t:TypeId} {c0 c1:Value} (h:w.heap[g]? =some (.cells #[c0,c1] t (0,0))):w.cell? ⟨g,0,none⟩=some c0/\w.cell? ⟨g,1,none⟩=some c1:=⟨(blk_cell h 0).trans rfl,(blk_cell h 1).trans rfl⟩
theorem bc3 {w:World} {g:Nat} {t:TypeId} {c0 c1 c2:Value} (h:w.heap[g]? =some (.cells #[c0,c1,c2] t (0,0))):w.cell? ⟨g,0,none⟩=some c0/\w.cell? ⟨g,1,none⟩=some c1/\w.cell? ⟨g,2,none⟩=some c2:=⟨(blk_cell h 0).trans rfl,(blk_cell h 1).trans rfl,(blk_cell h 2).trans rfl⟩
theorem bc4 {w:World} {g:Nat} {t:TypeId} {c0 c1 c2 c3:Value} (h:w.heap[g]? =some (.cells #[c0,c1,c2,c3] t (0,0))):w.cell? ⟨g,0,none⟩=some c0/\w.cell? ⟨g,1,none⟩=some c1/\w.cell? ⟨g,2,none⟩=some c2/\w.cell? ⟨g,3,none⟩=some c3:=⟨(blk_cell h 0).trans rfl,(blk_cell h 1).trans rfl,(blk_cell h 2).trans rfl,(blk_cell h 3).trans rfl⟩
theorem bc5 {w:World} {g:Nat} {t:TypeId} {c0 c1 c2 c3 c4:Value} (h:w.heap[g]? =some (.cells #[c0,c1,c2,c3,c4] t (0,0))):w.cell? ⟨g,0,none⟩=some c0/\w.cell? ⟨g,1,none⟩=some c1/\w.cell? ⟨g,2,none⟩=some c2/\w.cell? ⟨g,3,none⟩=some c3/\w.cell? ⟨g,4,none⟩=some c4:=⟨(blk_cell h 0).trans rfl,(blk_cell h 1).trans rfl,(blk_cell h 2).trans rfl,(blk_cell h 3).trans rfl,(blk_cell h 4).trans rfl⟩
variable {P : Prop}
theorem mA (h:P:=by repeat (first|(with_reducible first|exact HB.out|apply below_alloc|apply pw_below_drewN|apply below_drew1)|exact HB.out)):P:=h
theorem mB (h:P:=by(with_reducible repeat (first|refine blk_drewN ?_ _|refine blk_drew ?_ |refine blk_alloc ?_ _));exact B0.out):P:=h
theorem mC (h:P:=by repeat (first|(with_reducible first|exact HB.out|apply below_alloc|apply pw_below_drewN|apply below_drew1|refine below_set ?_ G1.out)|exact HB.out)):P:=h
theorem mD (h:P:=by repeat (first|(with_reducible first|exact HB.out|apply below_alloc|apply pw_below_drewN|apply below_drew1|refine below_set ?_ G1.out|refine below_set ?_ G3.out)|exact HB.out)):P:=h
theorem mE (h:P:=by first|(with_reducible assumption)|assumption):P:=h
theorem mF (h:P:=by rw[hw];exact(by(with_reducible repeat (first|refine blk_drewN ?_ _|refine blk_drew ?_ |refine blk_alloc ?_ _));refine blk_put (cs:=#[.int .i64 t0,.int .i64 t1,.slice none 0 0,.slice none 0 0,.slice none 0 0]) ?_ 4 _ rfl;(with_reducible repeat (first|refine blk_drewN ?_ _|refine blk_drew ?_ |refine blk_alloc ?_ _));refine blk_put (cs:=#[.int .i64 t0,.int .i64 t1,.slice none 0 0,.slice none 0 0,.slice none 0 0]) ?_ 3 _ rfl;(with_reducible repeat (first|refine blk_drewN ?_ _|refine blk_drew ?_ |refine blk_alloc ?_ _));refine blk_put (cs:=#[.int .i64 t0,.int .i64 t1,.slice none 0 0,.slice none 0 0,.slice none 0 0]) ?_ 2 _ rfl;(with_reducible repeat (first|refine blk_drewN ?_ _|refine blk_drew ?_ |refine blk_alloc ?_ _));refine blk_put (cs:=#[.int .i64 t0,.int .i64 0,.slice none 0 0,.slice none 0 0,.slice none 0 0]) ?_ 1 _ rfl;(with_reducible repeat (first|refine blk_drewN ?_ _|refine blk_drew ?_ |refine blk_alloc ?_ _));refine blk_put (cs:=#[.int .i64 0,.int .i64 0,.slice none 0 0,.slice none 0 0,.slice none 0 0]) ?_ 0 _ rfl;(with_reducible repeat (first|refine blk_drewN ?_ _|refine blk_drew ?_ |refine blk_alloc ?_ _));exact B1.out)):P:=h
theorem mG (h:P:=by rw[hw];exact(by(with_reducible repeat (first|refine blk_drewN ?_ _|refine blk_drew ?_ |refine blk_alloc ?_ _));refine blk_far ?_ N0.out _;(with_reducible repeat (first|refine blk_drewN ?_ _|refine blk_drew ?_ |refine blk_alloc ?_ _));refine blk_far ?_ N0.out _;(with_reducible repeat (first|refine blk_drewN ?_ _|refine blk_drew ?_ |refine blk_alloc ?_ _));refine blk_far ?_ N0.out _;(with_reducible repeat (first|refine blk_drewN ?_ _|refine blk_drew ?_ |refine blk_alloc ?_ _));refine blk_far ?_ N0.out _;(with_reducible repeat (first|refine blk_drewN ?_ _|refine blk_drew ?_ |refine blk_alloc ?_ _));refine blk_far ?_ N0.out _;(with_reducible repeat (first|refine blk_drewN ?_ _|refine blk_drew ?_ |refine blk_alloc ?_ _));exact B0.out)):P:=h
theorem mH (h:P:=by rw[hw];exact(by(with_reducible repeat (first|refine blk_drewN ?_ _|refine blk_drew ?_ |refine blk_alloc ?_ _));refine blk_far ?_ N1.out _;(with_reducible repeat (first|refine blk_drewN ?_ _|refine blk_drew ?_ |refine blk_alloc ?_ _));refine blk_far ?_ N1.out _;(with_reducible repeat (first|refine blk_drewN ?_ _|refine blk_drew ?_ |refine blk_alloc ?_ _));refine blk_far ?_ N1.out _;(with_reducible repeat (first|refine blk_drewN ?_ _|refine blk_drew ?_ |refine blk_alloc ?_ _));refine blk_far ?_ N1.out _;(with_reducible repeat (first|refine blk_drewN ?_ _|refine blk_drew ?_ |refine blk_alloc ?_ _));refine blk_far ?_ N1.out _;(with_reducible repeat (first|refine blk_drewN ?_ _|refine blk_drew ?_ |refine blk_alloc ?_ _));exact B1.out)):P:=h
theorem mI (h:P:=by rw[hw];exact(by(with_reducible repeat (first|refine blk_drewN ?_ _|refine blk_drew ?_ |refine blk_alloc ?_ _));refine blk_put (cs:=#[.int .i64 0,.int .i64 0,.slice none 0 0,.slice none 0 0,.slice none 0 0]) ?_ 4 _ rfl;(with_reducible repeat (first|refine blk_drewN ?_ _|refine blk_drew ?_ |refine blk_alloc ?_ _));refine blk_put (cs:=#[.int .i64 0,.int .i64 0,.slice none 0 0,.slice none 0 0,.slice none 0 0]) ?_ 3 _ rfl;(with_reducible repeat (first|refine blk_drewN ?_ _|refine blk_drew ?_ |refine blk_alloc ?_ _));refine blk_put (cs:=#[.int .i64 0,.int .i64 0,.slice none 0 0,.slice none 0 0,.slice none 0 0]) ?_ 2 _ rfl;(with_reducible repeat (first|refine blk_drewN ?_ _|refine blk_drew ?_ |refine blk_alloc ?_ _));refine blk_put (cs:=#[.int .i64 0,.int .i64 0,.slice none 0 0,.slice none 0 0,.slice none 0 0]) ?_ 1 _ rfl;(with_reducible repeat (first|refine blk_drewN ?_ _|refine blk_drew ?_ |refine blk_alloc ?_ _));refine blk_put (cs:=#[.int .i64 0,.int .i64 0,.slice none 0 0,.slice none 0 0,.slice none 0 0]) ?_ 0 _ rfl;(with_reducible repeat (first|refine blk_drewN ?_ _|refine blk_drew ?_ |refine blk_alloc ?_ _));exact B0.out)):P:=h
theorem mJ (h:P:=by rw[hg];exact(below_size mA)):P:=h
theorem mK (h:P:=by first|rfl|(simp;done)|(simp[*];done)):P:=h
theorem mL (h:P:=by(with_reducible repeat (first|refine blk_drewN ?_ _|refine blk_drew ?_ |refine blk_alloc ?_ _));exact B1.out):P:=h
theorem mM (h:P:=by rw[hw];exact(by(with_reducible repeat (first|refine blk_drewN ?_ _|refine blk_drew ?_ |refine blk_alloc ?_ _));refine blk_put (cs:=#[.int .i64 0,.int .i64 0,.int .i64 0,.slice none 0 0]) ?_ 3 _ rfl;(with_reducible repeat (first|refine blk_drewN ?_ _|refine blk_drew ?_ |refine blk_alloc ?_ _));refine blk_put (cs:=#[.int .i64 0,.int .i64 0,.int .i64 0,.slice none 0 0]) ?_ 2 _ rfl;(with_reducible repeat (first|refine blk_drewN ?_ _|refine blk_drew ?_ |refine blk_alloc ?_ _));refine blk_put (cs:=#[.int .i64 0,.int .i64 0,.int .i64 0,.slice none 0 0]) ?_ 1 _ rfl;(with_reducible repeat (first|refine blk_drewN ?_ _|refine blk_drew ?_ |refine blk_alloc ?_ _));refine blk_put (cs:=#[.int .i64 0,.int .i64 0,.int .i64 0,.slice none 0 0]) ?_ 0 _ rfl;(with_reducible repeat (first|refine blk_drewN ?_ _|refine blk_drew ?_ |refine blk_alloc ?_ _));exact B0.out)):P:=h
theorem mN (h:P:=by(with_reducible repeat (first|apply Kd.R_alloc|apply Kd.R_drewN|apply Kd.R_drew));exact O0.out):P:=h
theorem mO (h:P:=by rw[hw];exact(by(with_reducible repeat (first|refine blk_drewN ?_ _|refine blk_drew ?_ |refine blk_alloc ?_ _));refine blk_put (cs:=#[.int .i64 ((rd_T45 l0 x1).f0),.int .i64 ((rd_T45 l0 x1).f1),.int .i64 ((rd_T45 l0 x1).f2),.slice none 0 0]) ?_ 3 _ rfl;(with_reducible repeat (first|refine blk_drewN ?_ _|refine blk_drew ?_ |refine blk_alloc ?_ _));refine blk_put (cs:=#[.int .i64 ((rd_T45 l0 x1).f0),.int .i64 ((rd_T45 l0 x1).f1),.int .i64 0,.slice none 0 0]) ?_ 2 _ rfl;(with_reducible repeat (first|refine blk_drewN ?_ _|refine blk_drew ?_ |refine blk_alloc ?_ _));refine blk_put (cs:=#[.int .i64 ((rd_T45 l0 x1).f0),.int .i64 0,.int .i64 0,.slice none 0 0]) ?_ 1 _ rfl;(with_reducible repeat (first|refine blk_drewN ?_ _|refine blk_drew ?_ |refine blk_alloc ?_ _));refine blk_put (cs:=#[.int .i64 0,.int .i64 0,.int .i64 0,.slice none 0 0]) ?_ 0 _ rfl;(with_reducible repeat (first|refine blk_drewN ?_ _|refine blk_drew ?_ |refine blk_alloc ?_ _));exact B0.out)):P:=h
theorem mP (h:P:=by rw[hw];exact(by(with_reducible repeat (first|refine blk_drewN ?_ _|refine blk_drew ?_ |refine blk_alloc ?_ _));refine blk_put (cs:=#[.int .i64 ((rd_T47 l0 x1).f0),.int .i64 ((rd_T47 l0 x1).f1),.int .i64 ((rd_T47 l0 x1).f2),.int .i64 0]) ?_ 3 _ rfl;(with_reducible repeat (first|refine blk_drewN ?_ _|refine blk_drew ?_ |refine blk_alloc ?_ _));refine blk_put (cs:=#[.int .i64 ((rd_T47 l0 x1).f0),.int .i64 ((rd_T47 l0 x1).f1),.int .i64 0,.int .i64 0]) ?_ 2 _ rfl;(with_reducible repeat (first|refine blk_drewN ?_ _|refine blk_drew ?_ |refine blk_alloc ?_ _));refine blk_put (cs:=#[.int .i64 ((rd_T47 l0 x1).f0),.int .i64 0,.int .i64 0,.int .i64 0]) ?_ 1 _ rfl;(with_reducible repeat (first|refine blk_drewN ?_ _|refine blk_drew ?_ |refine blk_alloc ?_ _));refine blk_put (cs:=#[.int .i64 0,.int .i64 0,.int .i64 0,.int .i64 0]) ?_ 0 _ rfl;(with_reducible repeat (first|refine blk_drewN ?_ _|refine blk_drew ?_ |refine blk_alloc ?_ _));exact B0.out)):P:=h
theorem mQ (h:P:=by rw[hw];exact(by(with_reducible repeat (first|refine blk_drewN ?_ _|refine blk_drew ?_ |refine blk_alloc ?_ _));refine blk_far ?_ N1.out _;(with_reducible repeat (first|refine blk_drewN ?_ _|refine blk_drew ?_ |refine blk_alloc ?_ _));refine blk_far ?_ N1.out _;(with_reducible repeat (first|refine blk_drewN ?_ _|refine blk_drew ?_ |refine blk_alloc ?_ _));refine blk_far ?_ N1.out _;(with_reducible repeat (first|refine blk_drewN ?_ _|refine blk_drew ?_ |refine blk_alloc ?_ _));refine blk_far ?_ N1.out _;(with_reducible repeat (first|refine blk_drewN ?_ _|refine blk_drew ?_ |refine blk_alloc ?_ _));exact B1.out)):P:=h
theorem mR (h:P:=by repeat (first|(with_reducible first|exact HB.out|apply below_alloc|apply pw_below_drewN|apply below_drew1|refine below_set ?_ G0.out)|exact HB.out)):P:=h
theorem mS (h:P:=by(with_reducible repeat (first|refine blk_drewN ?_ _|refine blk_drew ?_ |refine blk_alloc ?_ _));exact B2.out):P:=h
theorem mT (h:P:=by rw[hg];exact(below_size mC)):P:=h
theorem mU (h:P:=by rw[hw];exact(by(with_reducible repeat (first|refine blk_drewN ?_ _|refine blk_drew ?_ |refine blk_alloc ?_ _));refine blk_far ?_ N0.out _;(with_reducible repeat (first|refine blk_drewN ?_ _|refine blk_drew ?_ |refine blk_alloc ?_ _));exact B0.out)):P:=h
theorem mV (h:P:=by rw[hw];exact(by(with_reducible repeat (first|refine blk_drewN ?_ _|refine blk_drew ?_ |refine blk_alloc ?_ _));refine blk_put (cs:=#[.int .i64 ((rd_T109 l0 x2).f0),.int .i64 0]) ?_ 1 _ rfl;(with_reducible repeat (first|refine blk_drewN ?_ _|refine blk_drew ?_ |refine blk_alloc ?_ _));refine blk_put (cs:=#[.int .i64 0,.int .i64 0]) ?_ 0 _ rfl;(with_reducible repeat (first|refine blk_drewN ?_ _|refine blk_drew ?_ |refine blk_alloc ?_ _));exact B0.out)):P:=h
theorem mW (h:P:=by rw[hw];exact(by(with_reducible repeat (first|refine blk_drewN ?_ _|refine blk_drew ?_ |refine blk_alloc ?_ _));refine blk_put (cs:=#[.int .i64 t0,.int .i64 t1,.int .i64 t2,.slice none 0 0]) ?_ 3 _ rfl;(with_reducible repeat (first|refine blk_drewN ?_ _|refine blk_drew ?_ |refine blk_alloc ?_ _));refine blk_put (cs:=#[.int .i64 t0,.int .i64 t1,.int .i64 0,.slice none 0 0]) ?_ 2 _ rfl;(with_reducible repeat (first|refine blk_drewN ?_ _|refine blk_drew ?_ |refine blk_alloc ?_ _));refine blk_put (cs:=#[.int .i64 t0,.int .i64 0,.int .i64 0,.slice none 0 0]) ?_ 1 _ rfl;(with_reducible repeat (first|refine blk_drewN ?_ _|refine blk_drew ?_ |refine blk_alloc ?_ _));refine blk_put (cs:=#[.int .i64 0,.int .i64 0,.int .i64 0,.slice none 0 0]) ?_ 0 _ rfl;(with_reducible repeat (first|refine blk_drewN ?_ _|refine blk_drew ?_ |refine blk_alloc ?_ _));exact B0.out)):P:=h
theorem mX (h:P:=by(with_reducible repeat (first|apply Kd.R_alloc|apply Kd.R_drewN|apply Kd.R_drew));exact O1.out):P:=h
theorem mY (h:P:=by(with_reducible repeat (first|apply Kd.R_alloc|apply Kd.R_drewN|apply Kd.R_drew));exact O3.out):P:=h
theorem mZ (h:P:=by repeat (first|(with_reducible first|exact HB.out|apply below_alloc|apply pw_below_drewN|apply below_drew1|refine below_set ?_ G1.out|refine below_set ?_ G3.out|refine below_set ?_ G5.out)|exact HB.out)):P:=h
theorem mAA (h:P:=by repeat (first|(with_reducible first|exact HB.out|apply below_alloc|apply pw_below_drewN|apply below_drew1|refine below_set ?_ G1.out|refine below_set ?_ G3.out|refine below_set ?_ G5.out|refine below_set ?_ G7.out)|exact HB.out)):P:=h
theorem mAB (h:P:=by rw[hg];exact Nat.ne_of_lt (blk_lt (g:=g0) (o:= .cells #[.int .i64 0,.int .i64 0,.slice none 0 0,.slice none 0 0,.slice none 0 0] 26 (0,0)) mB)):P:=h
theorem mAC (h:P:=by rw[hg];exact Nat.ne_of_gt (blk_lt (g:=g0) (o:= .cells #[.int .i64 0,.int .i64 0,.slice none 0 0,.slice none 0 0,.slice none 0 0] 26 (0,0)) mB)):P:=h
theorem mAD (h:P:=by kernel_rfl):P:=h
theorem mAE (h:P:=by rw[hw];exact(by(with_reducible repeat (first|apply Kd.R_alloc|apply Kd.R_drewN|apply Kd.R_drew));exact Kd.R_mono (Kd.R_far (p:=⟨g0,3,none⟩) (Kd.R_far (p:=⟨g0,2,none⟩) (Kd.R_far (p:=⟨g0,1,none⟩) (Kd.R_far (p:=⟨g0,0,none⟩) (Kd.R_types O0.out B0.out (by decide)) (λ_ hk=>hk.2) (.int .i64 0)) (λ_ hk=>hk.2) (.int .i64 0)) (λ_ hk=>hk.2) (.int .i64 0)) (λ_ hk=>hk.2) (.slice none 0 0)) (λ_ hk=>trivial))):P:=h
theorem mAF (h:P:=by(with_reducible repeat (first|apply Kd.S_alloc|apply Kd.S_drewN|apply Kd.S_drew));exact O0.out):P:=h
theorem mAG (h:P:=by rw[hg];exact Nat.ne_of_lt (blk_lt (g:=g0) (o:= .cells #[.int .i64 a0_0,.int .i64 a0_1,.slice A0_2 l0_2.length c0_2,.slice A0_3 l0_3.length c0_3,.slice A0_4 l0_4.length c0_4] 26 (0,0)) mB)):P:=h
theorem mAH (h:P:=by rw[hg];exact Nat.ne_of_gt (blk_lt (g:=g0) (o:= .cells #[.int .i64 a0_0,.int .i64 a0_1,.slice A0_2 l0_2.length c0_2,.slice A0_3 l0_3.length c0_3,.slice A0_4 l0_4.length c0_4] 26 (0,0)) mB)):P:=h
theorem mAI (h:P:=by rw[hw];exact(by(with_reducible repeat (first|refine blk_drewN ?_ _|refine blk_drew ?_ |refine blk_alloc ?_ _));refine blk_put (cs:=#[.int .i64 t0,.int .i64 t1,.slice s0 t4.length s1,.slice none 0 0,.slice none 0 0]) ?_ 4 _ rfl;(with_reducible repeat (first|refine blk_drewN ?_ _|refine blk_drew ?_ |refine blk_alloc ?_ _));refine blk_put (cs:=#[.int .i64 t0,.int .i64 t1,.slice s0 t4.length s1,.slice none 0 0,.slice none 0 0]) ?_ 3 _ rfl;(with_reducible repeat (first|refine blk_drewN ?_ _|refine blk_drew ?_ |refine blk_alloc ?_ _));refine blk_put (cs:=#[.int .i64 t0,.int .i64 t1,.slice none 0 0,.slice none 0 0,.slice none 0 0]) ?_ 2 _ rfl;(with_reducible repeat (first|refine blk_drewN ?_ _|refine blk_drew ?_ |refine blk_alloc ?_ _));refine blk_put (cs:=#[.int .i64 t0,.int .i64 0,.slice none 0 0,.slice none 0 0,.slice none 0 0]) ?_ 1 _ rfl;(with_reducible repeat (first|refine blk_drewN ?_ _|refine blk_drew ?_ |refine blk_alloc ?_ _));refine blk_put (cs:=#[.int .i64 0,.int .i64 0,.slice none 0 0,.slice none 0 0,.slice none 0 0]) ?_ 0 _ rfl;(with_reducible repeat (first|refine blk_drewN ?_ _|refine blk_drew ?_ |refine blk_alloc ?_ _));exact B0.out)):P:=h
theorem mAJ (h:P:=by(with_reducible repeat (first|apply Kd.S_alloc|apply Kd.S_drewN|apply Kd.S_drew));exact O2.out):P:=h
theorem mAK (h:P:=by rw[hw];exact(by(with_reducible repeat (first|refine blk_drewN ?_ _|refine blk_drew ?_ |refine blk_alloc ?_ _));refine blk_put (cs:=#[.int .i64 t0,.int .i64 t1,.slice none 0 0,.slice s6 t6.length s7,.slice none 0 0]) ?_ 4 _ rfl;(with_reducible repeat (first|refine blk_drewN ?_ _|refine blk_drew ?_ |refine blk_alloc ?_ _));refine blk_put (cs:=#[.int .i64 t0,.int .i64 t1,.slice none 0 0,.slice none 0 0,.slice none 0 0]) ?_ 3 _ rfl;(with_reducible repeat (first|refine blk_drewN ?_ _|refine blk_drew ?_ |refine blk_alloc ?_ _));refine blk_put (cs:=#[.int .i64 t0,.int .i64 t1,.slice none 0 0,.slice none 0 0,.slice none 0 0]) ?_ 2 _ rfl;(with_reducible repeat (first|refine blk_drewN ?_ _|refine blk_drew ?_ |refine blk_alloc ?_ _));refine blk_put (cs:=#[.int .i64 t0,.int .i64 0,.slice none 0 0,.slice none 0 0,.slice none 0 0]) ?_ 1 _ rfl;(with_reducible repeat (first|refine blk_drewN ?_ _|refine blk_drew ?_ |refine blk_alloc ?_ _));refine blk_put (cs:=#[.int .i64 0,.int .i64 0,.slice none 0 0,.slice none 0 0,.slice none 0 0]) ?_ 0 _ rfl;(with_reducible repeat (first|refine blk_drewN ?_ _|refine blk_drew ?_ |refine blk_alloc ?_ _));exact B0.out)):P:=h
theorem mAL (h:P:=by rw[hw];exact(by(with_reducible repeat (first|refine blk_drewN ?_ _|refine blk_drew ?_ |refine blk_alloc ?_ _));refine blk_put (cs:=#[.int .i64 t0,.int .i64 t1,.slice none 0 0,.slice none 0 0,.slice none 0 0]) ?_ 4 _ rfl;(with_reducible repeat (first|refine blk_drewN ?_ _|refine blk_drew ?_ |refine blk_alloc ?_ _));refine blk_put (cs:=#[.int .i64 t0,.int .i64 t1,.slice none 0 0,.slice none 0 0,.slice none 0 0]) ?_ 3 _ rfl;(with_reducible repeat (first|refine blk_drewN ?_ _|refine blk_drew ?_ |refine blk_alloc ?_ _));refine blk_put (cs:=#[.int .i64 t0,.int .i64 t1,.slice none 0 0,.slice none 0 0,.slice none 0 0]) ?_ 2 _ rfl;(with_reducible repeat (first|refine blk_drewN ?_ _|refine blk_drew ?_ |refine blk_alloc ?_ _));refine blk_put (cs:=#[.int .i64 t0,.int .i64 0,.slice none 0 0,.slice none 0 0,.slice none 0 0]) ?_ 1 _ rfl;(with_reducible repeat (first|refine blk_drewN ?_ _|refine blk_drew ?_ |refine blk_alloc ?_ _));refine blk_put (cs:=#[.int .i64 0,.int .i64 0,.slice none 0 0,.slice none 0 0,.slice none 0 0]) ?_ 0 _ rfl;(with_reducible repeat (first|refine blk_drewN ?_ _|refine blk_drew ?_ |refine blk_alloc ?_ _));exact B0.out)):P:=h
theorem mAM (h:P:=by simp):P:=h
theorem mAN (h:P:=by rw[hw];exact(by(with_reducible repeat (first|refine blk_drewN ?_ _|refine blk_drew ?_ |refine blk_alloc ?_ _));refine blk_put (cs:=#[.int .i64 t0,.int .i64 t1,.slice none 0 0,.slice none 0 0,.slice none 0 0]) ?_ 4 _ rfl;(with_reducible repeat (first|refine blk_drewN ?_ _|refine blk_drew ?_ |refine blk_alloc ?_ _));exact B1.out)):P:=h
theorem mAO (h:P:=by rw[hw];exact(by(with_reducible repeat (first|refine blk_drewN ?_ _|refine blk_drew ?_ |refine blk_alloc ?_ _));refine blk_put (cs:=#[.int .i64 t0,.int .i64 t1,.slice none 0 0,.slice none 0 0,.slice none 0 0]) ?_ 3 _ rfl;(with_reducible repeat (first|refine blk_drewN ?_ _|refine blk_drew ?_ |refine blk_alloc ?_ _));exact B1.out)):P:=h
theorem mAP (h:P:=by rw[hw];exact(by(with_reducible repeat (first|refine blk_drewN ?_ _|refine blk_drew ?_ |refine blk_alloc ?_ _));refine blk_put (cs:=#[.int .i64 t0,.int .i64 t1,.slice none 0 0,.slice none 0 0,.slice none 0 0]) ?_ 2 _ rfl;(with_reducible repeat (first|refine blk_drewN ?_ _|refine blk_drew ?_ |refine blk_alloc ?_ _));exact B1.out)):P:=h
theorem mAQ (h:P:=by decide):P:=h
theorem mAR (h:P:=by rw[hw];exact mD):P:=h
theorem mAS (h:P:=by simp only[putAll,Act.put,List.setIfInBounds_toArray,List.set_cons_zero,List.set_cons_succ]):P:=h
theorem mAT (h:P:=by(try simp only[List.map_toArray,List.map_cons,List.map_nil]);first|done|(simp only[j4];rfl)|(simp only[j4,ByteArray.size_extract,Nat.min_self];done)|(simp only[j4,ByteArray.size_extract,Nat.min_self];rfl)|(simp only[ByteArray.size_extract,Nat.min_self];done)|(simp only[ByteArray.size_extract,Nat.min_self];rfl)|rfl|(simp only[List.length_drop,List.length_take];rfl)):P:=h
theorem mAU (h:P:=by rw[hw];exact(by(with_reducible repeat (first|refine blk_drewN ?_ _|refine blk_drew ?_ |refine blk_alloc ?_ _));refine blk_far ?_ N4.out _;(with_reducible repeat (first|refine blk_drewN ?_ _|refine blk_drew ?_ |refine blk_alloc ?_ _));refine blk_far ?_ N4.out _;(with_reducible repeat (first|refine blk_drewN ?_ _|refine blk_drew ?_ |refine blk_alloc ?_ _));refine blk_far ?_ N4.out _;(with_reducible repeat (first|refine blk_drewN ?_ _|refine blk_drew ?_ |refine blk_alloc ?_ _));refine blk_far ?_ N4.out _;(with_reducible repeat (first|refine blk_drewN ?_ _|refine blk_drew ?_ |refine blk_alloc ?_ _));refine blk_far ?_ N4.out _;(with_reducible repeat (first|refine blk_drewN ?_ _|refine blk_drew ?_ |refine blk_alloc ?_ _));exact B1.out)):P:=h
theorem mAV (h:P:=by rw[hw];exact(by(with_reducible repeat (first|refine blk_drewN ?_ _|refine blk_drew ?_ |refine blk_alloc ?_ _));refine blk_far ?_ N2.out _;(with_reducible repeat (first|refine blk_drewN ?_ _|refine blk_drew ?_ |refine blk_alloc ?_ _));refine blk_far ?_ N2.out _;(with_reducible repeat (first|refine blk_drewN ?_ _|refine blk_drew ?_ |refine blk_alloc ?_ _));refine blk_far ?_ N2.out _;(with_reducible repeat (first|refine blk_drewN ?_ _|refine blk_drew ?_ |refine blk_alloc ?_ _));refine blk_far ?_ N2.out _;(with_reducible repeat (first|refine blk_drewN ?_ _|refine blk_drew ?_ |refine blk_alloc ?_ _));refine blk_far ?_ N2.out _;(with_reducible repeat (first|refine blk_drewN ?_ _|refine blk_drew ?_ |refine blk_alloc ?_ _));exact B0.out)):P:=h
theorem mAW (h:P:=by rw[hg];exact Nat.ne_of_lt (blk_lt (g:=g0) (o:= .cells #[.int .i64 0,.int .i64 0,.int .i64 0,.slice none 0 0] 45 (0,0)) mB)):P:=h
theorem mAX (h:P:=by rw[hg];exact Nat.ne_of_gt (blk_lt (g:=g0) (o:= .cells #[.int .i64 0,.int .i64 0,.int .i64 0,.slice none 0 0] 45 (0,0)) mB)):P:=h
theorem mAY (h:P:=by rw[hg];exact Nat.ne_of_lt (blk_lt (g:=g0) (o:= .cells #[.int .i64 a0_0,.int .i64 a0_1,.int .i64 a0_2,.slice A0_3 l0_3.length c0_3] 45 (0,0)) mB)):P:=h
theorem mAZ (h:P:=by rw[hg];exact Nat.ne_of_gt (blk_lt (g:=g0) (o:= .cells #[.int .i64 a0_0,.int .i64 a0_1,.int .i64 a0_2,.slice A0_3 l0_3.length c0_3] 45 (0,0)) mB)):P:=h
theorem mBA (h:P:=by(with_reducible repeat (first|apply Kd.S_alloc|apply Kd.S_drewN|apply Kd.S_drew));exact O1.out):P:=h
theorem mBB (h:P:=by(with_reducible repeat (first|apply Kd.R_alloc|apply Kd.R_drewN|apply Kd.R_drew));exact O2.out):P:=h
theorem mBC (h:P:=by rw[hw];exact(by(with_reducible repeat (first|apply Kd.S_alloc|apply Kd.S_drewN|apply Kd.S_drew));exact Kd.S_mono (Kd.S_far (p:=⟨g0,4,none⟩) (Kd.S_far (p:=⟨g0,3,none⟩) (Kd.S_far (p:=⟨g0,2,none⟩) (Kd.S_far (p:=⟨g0,1,none⟩) (Kd.S_far (p:=⟨g0,0,none⟩) (Kd.S_types O1.out B0.out mAQ) (λ_ hk=>hk.2) (.int .i64 t0)) (λ_ hk=>hk.2) (.int .i64 t1)) (λ_ hk=>hk.2) (.slice none 0 0)) (λ_ hk=>hk.2) (.slice s6 t6.length s7)) (λ_ hk=>hk.2) (.slice none 0 0)) (λ_ hk=>trivial))):P:=h
theorem mBD (h:P:=by rw[hw];exact(by(with_reducible repeat (first|apply Kd.R_alloc|apply Kd.R_drewN|apply Kd.R_drew));exact Kd.R_mono (Kd.R_far (p:=⟨g0,4,none⟩) (Kd.R_far (p:=⟨g0,3,none⟩) (Kd.R_far (p:=⟨g0,2,none⟩) (Kd.R_far (p:=⟨g0,1,none⟩) (Kd.R_far (p:=⟨g0,0,none⟩) (Kd.R_types O2.out B0.out mAQ) (λ_ hk=>hk.2) (.int .i64 t0)) (λ_ hk=>hk.2) (.int .i64 t1)) (λ_ hk=>hk.2) (.slice none 0 0)) (λ_ hk=>hk.2) (.slice none 0 0)) (λ_ hk=>hk.2) (.slice sc t8.length sd)) (λ_ hk=>trivial))):P:=h
theorem mBE (h:P:=by rw[hw];exact(by(with_reducible repeat (first|apply Kd.R_alloc|apply Kd.R_drewN|apply Kd.R_drew));exact Kd.R_mono (Kd.R_far (p:=⟨g0,4,none⟩) (Kd.R_far (p:=⟨g0,3,none⟩) (Kd.R_far (p:=⟨g0,2,none⟩) (Kd.R_far (p:=⟨g0,1,none⟩) (Kd.R_far (p:=⟨g0,0,none⟩) (Kd.R_types O0.out B0.out mAQ) (λ_ hk=>hk.2) (.int .i64 t0)) (λ_ hk=>hk.2) (.int .i64 t1)) (λ_ hk=>hk.2) (.slice s0 t4.length s1)) (λ_ hk=>hk.2) (.slice none 0 0)) (λ_ hk=>hk.2) (.slice none 0 0)) (λ_ hk=>trivial))):P:=h
theorem mBF (h:P:=by rw[hw];exact(by(with_reducible repeat (first|apply Kd.S_alloc|apply Kd.S_drewN|apply Kd.S_drew));exact Kd.S_mono (Kd.S_far (p:=⟨g0,4,none⟩) (Kd.S_far (p:=⟨g0,3,none⟩) (Kd.S_far (p:=⟨g0,2,none⟩) (Kd.S_far (p:=⟨g0,1,none⟩) (Kd.S_far (p:=⟨g0,0,none⟩) (Kd.S_types O1.out B0.out mAQ) (λ_ hk=>hk.2) (.int .i64 0)) (λ_ hk=>hk.2) (.int .i64 0)) (λ_ hk=>hk.2) (.slice none 0 0)) (λ_ hk=>hk.2) (.slice none 0 0)) (λ_ hk=>hk.2) (.slice none 0 0)) (λ_ hk=>trivial))):P:=h
theorem mBG (h:P:=by rw[hw];exact(by(with_reducible repeat (first|apply Kd.R_alloc|apply Kd.R_drewN|apply Kd.R_drew));exact Kd.R_mono (Kd.R_far (p:=⟨g0,4,none⟩) (Kd.R_far (p:=⟨g0,3,none⟩) (Kd.R_far (p:=⟨g0,2,none⟩) (Kd.R_far (p:=⟨g0,1,none⟩) (Kd.R_far (p:=⟨g0,0,none⟩) (Kd.R_types O2.out B0.out mAQ) (λ_ hk=>hk.2) (.int .i64 0)) (λ_ hk=>hk.2) (.int .i64 0)) (λ_ hk=>hk.2) (.slice none 0 0)) (λ_ hk=>hk.2) (.slice none 0 0)) (λ_ hk=>hk.2) (.slice none 0 0)) (λ_ hk=>trivial))):P:=h
theorem mBH (h:P:=by rw[hw];exact(by(with_reducible repeat (first|apply Kd.R_alloc|apply Kd.R_drewN|apply Kd.R_drew));exact Kd.R_mono (Kd.R_far (p:=⟨g0,4,none⟩) (Kd.R_far (p:=⟨g0,3,none⟩) (Kd.R_far (p:=⟨g0,2,none⟩) (Kd.R_far (p:=⟨g0,1,none⟩) (Kd.R_far (p:=⟨g0,0,none⟩) (Kd.R_types O0.out B0.out mAQ) (λ_ hk=>hk.2) (.int .i64 0)) (λ_ hk=>hk.2) (.int .i64 0)) (λ_ hk=>hk.2) (.slice none 0 0)) (λ_ hk=>hk.2) (.slice none 0 0)) (λ_ hk=>hk.2) (.slice none 0 0)) (λ_ hk=>trivial))):P:=h
theorem mBI (h:P:=by rw[hw];exact mC):P:=h
theorem mBJ (h:P:=by rw[hw];exact(by(with_reducible repeat (first|apply Kd.S_alloc|apply Kd.S_drewN|apply Kd.S_drew));exact Kd.S_mono (Kd.S_far (p:=⟨g0,3,none⟩) (Kd.S_far (p:=⟨g0,2,none⟩) (Kd.S_far (p:=⟨g0,1,none⟩) (Kd.S_far (p:=⟨g0,0,none⟩) (Kd.S_mono O0.out (λk_ hk=>(⟨hk,hk.2⟩:_/\k_≠g0))) (λ_ hk=>hk.2) (.int .i64 t0)) (λ_ hk=>hk.2) (.int .i64 t1)) (λ_ hk=>hk.2) (.int .i64 t2)) (λ_ hk=>hk.2) (.slice s6 t3.length s7)) (λ_ hk=>⟨hk.1.1.2,hk.1.2⟩))):P:=h
theorem mBK (h:P:=by rw[hw];exact(by(with_reducible repeat (first|apply Kd.S_alloc|apply Kd.S_drewN|apply Kd.S_drew));exact Kd.S_mono (Kd.S_far (p:=⟨g0,3,none⟩) (Kd.S_far (p:=⟨g0,2,none⟩) (Kd.S_far (p:=⟨g0,1,none⟩) (Kd.S_far (p:=⟨g0,0,none⟩) (Kd.S_mono O0.out (λk_ hk=>(⟨hk,hk.2⟩:_/\k_≠g0))) (λ_ hk=>hk.2) (.int .i64 t0)) (λ_ hk=>hk.2) (.int .i64 t1)) (λ_ hk=>hk.2) (.int .i64 t2)) (λ_ hk=>hk.2) (.slice s3 t3.length s4)) (λ_ hk=>⟨hk.1.1.2,hk.1.2⟩))):P:=h
theorem mBL (h:P:=by have h_:(x3:Int)<((x1.length:Int):Int):=of_decide_eq_true mE;first|exact h_|(have e_:=(Kd.R_reads' O1.out).1;omega)|simpa using h_):P:=h
theorem mBM (h:P:=by rw[hw];exact(by(with_reducible repeat (first|apply Kd.R_alloc|apply Kd.R_drewN|apply Kd.R_drew));exact Kd.R_mono (Kd.R_far (p:=⟨g0,3,none⟩) (Kd.R_far (p:=⟨g0,2,none⟩) (Kd.R_far (p:=⟨g0,1,none⟩) (Kd.R_far (p:=⟨g0,0,none⟩) (Kd.R_types O1.out B0.out mAQ) (λ_ hk=>hk.2) (.int .i64 t0)) (λ_ hk=>hk.2) (.int .i64 t1)) (λ_ hk=>hk.2) (.int .i64 t2)) (λ_ hk=>hk.2) (.slice s6 t3.length s7)) (λ_ hk=>trivial))):P:=h
theorem mBN (h:P:=by rw[hw];exact(by(with_reducible repeat (first|apply Kd.R_alloc|apply Kd.R_drewN|apply Kd.R_drew));exact Kd.R_mono (Kd.R_far (p:=⟨g0,3,none⟩) (Kd.R_far (p:=⟨g0,2,none⟩) (Kd.R_far (p:=⟨g0,1,none⟩) (Kd.R_far (p:=⟨g0,0,none⟩) (Kd.R_types O1.out B0.out mAQ) (λ_ hk=>hk.2) (.int .i64 t0)) (λ_ hk=>hk.2) (.int .i64 t1)) (λ_ hk=>hk.2) (.int .i64 t2)) (λ_ hk=>hk.2) (.slice s3 t3.length s4)) (λ_ hk=>trivial))):P:=h
theorem mBO (h:P:=by(try simp only[List.map_toArray,List.map_cons,List.map_nil]);first|done|(simp only[j9];rfl)|(simp only[j9,ByteArray.size_extract,Nat.min_self];done)|(simp only[j9,ByteArray.size_extract,Nat.min_self];rfl)|(simp only[ByteArray.size_extract,Nat.min_self];done)|(simp only[ByteArray.size_extract,Nat.min_self];rfl)|rfl|(simp only[List.length_drop,List.length_take];rfl)):P:=h
theorem mBP (h:P:=by repeat (first|(with_reducible first|exact HB.out|apply below_alloc|apply pw_below_drewN|apply below_drew1|refine below_set ?_ G0.out|refine below_set ?_ G2.out)|exact HB.out)):P:=h
theorem mBQ (h:P:=by omega):P:=h
theorem mBR (h:P:=by injection e1):P:=h
theorem mBS (h:P:=by(with_reducible repeat (first|apply Kd.S_alloc|apply Kd.S_drewN|apply Kd.S_drew));exact O4.out):P:=h
theorem mBT (h:P:=by(with_reducible repeat (first|apply Kd.R_alloc|apply Kd.R_drewN|apply Kd.R_drew));exact O6.out):P:=h
theorem mBU (h:P:=by(with_reducible repeat (first|apply Kd.R_alloc|apply Kd.R_drewN|apply Kd.R_drew));exact O5.out):P:=h
theorem mBV (h:P:=by rfl):P:=h
theorem mBW (h:P:=by have:(0:Int)<(a0.size:Int):=of_decide_eq_true mE;omega):P:=h
theorem mBX (h:P:=by rw[hw];exact(by(with_reducible repeat (first|apply Kd.S_alloc|apply Kd.S_drewN|apply Kd.S_drew));exact Kd.S_mono (Kd.S_far (p:=⟨g1,3,none⟩) (Kd.S_types O1.out B1.out mAQ) (λ_ hk=>hk.2) (.slice s9 t6.length sa)) (λ_ hk=>trivial))):P:=h
theorem mBY (h:P:=by rw[hw];exact(by(with_reducible repeat (first|apply Kd.S_alloc|apply Kd.S_drewN|apply Kd.S_drew));exact Kd.S_mono (Kd.S_far (p:=⟨g1,3,none⟩) (Kd.S_types O1.out B1.out mAQ) (λ_ hk=>hk.2) (.slice s6 t6.length s7)) (λ_ hk=>trivial))):P:=h
theorem mBZ (h:P:=by rw[hw];exact(by(with_reducible repeat (first|apply Kd.R_alloc|apply Kd.R_drewN|apply Kd.R_drew));exact Kd.R_mono (Kd.R_far (p:=⟨g1,4,none⟩) (Kd.R_types O2.out B1.out mAQ) (λ_ hk=>hk.2) (.slice sf t8.length sg)) (λ_ hk=>trivial))):P:=h
theorem mCA (h:P:=by rw[hw];exact(by(with_reducible repeat (first|apply Kd.R_alloc|apply Kd.R_drewN|apply Kd.R_drew));exact Kd.R_mono (Kd.R_far (p:=⟨g1,4,none⟩) (Kd.R_types O2.out B1.out mAQ) (λ_ hk=>hk.2) (.slice sc t8.length sd)) (λ_ hk=>trivial))):P:=h
theorem mCB (h:P:=by rw[hw];exact(by(with_reducible repeat (first|apply Kd.R_alloc|apply Kd.R_drewN|apply Kd.R_drew));exact Kd.R_mono (Kd.R_far (p:=⟨g1,2,none⟩) (Kd.R_types O0.out B1.out mAQ) (λ_ hk=>hk.2) (.slice s3 t4.length s4)) (λ_ hk=>trivial))):P:=h
theorem mCC (h:P:=by rw[hw];exact(by(with_reducible repeat (first|apply Kd.R_alloc|apply Kd.R_drewN|apply Kd.R_drew));exact Kd.R_mono (Kd.R_far (p:=⟨g1,2,none⟩) (Kd.R_types O0.out B1.out mAQ) (λ_ hk=>hk.2) (.slice s0 t4.length s1)) (λ_ hk=>trivial))):P:=h
theorem mCD (h:P:=by repeat (first|(with_reducible first|exact HK.out|apply Kept.alloc|apply Kept.drewN|apply Kept.drew)|exact HK.out)):P:=h
theorem mCE (h:P:=by(with_reducible repeat (first|refine blk_drewN ?_ _|refine blk_drew ?_ |refine blk_alloc ?_ _));exact B3.out):P:=h
theorem mCF (h:P:=by rw[HT.out];decide):P:=h
theorem mCG (h:P:=by(with_reducible repeat (first|apply Kd.S_alloc|apply Kd.S_drewN|apply Kd.S_drew));exact O5.out):P:=h
theorem mCH (h:P:=by(with_reducible repeat (first|apply Kd.R_alloc|apply Kd.R_drewN|apply Kd.R_drew));exact O4.out):P:=h
theorem mCI (h:P:=by injection e2):P:=h
theorem mCJ (h:P:=by(try simp only[List.map_toArray,List.map_cons,List.map_nil]);first|done|(simp only[j7,ja];rfl)|rfl|(simp only[List.length_drop,List.length_take];rfl)):P:=h
theorem mCK (h:P:=by(try simp only[List.map_toArray,List.map_cons,List.map_nil]);first|done|(simp only[j6,j9];rfl)|rfl|(simp only[List.length_drop,List.length_take];rfl)):P:=h
theorem mCL (h:P:=by have:(1:Int)<((a0.extract 0 12).size :Int):=of_decide_eq_true mE;omega):P:=h
theorem mCM (h:P:=by(with_reducible repeat (first|apply Kd.S_alloc|apply Kd.S_drewN|apply Kd.S_drew));exact Kd.S_mono O0.out (λk_ hk=>⟨hk.2,λe_=>hk.1 e_⟩)):P:=h
theorem mCN (h:P:=by rw[hw];exact below_set (HB.out) GB4.out):P:=h
theorem mCO (h:P:=by simp[watchwordlaw12_Packets.j0]):P:=h
theorem mCP (h:P:=by have:(1:Int)<(a0.size:Int):=of_decide_eq_true mE;omega):P:=h
theorem mCQ (h:P:=by have h_:=cx;simp only[ByteArray.size_append]at h_;omega):P:=h
theorem mCR (h:P:=by have h_:=cw;simp only[ByteArray.size_append]at h_;have l0_:(⟨#[2]⟩:ByteArray).size =1:=rfl;omega):P:=h
theorem mCS (h:P:=by have h_:=cq;simp only[ByteArray.size_append]at h_;have l0_:(⟨#[2]⟩:ByteArray).size =1:=rfl;omega):P:=h
theorem mCT (h:P:=by have h_:=ck;simp only[ByteArray.size_append]at h_;have l0_:(⟨#[2]⟩:ByteArray).size =1:=rfl;omega):P:=h
theorem mCU (h:P:=by have:(6:Int)<((a0.extract (a1:Int).toNat a0.size).size :Int):=of_decide_eq_true mE;omega):P:=h
theorem mCV (h:P:=by have:(1:Int)<((a0.extract (a1:Int).toNat a0.size).size :Int):=of_decide_eq_true mE;omega):P:=h
theorem mCW (h:P:=by have:(0:Int)<((a0.extract (a1:Int).toNat a0.size).size :Int):=of_decide_eq_true mE;omega):P:=h
theorem mCX (h:P:=by have h_:=cz;simp only[ByteArray.size_append]at h_;omega):P:=h
theorem mCY (h:P:=by have h_:=cr;simp only[ByteArray.size_append]at h_;omega):P:=h
theorem mCZ (h:P:=by have h_:=c9;simp only[ByteArray.size_append]at h_;omega):P:=h
theorem mDA (h:P:=by have h_:=c6;simp only[ByteArray.size_append]at h_;omega):P:=h
theorem mDB (h:P:=by rw[hw,Y1.out];exact HP6.1):P:=h
end Go.Proofs.Ytbajimbccbckkaa.Stp
namespace Go.Proofs.Ytbajimbccbckkaa.Q12k
open Go.RowKit Go.Proofs.YtbajimbccbckkaaW.PrintWords Go.Proofs.YtbajimbccbckkaaW.PrintLast Go.Proofs.YtbajimbccbckkaaW.PrintMore
attribute [local go_sem] max2_int min2_int max_two min_two max_three min_three max_four min_four
set_option linter.unusedVariables false
set_option linter.unusedSimpArgs false
def errW:Option Int->Value
  |none=> .nilIface
  |some c=> .iface 0 (.int .i64 c)
theorem errW_none:errW none= .nilIface :=rfl
theorem errW_some (c:Int):errW (some c)= .iface 0 (.int .i64 c):=rfl
theorem info3:(Try.prog.info? 3).map (λi=>(i.zero,i.size,i.bytes))=some (some (.int .i64 0),1,8):=by kernel_rfl
theorem info5:(Try.prog.info? 5).map (λi=>(i.zero,i.size,i.bytes))=some (some (.int .u8 0),1,1):=by kernel_rfl
theorem info45:(Try.prog.info? 45).map (λi=>(i.zero,i.size,i.bytes))=some (some (.agg #[(.int .i64 0),(.int .i64 0),(.int .i64 0),(.slice none 0 0)]),4,48):=by kernel_rfl
theorem info47:(Try.prog.info? 47).map (λi=>(i.zero,i.size,i.bytes))=some (some (.agg #[(.int .i64 0),(.int .i64 0),(.int .i64 0),(.int .i64 0)]),4,32):=by kernel_rfl
theorem info109:(Try.prog.info? 109).map (λi=>(i.zero,i.size,i.bytes))=some (some (.agg #[(.int .i64 0),(.int .i64 0)]),2,16):=by kernel_rfl
structure S109 where
  f0:Int
  f1:Int
def z109:S109:=⟨(0:Int),(0:Int)⟩
def k109:Kd S109:=Kd.iso (Kd.pair (Kd.int .i64) (Kd.int .i64)) (λx:S109=>(x.f0,x.f1))
theorem k109_open {w:World} {x:S109} {cs:List Value} (h:k109.K w x cs):cs=[.int .i64 x.f0,.int .i64 x.f1]:=by
  obtain⟨_,_,rfl,rfl,rfl⟩:=h
  exact rfl
theorem k109_openM {w:World} {base:Nat} {ok:Nat->Prop} {x:S109} {cs:List Value} (h:k109.M w base ok x cs):cs=[.int .i64 x.f0,.int .i64 x.f1]:=by
  obtain⟨_,_,rfl,rfl,rfl⟩:=h
  exact rfl
theorem k109_mk (w:World) (x:S109):k109.K w x [.int .i64 x.f0,.int .i64 x.f1]:=⟨[.int .i64 x.f0],[.int .i64 x.f1],rfl,rfl,rfl⟩
theorem k109_mkM (w:World) (base:Nat) (ok:Nat->Prop) (x:S109):k109.M w base ok x [.int .i64 x.f0,.int .i64 x.f1]:=⟨[.int .i64 x.f0],[.int .i64 x.f1],rfl,rfl,rfl⟩
def rd_T109 (xs:List S109) (i:Int):S109:=xs.getD i.toNat z109
theorem at_T109 {w:World} {A:Option Addr} {n:Nat} {xs:List S109} (h:Kd.C k109 w A n xs) (i:Int) (h0:0<=i) (h1:i<n):∃ad,A=some ad/\w.cell? (ad.add (i.toNat*2))=some (.int .i64 (rd_T109 xs i).f0)/\w.cell? ⟨(ad.add (i.toNat*2)).block,(ad.add (i.toNat*2)).off +1,none⟩=some (.int .i64 (rd_T109 xs i).f1):=by
  obtain⟨ad,c,e,_,hK,hc0⟩:=Kd.C_get h z109 i h0 h1
  have hc:∀j u,c[j]? =some u->w.cell? (ad.add (i.toNat*2+j))=some u:=hc0
  obtain rfl:=k109_open hK
  exact⟨ad,e,hc 0 _ rfl,by rw[<-add_field _ _ 1 (by omega)];exact hc 1 _ rfl⟩
def rd_L2 (xs:List (List S109)) (i:Int):(List S109):=xs.getD i.toNat ([]:List S109)
theorem at_L2 {w:World} {A:Option Addr} {n:Nat} {xs:List (List S109)} (h:Kd.C (Kd.slice 109 k109) w A n xs) (i:Int) (h0:0<=i) (h1:i<n):∃ad A0 c0,A=some ad/\w.cell? (ad.add i.toNat)=some (.slice A0 (rd_L2 xs i).length c0)/\(rd_L2 xs i).length <=c0/\k109.C w A0 (rd_L2 xs i).length (rd_L2 xs i):=by
  obtain⟨ad,c,e,_,hK,hc0⟩:=Kd.C_get h ([]:List S109) i h0 h1
  have hc:∀j u,c[j]? =some u->w.cell? (ad.add (i.toNat*1+j))=some u:=hc0
  obtain⟨A0,c0,rfl,l0,g0⟩:=hK
  exact⟨ad,A0,c0,e,by have hq:=hc 0 _ rfl;rwa [Nat.mul_one,Nat.add_zero]at hq,l0,g0⟩
structure S45 where
  f0:Int
  f1:Int
  f2:Int
  f3:(List S109)
def z45:S45:=⟨(0:Int),(0:Int),(0:Int),([]:List S109)⟩
def k45:Kd S45:=Kd.iso (Kd.pair (Kd.int .i64) (Kd.pair (Kd.int .i64) (Kd.pair (Kd.int .i64) (Kd.slice 109 k109)))) (λx:S45=>(x.f0,x.f1,x.f2,x.f3))
theorem k45_open {w:World} {x:S45} {cs:List Value} (h:k45.K w x cs):∃A3 c3,cs=[.int .i64 x.f0,.int .i64 x.f1,.int .i64 x.f2,.slice A3 x.f3.length c3]/\x.f3.length<=c3/\k109.C w A3 x.f3.length x.f3:=by
  obtain⟨_,_,rfl,rfl,⟨_,_,rfl,rfl,⟨_,_,rfl,rfl,⟨A3,c3,rfl,l3,g3⟩⟩⟩⟩:=h
  exact⟨A3,c3,rfl,l3,g3⟩
theorem k45_openM {w:World} {base:Nat} {ok:Nat->Prop} {x:S45} {cs:List Value} (h:k45.M w base ok x cs):∃v3,cs=[.int .i64 x.f0,.int .i64 x.f1,.int .i64 x.f2,v3]/\k109.R 109 w base ok v3 x.f3:=by
  obtain⟨_,_,rfl,rfl,⟨_,_,rfl,rfl,⟨_,_,rfl,rfl,⟨v3,rfl,g3⟩⟩⟩⟩:=h
  exact⟨v3,rfl,g3⟩
theorem k45_mk (w:World) (x:S45) {A3:Option Addr} {c3:Nat} (l3:x.f3.length<=c3) (g3:k109.C w A3 x.f3.length x.f3):k45.K w x [.int .i64 x.f0,.int .i64 x.f1,.int .i64 x.f2,.slice A3 x.f3.length c3]:=⟨[.int .i64 x.f0],[.int .i64 x.f1,.int .i64 x.f2,.slice A3 x.f3.length c3],rfl,rfl,⟨[.int .i64 x.f1],[.int .i64 x.f2,.slice A3 x.f3.length c3],rfl,rfl,⟨[.int .i64 x.f2],[.slice A3 x.f3.length c3],rfl,rfl,⟨A3,c3,rfl,l3,g3⟩⟩⟩⟩
theorem k45_mkM (w:World) (base:Nat) (ok:Nat->Prop) (x:S45) {v3:Value} (g3:k109.R 109 w base ok v3 x.f3):k45.M w base ok x [.int .i64 x.f0,.int .i64 x.f1,.int .i64 x.f2,v3]:=⟨[.int .i64 x.f0],[.int .i64 x.f1,.int .i64 x.f2,v3],rfl,rfl,⟨[.int .i64 x.f1],[.int .i64 x.f2,v3],rfl,rfl,⟨[.int .i64 x.f2],[v3],rfl,rfl,⟨v3,rfl,g3⟩⟩⟩⟩
def rd_T45 (xs:List S45) (i:Int):S45:=xs.getD i.toNat z45
theorem at_T45 {w:World} {A:Option Addr} {n:Nat} {xs:List S45} (h:Kd.C k45 w A n xs) (i:Int) (h0:0<=i) (h1:i<n):∃ad A3 c3,A=some ad/\w.cell? (ad.add (i.toNat*4))=some (.int .i64 (rd_T45 xs i).f0)/\w.cell? ⟨(ad.add (i.toNat*4)).block,(ad.add (i.toNat*4)).off +1,none⟩=some (.int .i64 (rd_T45 xs i).f1)/\w.cell? ⟨(ad.add (i.toNat*4)).block,(ad.add (i.toNat*4)).off +2,none⟩=some (.int .i64 (rd_T45 xs i).f2)/\w.cell? ⟨(ad.add (i.toNat*4)).block,(ad.add (i.toNat*4)).off +3,none⟩=some (.slice A3 (rd_T45 xs i).f3.length c3)/\(rd_T45 xs i).f3.length <=c3/\k109.C w A3 (rd_T45 xs i).f3.length (rd_T45 xs i).f3 :=by
  obtain⟨ad,c,e,_,hK,hc0⟩:=Kd.C_get h z45 i h0 h1
  have hc:∀j u,c[j]? =some u->w.cell? (ad.add (i.toNat*4+j))=some u:=hc0
  obtain⟨A3,c3,rfl,l3,g3⟩:=k45_open hK
  exact⟨ad,A3,c3,e,hc 0 _ rfl,by rw[<-add_field _ _ 1 (by omega)];exact hc 1 _ rfl,by rw[<-add_field _ _ 2 (by omega)];exact hc 2 _ rfl,by rw[<-add_field _ _ 3 (by omega)];exact hc 3 _ rfl,l3,g3⟩
structure S47 where
  f0:Int
  f1:Int
  f2:Int
  f3:Int
def z47:S47:=⟨(0:Int),(0:Int),(0:Int),(0:Int)⟩
def k47:Kd S47:=Kd.iso (Kd.pair (Kd.int .i64) (Kd.pair (Kd.int .i64) (Kd.pair (Kd.int .i64) (Kd.int .i64)))) (λx:S47=>(x.f0,x.f1,x.f2,x.f3))
theorem k47_open {w:World} {x:S47} {cs:List Value} (h:k47.K w x cs):cs=[.int .i64 x.f0,.int .i64 x.f1,.int .i64 x.f2,.int .i64 x.f3]:=by
  obtain⟨_,_,rfl,rfl,⟨_,_,rfl,rfl,⟨_,_,rfl,rfl,rfl⟩⟩⟩:=h
  exact rfl
theorem k47_openM {w:World} {base:Nat} {ok:Nat->Prop} {x:S47} {cs:List Value} (h:k47.M w base ok x cs):cs=[.int .i64 x.f0,.int .i64 x.f1,.int .i64 x.f2,.int .i64 x.f3]:=by
  obtain⟨_,_,rfl,rfl,⟨_,_,rfl,rfl,⟨_,_,rfl,rfl,rfl⟩⟩⟩:=h
  exact rfl
theorem k47_mk (w:World) (x:S47):k47.K w x [.int .i64 x.f0,.int .i64 x.f1,.int .i64 x.f2,.int .i64 x.f3]:=⟨[.int .i64 x.f0],[.int .i64 x.f1,.int .i64 x.f2,.int .i64 x.f3],rfl,rfl,⟨[.int .i64 x.f1],[.int .i64 x.f2,.int .i64 x.f3],rfl,rfl,⟨[.int .i64 x.f2],[.int .i64 x.f3],rfl,rfl,rfl⟩⟩⟩
theorem k47_mkM (w:World) (base:Nat) (ok:Nat->Prop) (x:S47):k47.M w base ok x [.int .i64 x.f0,.int .i64 x.f1,.int .i64 x.f2,.int .i64 x.f3]:=⟨[.int .i64 x.f0],[.int .i64 x.f1,.int .i64 x.f2,.int .i64 x.f3],rfl,rfl,⟨[.int .i64 x.f1],[.int .i64 x.f2,.int .i64 x.f3],rfl,rfl,⟨[.int .i64 x.f2],[.int .i64 x.f3],rfl,rfl,rfl⟩⟩⟩
def rd_T47 (xs:List S47) (i:Int):S47:=xs.getD i.toNat z47
theorem at_T47 {w:World} {A:Option Addr} {n:Nat} {xs:List S47} (h:Kd.C k47 w A n xs) (i:Int) (h0:0<=i) (h1:i<n):∃ad,A=some ad/\w.cell? (ad.add (i.toNat*4))=some (.int .i64 (rd_T47 xs i).f0)/\w.cell? ⟨(ad.add (i.toNat*4)).block,(ad.add (i.toNat*4)).off +1,none⟩=some (.int .i64 (rd_T47 xs i).f1)/\w.cell? ⟨(ad.add (i.toNat*4)).block,(ad.add (i.toNat*4)).off +2,none⟩=some (.int .i64 (rd_T47 xs i).f2)/\w.cell? ⟨(ad.add (i.toNat*4)).block,(ad.add (i.toNat*4)).off +3,none⟩=some (.int .i64 (rd_T47 xs i).f3):=by
  obtain⟨ad,c,e,_,hK,hc0⟩:=Kd.C_get h z47 i h0 h1
  have hc:∀j u,c[j]? =some u->w.cell? (ad.add (i.toNat*4+j))=some u:=hc0
  obtain rfl:=k47_open hK
  exact⟨ad,e,hc 0 _ rfl,by rw[<-add_field _ _ 1 (by omega)];exact hc 1 _ rfl,by rw[<-add_field _ _ 2 (by omega)];exact hc 2 _ rfl,by rw[<-add_field _ _ 3 (by omega)];exact hc 3 _ rfl⟩
theorem eqA47 (d:Nat) (w:World) (x0 y0:Int) (x1 y1:Int) (x2 y2:Int) (x3 y3:Int):
    (Op.equalIn (d+2) 47 (.agg #[.int .i64 x0,.int .i64 x1,.int .i64 x2,.int .i64 x3]) (.agg #[.int .i64 y0,.int .i64 y1,.int .i64 y2,.int .i64 y3])).run Try.prog w= .ok (x0==y0&&(x1==y1&&(x2==y2&&(x3==y3)))) w:=by
  refine eqA_of Try.underlying47 (by kernel_rfl) ?_
  refine eqf_cons (by rfl) (by go_simp;rfl) (by go_simp;rfl) (by go_simp) ?_
  refine eqf_cons (by rfl) (by go_simp;rfl) (by go_simp;rfl) (by go_simp) ?_
  refine eqf_cons (by rfl) (by go_simp;rfl) (by go_simp;rfl) (by go_simp) ?_
  exact eqf_last (by rfl) (by go_simp;rfl) (by go_simp;rfl) (by go_simp)
end Go.Proofs.Ytbajimbccbckkaa.Q12k
namespace Go.Proofs.Ytbajimbccbckkaa.Q12k
open Go.RowKit Go.Proofs.Ytbajimbccbckkaa.Stp Go.Proofs.YtbajimbccbckkaaW.PrintWords Go.Proofs.YtbajimbccbckkaaW.PrintLast Go.Proofs.YtbajimbccbckkaaW.PrintMore
attribute [local go_sem] max2_int min2_int max_two min_two max_three min_three max_four min_four
set_option linter.unusedVariables false
set_option linter.unusedSimpArgs false
attribute [local go_sem high] eqA47
def watchwordlaw0_SpoilInts.l0:Nat->List Int->Int->Option (List Int)
 |0,_,_=>none
 |k+1,x0,x2=>if x2<(x0.length:Int)then(if 0<=x2 then(watchwordlaw0_SpoilInts.l0 k (x0.set (x2:Int).toNat (wrap64 ((-9)-(rd x0 x2)))) (wrap64 (x2+1)))else(none))else(some x0)
def watchwordlaw0_SpoilInts.f (k:Nat) (l0:List Int):Option (List Int):=watchwordlaw0_SpoilInts.l0 k l0 0
theorem watchwordlaw0_SpoilInts.mono_l:∀k,(∀y0 y1,LeO (watchwordlaw0_SpoilInts.l0 k y0 y1) (watchwordlaw0_SpoilInts.l0 (k+1) y0 y1))
 |0=>λ_ _ r h=>by simp[watchwordlaw0_SpoilInts.l0]at h
 |k+1=>by
  have ih0:=watchwordlaw0_SpoilInts.mono_l k
  ·intro y0 y1
   unfold watchwordlaw0_SpoilInts.l0
   repeat' (with_reducible first|exact ih0 _ _|exact LeO.refl _|exact LeO.none _|refine LeO.ite ?_ ?_ |refine LeO.bind ?_ (λ_=>?_))
theorem watchwordlaw0_SpoilInts.mono:∀a0 k,LeO (watchwordlaw0_SpoilInts.f k a0) (watchwordlaw0_SpoilInts.f (k+1) a0):=by
 intro a0 k;have ih0:=watchwordlaw0_SpoilInts.mono_l k;unfold watchwordlaw0_SpoilInts.f
 repeat' (with_reducible first|exact ih0 _ _|exact LeO.refl _|exact LeO.none _|refine LeO.ite ?_ ?_ |refine LeO.bind ?_ (λ_=>?_))
set_option maxHeartbeats 8000000 in
set_option maxRecDepth 100000 in
theorem watchwordlaw0_SpoilInts.calls (k:Nat) (P0_:Nat->Prop) (u9000_:Value) (l0:List Int) (r:List Int) (w0 w:World) (hB:Below w0.heap.size w0 w) (ho0:Kd.R (Kd.int .i64) 3 w w0.heap.size P0_ u9000_ l0) (h:watchwordlaw0_SpoilInts.f k l0=some r):
  Calls Try.prog 42 #[u9000_] w λe w'=>e= .returned (.tuple #[])/\Kd.R (Kd.int .i64) 3 w' w0.heap.size (λk_=>(P0_ k_\/w.heap.size<=k_)) u9000_ r/\Below w0.heap.size w0 w'/\Kept w w' (λk_=>P0_ k_):=by
 have O0:=Aside0.mk (show Kd.R (Kd.int .i64) 3 w w0.heap.size (λk_=>(P0_ k_\/w.heap.size<=k_)) u9000_ l0 from Kd.R_mono ho0 (λk_ hk=>(.inl hk)));have HK:=Aside0.mk (Kept.refl w (λk_=>P0_ k_));have HW0:=Aside0.mk hB.size;have HB:=Aside0.mk hB;clear hB;have H:(watchwordlaw0_SpoilInts.l0 k l0 0)=some r:=h;clear h;have H':=Aside0.mk H;clear H
 go_enter Try.func42,Try.ntmps42
 go_wp2
 go_loopg [2] k (λkq v2 w'=>∃(x1:List Int) (x3:Int),v2= .int .i64 x3/\Aside0 (watchwordlaw0_SpoilInts.l0 kq x1 x3=some r)/\Aside0 (kq<=k)/\Aside0 (Kd.R (Kd.int .i64) 3 w' w0.heap.size (λk_=>(P0_ k_\/w.heap.size<=k_)) u9000_ x1)/\Aside0 (Kept w w' (λk_=>P0_ k_))/\Aside0 (Below w0.heap.size w0 w'))
 case atStart=>exact⟨(l0),(0),mK,H',⟨Nat.le_refl _⟩,⟨by(with_reducible repeat (first|apply Kd.R_alloc|apply Kd.R_drewN|apply Kd.R_drew));exact O0.out⟩,⟨by repeat (first|(with_reducible first|exact HK.out|apply Kept.alloc|apply Kept.drewN|apply Kept.drew)|exact HK.out)⟩,⟨by repeat (first|(with_reducible first|exact HB.out|apply below_alloc|apply pw_below_drewN|apply below_drew1)|exact HB.out)⟩⟩
 case round=>
  clear H';obtain⟨x1,x3,rfl,HA,HK1,O1,HK,HB⟩:=hrel;cases gk with
  |zero=>exact absurd HA.out (by simp[watchwordlaw0_SpoilInts.l0])
  |succ k1=>
   have H:=HA.out;clear HA;simp only[watchwordlaw0_SpoilInts.l0]at H
   by_cases c2:x3<(x1.length:Int)
   ·rw[if_pos c2]at H
    have c4:=decide_eq_true c2;clear c2
    by_cases c3:0<=x3
    ·rw[if_pos c3]at H
     have c9:=decide_eq_true c3;clear c3;obtain⟨y2,Y0⟩:∃y_:List Int,y_=(x1.set (x3:Int).toNat (wrap64 ((-9)-(rd x1 x3)))):=⟨_,rfl⟩
     replace H:(watchwordlaw0_SpoilInts.l0 k1 y2 (wrap64 (x3+1)))=some r:=by first|(rw[Y0];with_reducible exact H)|(have H2_:=(Option.bind_some _ _).symm.trans H;rw[Y0];with_reducible exact H2_)|(have H2_:=(Option.bind_some _ _).symm.trans H;with_reducible exact H2_)|with_reducible exact H|(rw[Y0];exact H)|exact H
     have Y1:=Aside0.mk Y0;clear Y0;have H':=Aside0.mk H;clear H;obtain⟨s0,s1,s2⟩:=Kd.R_slice O1.out;subst s2;have p0:0<=(x3:Int):=of_decide_eq_true mE;have q0:x3<(x1.length:Int):=of_decide_eq_true mE;obtain⟨d0,e0,h0⟩:=Kd.at_int (Kd.R_reads' O1.out).2.2 x3 p0 q0;cases e0;replace p0:=eq_true p0;replace q0:=eq_true q0;have p4:0<=(x3:Int):=of_decide_eq_true mE;have q4:(x3:Int)<((x1.length:Int):Int):=of_decide_eq_true mE;obtain⟨go4,s3,s4,g0,gl4,cl4,HG4⟩:=Kd.R_form O1.out mBQ
     (first|cases s4|(injection s4 with ea_ en_ ec_;(first|subst ea_|(injection ea_ with ea_;subst ea_));subst ec_;clear en_))
     have GB4:=Aside0.mk g0;have GG4:=Aside0.mk HG4;clear g0 gl4 HG4;have HMgo4:=Aside0.mk (show(P0_ go4\/w.heap.size<=go4)from(O1.out.1 _ rfl))
     (first|simp only[add_plain]at h0|skip)
     obtain⟨h1,hf4_0⟩:=Kd.R_celln 0 O1.out (x3:Int) p4 q4;replace p4:=eq_true p4;replace q4:=eq_true q4;have HP6:=Kd.R_putg O1.out (x3:Int) (wrap64 ((-9)-(rd x1 x3)))
     go_wp2_with (first|((with_reducible refine gate_store (t:=3) (p:=16) rfl ?_);refine stV (t:=3) (p:=16) (w1:=(wr.setCell ⟨go4,(x3:Int).toNat,none⟩ (.int .i64 (wrap64 ((-9)-(rd x1 x3)))))) (h:=?_);intro w7 hw;have hg:wr.grownBy w7 (some go4):=(by rw[hw];exact HP6.2);have hp_:Kd.R (Kd.int .i64) 3 w7 w0.heap.size (λk_=>(P0_ k_\/w.heap.size<=k_)) (.slice (some ⟨go4,0,none⟩) x1.length s1) y2:=mDB;clear HP6;replace HB:=Aside0.mk ((mCN:Below w0.heap.size w0 w7));replace HK:=Aside0.mk (Kept.of_grown (S:=(λk_=>P0_ k_)) hg mCD (λk_ e_=>(O1.out.1 k_ e_)));replace O1:=Aside0.mk (hp_);clear hg hw hp_))
     go_roundg k1
     case measure=>have:=HK1.out;omega
     case rel=>exact⟨(y2),(wrap64 (x3+1)),mK,H',⟨by have:=HK1.out;omega⟩,⟨by(with_reducible repeat (first|apply Kd.R_alloc|apply Kd.R_drewN|apply Kd.R_drew));exact O1.out⟩,⟨by repeat (first|(with_reducible first|exact HK.out|apply Kept.alloc|apply Kept.drewN|apply Kept.drew)|exact HK.out)⟩,⟨by repeat (first|(with_reducible first|exact HB.out|apply below_alloc|apply pw_below_drewN|apply below_drew1)|exact HB.out)⟩⟩
    ·rw[if_neg c3]at H
     exact absurd H mAM
   ·rw[if_neg c2]at H
    have c4:=decide_eq_false c2;clear c2;obtain rfl:=Option.some.inj H;obtain⟨s5,s6,s7⟩:=Kd.R_slice O1.out;subst s7;go_wp2
    first|go_end0|((try simp only[Exit.inBlock,Exit.then]);refine bodyPost_ret (results_none rfl _ _ _) rfl ?_)
    exact⟨by first|rfl|(simp[errW_none,errW_some] <;> rfl)|(simp[*,errW_none,errW_some] <;> rfl),by(with_reducible repeat (first|apply Kd.R_alloc|apply Kd.R_drewN|apply Kd.R_drew));exact O1.out,by repeat (first|(with_reducible first|exact HB.out|apply below_alloc|apply pw_below_drewN|apply below_drew1)|exact HB.out),by repeat (first|(with_reducible first|exact HK.out|apply Kept.alloc|apply Kept.drewN|apply Kept.drew)|exact HK.out)⟩
end Go.Proofs.Ytbajimbccbckkaa.Q12k
namespace Go.Proofs.Ytbajimbccbckkaa.Q12k
open Go.RowKit Go.Proofs.Ytbajimbccbckkaa.Stp Go.Proofs.YtbajimbccbckkaaW.PrintWords Go.Proofs.YtbajimbccbckkaaW.PrintLast Go.Proofs.YtbajimbccbckkaaW.PrintMore
attribute [local go_sem] max2_int min2_int max_two min_two max_three min_three max_four min_four
set_option linter.unusedVariables false
set_option linter.unusedSimpArgs false
def watchwordlaw0_SpoilLsaHeads.l0:Nat->List (S47)->Int->Option ((List (S47)))
 |0,_,_=>none
 |k+1,x0,x2=>if x2<(x0.length:Int)then(if 0<=x2 then(watchwordlaw0_SpoilLsaHeads.l0 k (x0.set (x2:Int).toNat (⟨Go.bits .xor .i64 ((rd_T47 x0 x2).f0) 90,(rd_T47 x0 x2).f1,(rd_T47 x0 x2).f2,(rd_T47 x0 x2).f3⟩:S47)) (wrap64 (x2+1)))else(none))else(some x0)
def watchwordlaw0_SpoilLsaHeads.f (k:Nat) (l0:List (S47)):Option ((List (S47))):=watchwordlaw0_SpoilLsaHeads.l0 k l0 0
theorem watchwordlaw0_SpoilLsaHeads.mono_l:∀k,(∀y0 y1,LeO (watchwordlaw0_SpoilLsaHeads.l0 k y0 y1) (watchwordlaw0_SpoilLsaHeads.l0 (k+1) y0 y1))
 |0=>λ_ _ r h=>by simp[watchwordlaw0_SpoilLsaHeads.l0]at h
 |k+1=>by
  have ih0:=watchwordlaw0_SpoilLsaHeads.mono_l k
  ·intro y0 y1
   unfold watchwordlaw0_SpoilLsaHeads.l0
   repeat' (with_reducible first|exact ih0 _ _|exact LeO.refl _|exact LeO.none _|refine LeO.ite ?_ ?_ |refine LeO.bind ?_ (λ_=>?_))
theorem watchwordlaw0_SpoilLsaHeads.mono:∀a0 k,LeO (watchwordlaw0_SpoilLsaHeads.f k a0) (watchwordlaw0_SpoilLsaHeads.f (k+1) a0):=by
 intro a0 k;have ih0:=watchwordlaw0_SpoilLsaHeads.mono_l k;unfold watchwordlaw0_SpoilLsaHeads.f
 repeat' (with_reducible first|exact ih0 _ _|exact LeO.refl _|exact LeO.none _|refine LeO.ite ?_ ?_ |refine LeO.bind ?_ (λ_=>?_))
set_option maxHeartbeats 8000000 in
set_option maxRecDepth 100000 in
theorem watchwordlaw0_SpoilLsaHeads.calls (k:Nat) (P0_:Nat->Prop) (u9000_:Value) (l0:List (S47)) (r:List (S47)) (w0 w:World) (hB:Below w0.heap.size w0 w) (ho0:Kd.R k47 47 w w0.heap.size P0_ u9000_ l0) (h:watchwordlaw0_SpoilLsaHeads.f k l0=some r):
  Calls Try.prog 44 #[u9000_] w λe w'=>e= .returned (.tuple #[])/\Kd.R k47 47 w' w0.heap.size (λk_=>(P0_ k_\/w.heap.size<=k_)) u9000_ r/\Below w0.heap.size w0 w'/\Kept w w' (λk_=>P0_ k_):=by
 have O0:=Aside0.mk (show Kd.R k47 47 w w0.heap.size (λk_=>(P0_ k_\/w.heap.size<=k_)) u9000_ l0 from Kd.R_mono ho0 (λk_ hk=>(.inl hk)));have HK:=Aside0.mk (Kept.refl w (λk_=>P0_ k_));have HW0:=Aside0.mk hB.size;have HB:=Aside0.mk hB;clear hB;have H:(watchwordlaw0_SpoilLsaHeads.l0 k l0 0)=some r:=h;clear h;have H':=Aside0.mk H;clear H
 go_enter Try.func44,Try.ntmps44
 go_wp2
 go_loopg [2] k (λkq v2 w'=>∃(x1:List (S47)) (x3:Int),v2= .int .i64 x3/\Aside0 (watchwordlaw0_SpoilLsaHeads.l0 kq x1 x3=some r)/\Aside0 (kq<=k)/\Aside0 (Kd.R k47 47 w' w0.heap.size (λk_=>(P0_ k_\/w.heap.size<=k_)) u9000_ x1)/\Aside0 (Kept w w' (λk_=>P0_ k_))/\Aside0 (Below w0.heap.size w0 w'))
 case atStart=>exact⟨(l0),(0),mK,H',⟨Nat.le_refl _⟩,⟨by(with_reducible repeat (first|apply Kd.R_alloc|apply Kd.R_drewN|apply Kd.R_drew));exact O0.out⟩,⟨by repeat (first|(with_reducible first|exact HK.out|apply Kept.alloc|apply Kept.drewN|apply Kept.drew)|exact HK.out)⟩,⟨by repeat (first|(with_reducible first|exact HB.out|apply below_alloc|apply pw_below_drewN|apply below_drew1)|exact HB.out)⟩⟩
 case round=>
  clear H';obtain⟨x1,x3,rfl,HA,HK1,O1,HK,HB⟩:=hrel;cases gk with
  |zero=>exact absurd HA.out (by simp[watchwordlaw0_SpoilLsaHeads.l0])
  |succ k1=>
   have H:=HA.out;clear HA;simp only[watchwordlaw0_SpoilLsaHeads.l0]at H
   by_cases c2:x3<(x1.length:Int)
   ·rw[if_pos c2]at H
    have c4:=decide_eq_true c2;clear c2
    by_cases c3:0<=x3
    ·rw[if_pos c3]at H
     have c9:=decide_eq_true c3;clear c3;obtain⟨y2,Y0⟩:∃y_:List (S47),y_=(x1.set (x3:Int).toNat (⟨Go.bits .xor .i64 ((rd_T47 x1 x3).f0) 90,(rd_T47 x1 x3).f1,(rd_T47 x1 x3).f2,(rd_T47 x1 x3).f3⟩:S47)):=⟨_,rfl⟩
     replace H:(watchwordlaw0_SpoilLsaHeads.l0 k1 y2 (wrap64 (x3+1)))=some r:=by first|(rw[Y0];with_reducible exact H)|(have H2_:=(Option.bind_some _ _).symm.trans H;rw[Y0];with_reducible exact H2_)|(have H2_:=(Option.bind_some _ _).symm.trans H;with_reducible exact H2_)|with_reducible exact H|(rw[Y0];exact H)|exact H
     have Y1:=Aside0.mk Y0;clear Y0;have H':=Aside0.mk H;clear H;obtain⟨s0,s1,s2⟩:=Kd.R_slice O1.out;subst s2;have p0:0<=(x3:Int):=of_decide_eq_true mE;have q0:x3<(x1.length:Int):=of_decide_eq_true mE;obtain⟨d0,e0,h0,h1,h2,h3⟩:=at_T47 (Kd.R_reads' O1.out).2.2 x3 p0 q0;cases e0;replace p0:=eq_true p0;replace q0:=eq_true q0;have p4:0<=(x3:Int):=of_decide_eq_true mE;have q4:(x3:Int)<((x1.length:Int):Int):=of_decide_eq_true mE;obtain⟨go4,s3,s4,g0,gl4,cl4,HG4⟩:=Kd.R_form O1.out mBQ
     (first|cases s4|(injection s4 with ea_ en_ ec_;(first|subst ea_|(injection ea_ with ea_;subst ea_));subst ec_;clear en_))
     have GB4:=Aside0.mk g0;have GG4:=Aside0.mk HG4;clear g0 gl4 HG4;have HMgo4:=Aside0.mk (show(P0_ go4\/w.heap.size<=go4)from(O1.out.1 _ rfl))
     (first|simp only[add_plain]at h0|skip)
     (first|simp only[add_plain]at h1|skip)
     (first|simp only[add_plain]at h2|skip)
     (first|simp only[add_plain]at h3|skip)
     obtain⟨ce4,hcl4,hM4,hcc4,hfr4⟩:=Kd.R_elem O1.out z47 (x3:Int) p4 q4;obtain rfl:=k47_openM hM4;have h4:wr.cell? ⟨go4,(x3:Int).toNat *4,none⟩=some (.int .i64 ((rd_T47 x1 x3).f0)):=hcc4 0 _ rfl;have h5:wr.cell? ⟨go4,(x3:Int).toNat *4+1,none⟩=some (.int .i64 ((rd_T47 x1 x3).f1)):=hcc4 1 _ rfl;have h6:wr.cell? ⟨go4,(x3:Int).toNat *4+2,none⟩=some (.int .i64 ((rd_T47 x1 x3).f2)):=hcc4 2 _ rfl;have h7:wr.cell? ⟨go4,(x3:Int).toNat *4+3,none⟩=some (.int .i64 ((rd_T47 x1 x3).f3)):=hcc4 3 _ rfl;have hf4_0:wr.frozen? ⟨go4,(x3:Int).toNat *4,none⟩=false:=hfr4 0;have hf4_1:wr.frozen? ⟨go4,(x3:Int).toNat *4+1,none⟩=false:=hfr4 1;have hf4_2:wr.frozen? ⟨go4,(x3:Int).toNat *4+2,none⟩=false:=hfr4 2;have hf4_3:wr.frozen? ⟨go4,(x3:Int).toNat *4+3,none⟩=false:=hfr4 3;clear hcl4 hcc4 hfr4 hM4;replace p4:=eq_true p4;replace q4:=eq_true q4;have HX6:=Aside0.mk (show Kd.R k47 47 wr w0.heap.size (λk_=>(P0_ k_\/w.heap.size<=k_)) (.slice (some ⟨go4,0,none⟩) x1.length s1) x1 from mX);obtain⟨ce6,hcl6,hM6,hcc6,hfr6⟩:=Kd.R_elem HX6.out z47 (x3:Int) (of_decide_eq_true mE) mBL;obtain rfl:=k47_openM hM6;have HP6:=Kd.R_seg HX6.out (x3:Int) (of_decide_eq_true mE) mBL (seg:=[.int .i64 (Go.bits .xor .i64 ((rd_T47 x1 x3).f0) 90)]) (j:=0) hcl6 hcc6 (show 1<=4 from by decide) (x':=(⟨Go.bits .xor .i64 ((rd_T47 x1 x3).f0) 90,(rd_T47 x1 x3).f1,(rd_T47 x1 x3).f2,(rd_T47 x1 x3).f3⟩:S47)) (k47_mkM _ _ _ (⟨Go.bits .xor .i64 ((rd_T47 x1 x3).f0) 90,(rd_T47 x1 x3).f1,(rd_T47 x1 x3).f2,(rd_T47 x1 x3).f3⟩:S47)) (λ_ hk=>hk);have h8:=hcc6 0 _ rfl;(try simp only[show(k47).sz =4 from rfl,Nat.mul_one,Nat.add_zero]at h8);have hf6_0:=hfr6 0;(try simp only[show(k47).sz =4 from rfl,Nat.mul_one,Nat.add_zero]at hf6_0);clear hcl6 hcc6 hfr6 hM6
     go_wp2_with (first|((with_reducible refine gate_store (t:=3) (p:=18) rfl ?_);refine stV (t:=3) (p:=18) (w1:=(wr.setCell ⟨go4,(x3:Int).toNat *4,none⟩ (.int .i64 (Go.bits .xor .i64 ((rd_T47 x1 x3).f0) 90)))) (h:=?_);intro w7 hw;have hg:wr.grownBy w7 (some go4):=(by rw[hw];exact HP6.2);have hp_:Kd.R k47 47 w7 w0.heap.size (λk_=>(P0_ k_\/w.heap.size<=k_)) (.slice (some ⟨go4,0,none⟩) x1.length s1) y2:=mDB;clear HP6;replace HB:=Aside0.mk ((mCN:Below w0.heap.size w0 w7));replace HK:=Aside0.mk (Kept.of_grown (S:=(λk_=>P0_ k_)) hg mCD (λk_ e_=>(O1.out.1 k_ e_)));replace O1:=Aside0.mk (hp_);clear hg hw hp_))
     go_roundg k1
     case measure=>have:=HK1.out;omega
     case rel=>exact⟨(y2),(wrap64 (x3+1)),mK,H',⟨by have:=HK1.out;omega⟩,⟨by(with_reducible repeat (first|apply Kd.R_alloc|apply Kd.R_drewN|apply Kd.R_drew));exact O1.out⟩,⟨by repeat (first|(with_reducible first|exact HK.out|apply Kept.alloc|apply Kept.drewN|apply Kept.drew)|exact HK.out)⟩,⟨by repeat (first|(with_reducible first|exact HB.out|apply below_alloc|apply pw_below_drewN|apply below_drew1)|exact HB.out)⟩⟩
    ·rw[if_neg c3]at H
     exact absurd H mAM
   ·rw[if_neg c2]at H
    have c4:=decide_eq_false c2;clear c2;obtain rfl:=Option.some.inj H;obtain⟨s5,s6,s7⟩:=Kd.R_slice O1.out;subst s7;go_wp2
    first|go_end0|((try simp only[Exit.inBlock,Exit.then]);refine bodyPost_ret (results_none rfl _ _ _) rfl ?_)
    exact⟨by first|rfl|(simp[errW_none,errW_some] <;> rfl)|(simp[*,errW_none,errW_some] <;> rfl),by(with_reducible repeat (first|apply Kd.R_alloc|apply Kd.R_drewN|apply Kd.R_drew));exact O1.out,by repeat (first|(with_reducible first|exact HB.out|apply below_alloc|apply pw_below_drewN|apply below_drew1)|exact HB.out),by repeat (first|(with_reducible first|exact HK.out|apply Kept.alloc|apply Kept.drewN|apply Kept.drew)|exact HK.out)⟩
def watchwordlaw0_SpoilLinks.l0:Nat->List (S109)->Int->Option ((List (S109)))
 |0,_,_=>none
 |k+1,x0,x2=>if x2<(x0.length:Int)then(if 0<=x2 then(watchwordlaw0_SpoilLinks.l0 k (x0.set (x2:Int).toNat (⟨Go.bits .xor .i64 ((rd_T109 x0 x2).f0) 90,(rd_T109 x0 x2).f1⟩:S109)) (wrap64 (x2+1)))else(none))else(some x0)
def watchwordlaw0_SpoilLinks.f (k:Nat) (l0:List (S109)):Option ((List (S109))):=watchwordlaw0_SpoilLinks.l0 k l0 0
theorem watchwordlaw0_SpoilLinks.mono_l:∀k,(∀y0 y1,LeO (watchwordlaw0_SpoilLinks.l0 k y0 y1) (watchwordlaw0_SpoilLinks.l0 (k+1) y0 y1))
 |0=>λ_ _ r h=>by simp[watchwordlaw0_SpoilLinks.l0]at h
 |k+1=>by
  have ih0:=watchwordlaw0_SpoilLinks.mono_l k
  ·intro y0 y1
   unfold watchwordlaw0_SpoilLinks.l0
   repeat' (with_reducible first|exact ih0 _ _|exact LeO.refl _|exact LeO.none _|refine LeO.ite ?_ ?_ |refine LeO.bind ?_ (λ_=>?_))
theorem watchwordlaw0_SpoilLinks.mono:∀a0 k,LeO (watchwordlaw0_SpoilLinks.f k a0) (watchwordlaw0_SpoilLinks.f (k+1) a0):=by
 intro a0 k;have ih0:=watchwordlaw0_SpoilLinks.mono_l k;unfold watchwordlaw0_SpoilLinks.f
 repeat' (with_reducible first|exact ih0 _ _|exact LeO.refl _|exact LeO.none _|refine LeO.ite ?_ ?_ |refine LeO.bind ?_ (λ_=>?_))
set_option maxHeartbeats 8000000 in
set_option maxRecDepth 100000 in
theorem watchwordlaw0_SpoilLinks.calls (k:Nat) (P0_:Nat->Prop) (u9000_:Value) (l0:List (S109)) (r:List (S109)) (w0 w:World) (hB:Below w0.heap.size w0 w) (ho0:Kd.R k109 109 w w0.heap.size P0_ u9000_ l0) (h:watchwordlaw0_SpoilLinks.f k l0=some r):
  Calls Try.prog 66 #[u9000_] w λe w'=>e= .returned (.tuple #[])/\Kd.R k109 109 w' w0.heap.size (λk_=>(P0_ k_\/w.heap.size<=k_)) u9000_ r/\Below w0.heap.size w0 w'/\Kept w w' (λk_=>P0_ k_):=by
 have O0:=Aside0.mk (show Kd.R k109 109 w w0.heap.size (λk_=>(P0_ k_\/w.heap.size<=k_)) u9000_ l0 from Kd.R_mono ho0 (λk_ hk=>(.inl hk)));have HK:=Aside0.mk (Kept.refl w (λk_=>P0_ k_));have HW0:=Aside0.mk hB.size;have HB:=Aside0.mk hB;clear hB;have H:(watchwordlaw0_SpoilLinks.l0 k l0 0)=some r:=h;clear h;have H':=Aside0.mk H;clear H
 go_enter Try.func66,Try.ntmps66
 go_wp2
 go_loopg [2] k (λkq v2 w'=>∃(x1:List (S109)) (x3:Int),v2= .int .i64 x3/\Aside0 (watchwordlaw0_SpoilLinks.l0 kq x1 x3=some r)/\Aside0 (kq<=k)/\Aside0 (Kd.R k109 109 w' w0.heap.size (λk_=>(P0_ k_\/w.heap.size<=k_)) u9000_ x1)/\Aside0 (Kept w w' (λk_=>P0_ k_))/\Aside0 (Below w0.heap.size w0 w'))
 case atStart=>exact⟨(l0),(0),mK,H',⟨Nat.le_refl _⟩,⟨by(with_reducible repeat (first|apply Kd.R_alloc|apply Kd.R_drewN|apply Kd.R_drew));exact O0.out⟩,⟨by repeat (first|(with_reducible first|exact HK.out|apply Kept.alloc|apply Kept.drewN|apply Kept.drew)|exact HK.out)⟩,⟨by repeat (first|(with_reducible first|exact HB.out|apply below_alloc|apply pw_below_drewN|apply below_drew1)|exact HB.out)⟩⟩
 case round=>
  clear H';obtain⟨x1,x3,rfl,HA,HK1,O1,HK,HB⟩:=hrel;cases gk with
  |zero=>exact absurd HA.out (by simp[watchwordlaw0_SpoilLinks.l0])
  |succ k1=>
   have H:=HA.out;clear HA;simp only[watchwordlaw0_SpoilLinks.l0]at H
   by_cases c2:x3<(x1.length:Int)
   ·rw[if_pos c2]at H
    have c4:=decide_eq_true c2;clear c2
    by_cases c3:0<=x3
    ·rw[if_pos c3]at H
     have c9:=decide_eq_true c3;clear c3;obtain⟨y2,Y0⟩:∃y_:List (S109),y_=(x1.set (x3:Int).toNat (⟨Go.bits .xor .i64 ((rd_T109 x1 x3).f0) 90,(rd_T109 x1 x3).f1⟩:S109)):=⟨_,rfl⟩
     replace H:(watchwordlaw0_SpoilLinks.l0 k1 y2 (wrap64 (x3+1)))=some r:=by first|(rw[Y0];with_reducible exact H)|(have H2_:=(Option.bind_some _ _).symm.trans H;rw[Y0];with_reducible exact H2_)|(have H2_:=(Option.bind_some _ _).symm.trans H;with_reducible exact H2_)|with_reducible exact H|(rw[Y0];exact H)|exact H
     have Y1:=Aside0.mk Y0;clear Y0;have H':=Aside0.mk H;clear H;obtain⟨s0,s1,s2⟩:=Kd.R_slice O1.out;subst s2;have p0:0<=(x3:Int):=of_decide_eq_true mE;have q0:x3<(x1.length:Int):=of_decide_eq_true mE;obtain⟨d0,e0,h0,h1⟩:=at_T109 (Kd.R_reads' O1.out).2.2 x3 p0 q0;cases e0;replace p0:=eq_true p0;replace q0:=eq_true q0;have p4:0<=(x3:Int):=of_decide_eq_true mE;have q4:(x3:Int)<((x1.length:Int):Int):=of_decide_eq_true mE;obtain⟨go4,s3,s4,g0,gl4,cl4,HG4⟩:=Kd.R_form O1.out mBQ
     (first|cases s4|(injection s4 with ea_ en_ ec_;(first|subst ea_|(injection ea_ with ea_;subst ea_));subst ec_;clear en_))
     have GB4:=Aside0.mk g0;have GG4:=Aside0.mk HG4;clear g0 gl4 HG4;have HMgo4:=Aside0.mk (show(P0_ go4\/w.heap.size<=go4)from(O1.out.1 _ rfl))
     (first|simp only[add_plain]at h0|skip)
     (first|simp only[add_plain]at h1|skip)
     obtain⟨ce4,hcl4,hM4,hcc4,hfr4⟩:=Kd.R_elem O1.out z109 (x3:Int) p4 q4;obtain rfl:=k109_openM hM4;have h2:wr.cell? ⟨go4,(x3:Int).toNat *2,none⟩=some (.int .i64 ((rd_T109 x1 x3).f0)):=hcc4 0 _ rfl;have h3:wr.cell? ⟨go4,(x3:Int).toNat *2+1,none⟩=some (.int .i64 ((rd_T109 x1 x3).f1)):=hcc4 1 _ rfl;have hf4_0:wr.frozen? ⟨go4,(x3:Int).toNat *2,none⟩=false:=hfr4 0;have hf4_1:wr.frozen? ⟨go4,(x3:Int).toNat *2+1,none⟩=false:=hfr4 1;clear hcl4 hcc4 hfr4 hM4;replace p4:=eq_true p4;replace q4:=eq_true q4;have HX6:=Aside0.mk (show Kd.R k109 109 wr w0.heap.size (λk_=>(P0_ k_\/w.heap.size<=k_)) (.slice (some ⟨go4,0,none⟩) x1.length s1) x1 from mX);obtain⟨ce6,hcl6,hM6,hcc6,hfr6⟩:=Kd.R_elem HX6.out z109 (x3:Int) (of_decide_eq_true mE) mBL;obtain rfl:=k109_openM hM6;have HP6:=Kd.R_seg HX6.out (x3:Int) (of_decide_eq_true mE) mBL (seg:=[.int .i64 (Go.bits .xor .i64 ((rd_T109 x1 x3).f0) 90)]) (j:=0) hcl6 hcc6 (show 1<=2 from by decide) (x':=(⟨Go.bits .xor .i64 ((rd_T109 x1 x3).f0) 90,(rd_T109 x1 x3).f1⟩:S109)) (k109_mkM _ _ _ (⟨Go.bits .xor .i64 ((rd_T109 x1 x3).f0) 90,(rd_T109 x1 x3).f1⟩:S109)) (λ_ hk=>hk);have h4:=hcc6 0 _ rfl;(try simp only[show(k109).sz =2 from rfl,Nat.mul_one,Nat.add_zero]at h4);have hf6_0:=hfr6 0;(try simp only[show(k109).sz =2 from rfl,Nat.mul_one,Nat.add_zero]at hf6_0);clear hcl6 hcc6 hfr6 hM6
     go_wp2_with (first|((with_reducible refine gate_store (t:=3) (p:=18) rfl ?_);refine stV (t:=3) (p:=18) (w1:=(wr.setCell ⟨go4,(x3:Int).toNat *2,none⟩ (.int .i64 (Go.bits .xor .i64 ((rd_T109 x1 x3).f0) 90)))) (h:=?_);intro w7 hw;have hg:wr.grownBy w7 (some go4):=(by rw[hw];exact HP6.2);have hp_:Kd.R k109 109 w7 w0.heap.size (λk_=>(P0_ k_\/w.heap.size<=k_)) (.slice (some ⟨go4,0,none⟩) x1.length s1) y2:=mDB;clear HP6;replace HB:=Aside0.mk ((mCN:Below w0.heap.size w0 w7));replace HK:=Aside0.mk (Kept.of_grown (S:=(λk_=>P0_ k_)) hg mCD (λk_ e_=>(O1.out.1 k_ e_)));replace O1:=Aside0.mk (hp_);clear hg hw hp_))
     go_roundg k1
     case measure=>have:=HK1.out;omega
     case rel=>exact⟨(y2),(wrap64 (x3+1)),mK,H',⟨by have:=HK1.out;omega⟩,⟨by(with_reducible repeat (first|apply Kd.R_alloc|apply Kd.R_drewN|apply Kd.R_drew));exact O1.out⟩,⟨by repeat (first|(with_reducible first|exact HK.out|apply Kept.alloc|apply Kept.drewN|apply Kept.drew)|exact HK.out)⟩,⟨by repeat (first|(with_reducible first|exact HB.out|apply below_alloc|apply pw_below_drewN|apply below_drew1)|exact HB.out)⟩⟩
    ·rw[if_neg c3]at H
     exact absurd H mAM
   ·rw[if_neg c2]at H
    have c4:=decide_eq_false c2;clear c2;obtain rfl:=Option.some.inj H;obtain⟨s5,s6,s7⟩:=Kd.R_slice O1.out;subst s7;go_wp2
    first|go_end0|((try simp only[Exit.inBlock,Exit.then]);refine bodyPost_ret (results_none rfl _ _ _) rfl ?_)
    exact⟨by first|rfl|(simp[errW_none,errW_some] <;> rfl)|(simp[*,errW_none,errW_some] <;> rfl),by(with_reducible repeat (first|apply Kd.R_alloc|apply Kd.R_drewN|apply Kd.R_drew));exact O1.out,by repeat (first|(with_reducible first|exact HB.out|apply below_alloc|apply pw_below_drewN|apply below_drew1)|exact HB.out),by repeat (first|(with_reducible first|exact HK.out|apply Kept.alloc|apply Kept.drewN|apply Kept.drew)|exact HK.out)⟩
end Go.Proofs.Ytbajimbccbckkaa.Q12k
namespace Go.Proofs.Ytbajimbccbckkaa.Q12k
open Go.RowKit Go.Proofs.YtbajimbccbckkaaW.PrintWords Go.Proofs.YtbajimbccbckkaaW.PrintLast Go.Proofs.YtbajimbccbckkaaW.PrintMore
set_option linter.unusedVariables false
set_option linter.unusedSimpArgs false
theorem spoil_some:∀(d k i:Nat) (l:List S109),l.length<=1000->i+d=l.length->d<k->∃m,watchwordlaw0_SpoilLinks.l0 k l (i:Int)=some m:=by
  intro d
  induction d with
  | zero=>
    intro k i l hl hi hk
    obtain⟨k,rfl⟩:∃m,k=m+1:=⟨k-1,by omega⟩
    simp only[watchwordlaw0_SpoilLinks.l0]
    exact⟨l,if_neg (by omega)⟩
  | succ d ih=>
    intro k i l hl hi hk
    obtain⟨k,rfl⟩:∃m,k=m+1:=⟨k-1,by omega⟩
    have h4:wrap64 ((i:Int)+1)=((i+1:Nat):Int):=by rw[IntWalk.wrap64_in _ ⟨by omega,by omega⟩];omega
    simp only[watchwordlaw0_SpoilLinks.l0,h4]
    rw[if_pos (by omega),if_pos (by omega)]
    exact ih k (i+1) _ (by rw[List.length_set];exact hl) (by rw[List.length_set];omega) (by omega)
theorem spoil_links (l:List S109) (hl:l.length<=1000):∃m,watchwordlaw0_SpoilLinks.f 2000 l=some m:=
  spoil_some l.length 2000 0 l hl (by omega) (by omega)
theorem rdU_set_ne (ys:List S45) (x:S45) {i j:Nat} (h:i≠j):rd_T45 (ys.set i x) (j:Int)=rd_T45 ys (j:Int):=by
  unfold rd_T45;rw[Int.toNat_natCast,List.getD_eq_getElem?_getD,List.getD_eq_getElem?_getD,List.getElem?_set_ne h]
set_option maxHeartbeats 8000000 in
set_option maxRecDepth 100000 in
theorem watchwordlaw0_SpoilLsas.spoilt (P:Nat->Prop) (v:Value) (xs:List S45) (w0 w:World) (hB:Below w0.heap.size w0 w) (h:Kd.S k45 45 w w0.heap.size P v xs) (hn:xs.length<=1000000) (hx:∀j:Nat,j<xs.length->(rd_T45 xs (j:Int)).f3.length <=1000):
    Calls Try.prog 43 #[v] w λe w'=>e= .returned (.tuple #[])/\(∃ys,Kd.S k45 45 w' w0.heap.size (λk=>P k\/w.heap.size<=k) v ys)/\Below w0.heap.size w0 w'/\Kept w w' P:=by
  have HS0:=Aside0.mk h
  have HX0:=Aside0.mk hx
  have HB:=Aside0.mk hB
  have HN0:=Aside0.mk hn
  clear h hx hB hn
  go_enter Try.func43,Try.ntmps43
  go_wp2
  go_loopg [2] xs.length (λkx s2 wr=>∃(i:Nat) (ys:List S45),s2= .int .i64 (i:Int)/\Aside0 (i<=xs.length)/\Aside0 (xs.length-i<=kx)/\Aside0 (ys.length=xs.length)/\Aside0 (Kd.S k45 45 wr w0.heap.size (λk=>P k\/w.heap.size<=k) v ys)/\Aside0 (∀j:Nat,i<=j->j<xs.length->(rd_T45 ys (j:Int)).f3.length <=1000)/\Aside0 (Below w0.heap.size w0 wr)/\Aside0 (Kept w wr P))
  case atStart=>exact⟨0,xs,rfl,⟨Nat.zero_le _⟩,⟨by omega⟩,⟨rfl⟩,⟨Kd.S_mono HS0.out (λ_ hk=> .inl hk)⟩,⟨λj _ hj=>HX0.out j hj⟩,HB,⟨Kept.refl w P⟩⟩
  case round=>
    clear HS0 HX0 HB
    obtain⟨i,ys,rfl,HI,HK,HN,HS,HX,HB,HF⟩:=hrel
    by_cases hi:i<xs.length
    · have hlen:0<ys.length:=by rw[HN.out];omega
      obtain⟨g,cap,ev,hg,hgl,cells,hgc⟩:=Kd.S_form HS.out hlen
      subst ev
      have hiy:(i:Int)<(ys.length:Int):=by rw[HN.out];omega
      have hc:decide (i<ys.length)=true:=decide_eq_true (by omega)
      have e0:((i:Nat):Int).toNat =i:=Int.toNat_natCast i
      obtain⟨oki,c,hcl,hM,hcc,hfr,hoki,hH⟩:=Kd.S_elem HS.out z45 (i:Int) (Int.natCast_nonneg _) hiy
      rw[e0]at hM hcc hfr
      obtain⟨v3,rfl,hv3⟩:=k45_openM hM
      have hl3:(ys.getD i z45).f3.length <=1000:=HX.out i (Nat.le_refl _) hi
      generalize hel:ys.getD i z45=el at*
      obtain⟨m,hm⟩:=spoil_links el.f3 hl3
      obtain⟨A3,c3,e3⟩:=Kd.R_slice hv3
      subst e3
      have hc3:wr.cell? ⟨g,i*4+3,none⟩=some (.slice A3 el.f3.length c3):=hcc 3 _ rfl
      have HH:=Aside0.mk hH
      have HGP:=Aside0.mk ((Kd.S_R HS.out).1 g rfl)
      have HOK:=Aside0.mk hoki
      have HV:=Aside0.mk hv3
      have HM:=Aside0.mk hm
      have HG:=Aside0.mk hg
      clear hcc hH hv3 hm hg hel hM hcl hfr hoki hgc hgl hlen hl3 HS
      go_upto_region 4 with(first|((with_reducible refine gate_callee (f:=66) rfl ?_);refine goesL_ (some 14) rfl rfl Try.func66 (by kernel_rfl) rfl #[.slice A3 el.f3.length c3] rfl (by(try simp only[List.map_toArray,List.map_cons,List.map_nil]);first|done|rfl) ?_;(with_reducible refine(watchwordlaw0_SpoilLinks.calls 2000 oki (.slice A3 el.f3.length c3) el.f3 m w0 wr HB.out HV.out HM.out).mono ?_);rintro e w5 ⟨rfl,hr5,hb5,hk5⟩;refine⟨_,rfl,?_⟩;have HR5:=Aside0.mk hr5;have HB5:=Aside0.mk hb5;have HK5:=Aside0.mk hk5;clear hr5 hb5 hk5))
      have n0_:=Aside0.mk (show Kd.S k45 45 w5 w0.heap.size (λk=>P k\/w.heap.size<=k) (.slice (some ⟨g,0,none⟩) ys.length cap) (ys.set i ⟨el.f0,el.f1,el.f2,m⟩)from by
          have h1:=Kd.H_step (Kd.H_widen HH.out) (w1:=w5) (λk _ hk hlt=>HK5.out.2 k hlt (λh=>hk (.inl h)))
          have h2:=Kd.H_back h1 (x':=(⟨el.f0,el.f1,el.f2,m⟩:S45)) (k45_mkM w5 w0.heap.size _ ⟨el.f0,el.f1,el.f2,m⟩ HR5.out) (λk hk=>hk.elim .inl (λh=> .inr ⟨.inr (Nat.le_trans HF.out.1 h),h⟩))
          rw[Int.toNat_natCast]at h2;exact h2)
      have HF5:=Aside0.mk (Kept.then_ HF.out HK5.out (λk hk=>(HOK.out k hk).1))
      have n1_:(ys.set i ⟨el.f0,el.f1,el.f2,m⟩).length =ys.length:=List.length_set
      obtain⟨oki6,c6,hcl6,hM6,hcc6,hfr6,hoki6,hH6⟩:=Kd.S_elem n0_.out z45 (i:Int) (Int.natCast_nonneg _) (by omega)
      rw[Int.toNat_natCast]at hM6 hcc6 hfr6
      rw[show(ys.set i (⟨el.f0,el.f1,el.f2,m⟩:S45)).getD i z45=⟨el.f0,el.f1,el.f2,m⟩from by rw[List.getD_eq_getElem?_getD,List.getElem?_set_self (by omega)];rfl]at hM6
      obtain⟨v6,rfl,hv6⟩:=k45_openM hM6
      have hx6:w5.cell? ⟨g,i*4,none⟩=some (.int .i64 el.f0):=hcc6 0 _ rfl
      have hf6:w5.frozen? ⟨g,i*4,none⟩=false:=hfr6 0
      have HP6:=Aside0.mk (Kd.S_seg (okg:=λ_=>False) (d:=k45) (e:=45) (Kd.H_mono hH6 (λk hk=>⟨hk,id⟩)) (Int.natCast_nonneg i) (by omega) (seg:=[.int .i64 (Go.bits .xor .i64 el.f0 90)]) (j:=0) (show 0+1<=4 from by decide) (x':=(⟨Go.bits .xor .i64 el.f0 90,el.f1,el.f2,m⟩:S45)) (k45_mkM w5 w0.heap.size oki6 ⟨Go.bits .xor .i64 el.f0 90,el.f1,el.f2,m⟩ hv6) (λ_ hk=> .inl hk) (λ_ hk=>hk.elim))
      clear HF HOK
      clear hcl6 hcc6 hfr6 hM6 hoki6 hH6 hv6 HK5 HR5 n0_ HB HH HV HM hc3
      have hy6:decide (i<(ys.set i (⟨el.f0,el.f1,el.f2,m⟩:S45)).length)=true:=decide_eq_true (by rw[n1_];exact of_decide_eq_true hc)
      go_wp2_with (first|((with_reducible refine gate_store (t:=3) (p:=24) rfl ?_);refine store_event (t:=3) (p:=24) (v:=?vo_w7) (w1:=(w5.setCell ⟨g,i*4,none⟩ (.int .i64 (Go.bits .xor .i64 el.f0 90)))) ?hg ?ho ?hn ?hr ?_;(case ho=>rfl);(case hg=>rfl);(case hn=>rfl);(case hr=>first|(go_simp;done)|(go_simp;rfl));intro w7 hw;have HW7:=Aside0.mk hw;clear hw))
      have hS7:Kd.S k45 45 w7 w0.heap.size (λk=>P k\/w.heap.size<=k) (.slice (some ⟨g,0,none⟩) ys.length cap) ((ys.set i (⟨el.f0,el.f1,el.f2,m⟩:S45)).set i ⟨Go.bits .xor .i64 el.f0 90,el.f1,el.f2,m⟩):=by
        rw[HW7.out];have h9:=HP6.out.1;rw[Int.toNat_natCast]at h9;exact h9
      go_roundg (xs.length-(i+1))
      case measure=>have:=HK.out;omega
      case rel=>
        refine⟨i+1,_,by have hN:=HN0.out;first|rfl|(rw[IntWalk.wrap64_in _ ⟨by omega,by omega⟩];rfl),⟨by omega⟩,⟨Nat.le_refl _⟩,⟨by rw[List.length_set,List.length_set];exact HN.out⟩,⟨hS7⟩,⟨λj h1 h2=>?_⟩,⟨?_⟩,⟨?_⟩⟩
        · rw[rdU_set_ne _ _ (by omega),rdU_set_ne _ _ (by omega)];exact HX.out j (by omega) h2
        · rw[HW7.out];exact below_set HB5.out HG.out
        · rw[HW7.out];exact Kept.setCell HF5.out HGP.out _
    · have hiy:¬(i:Int)<(ys.length:Int):=by rw[HN.out];omega
      have hc:decide (i<ys.length)=false:=decide_eq_false (by rw[HN.out];omega)
      obtain⟨A9,c9,e9⟩:=Kd.S_slice HS.out
      subst e9
      go_wp2
      first|go_end0|((try simp only[Exit.inBlock,Exit.then]);refine bodyPost_ret (results_none rfl _ _ _) rfl ?_)
      exact⟨by first|rfl|simp,⟨ys,HS.out⟩,HB.out,HF.out⟩
theorem spoil_ints_some:∀(d k i:Nat) (l:List Int),l.length<=1000->i+d=l.length->d<k->∃m,watchwordlaw0_SpoilInts.l0 k l (i:Int)=some m:=by
  intro d
  induction d with
  | zero=>
    intro k i l hl hi hk
    obtain⟨k,rfl⟩:∃m,k=m+1:=⟨k-1,by omega⟩
    simp only[watchwordlaw0_SpoilInts.l0]
    exact⟨l,if_neg (by omega)⟩
  | succ d ih=>
    intro k i l hl hi hk
    obtain⟨k,rfl⟩:∃m,k=m+1:=⟨k-1,by omega⟩
    have h4:wrap64 ((i:Int)+1)=((i+1:Nat):Int):=by rw[IntWalk.wrap64_in _ ⟨by omega,by omega⟩];omega
    simp only[watchwordlaw0_SpoilInts.l0,h4]
    rw[if_pos (by omega),if_pos (by omega)]
    exact ih k (i+1) _ (by rw[List.length_set];exact hl) (by rw[List.length_set];omega) (by omega)
theorem spoil_heads_some:∀(d k i:Nat) (l:List S47),l.length<=1000->i+d=l.length->d<k->∃m,watchwordlaw0_SpoilLsaHeads.l0 k l (i:Int)=some m:=by
  intro d
  induction d with
  | zero=>
    intro k i l hl hi hk
    obtain⟨k,rfl⟩:∃m,k=m+1:=⟨k-1,by omega⟩
    simp only[watchwordlaw0_SpoilLsaHeads.l0]
    exact⟨l,if_neg (by omega)⟩
  | succ d ih=>
    intro k i l hl hi hk
    obtain⟨k,rfl⟩:∃m,k=m+1:=⟨k-1,by omega⟩
    have h4:wrap64 ((i:Int)+1)=((i+1:Nat):Int):=by rw[IntWalk.wrap64_in _ ⟨by omega,by omega⟩];omega
    simp only[watchwordlaw0_SpoilLsaHeads.l0,h4]
    rw[if_pos (by omega),if_pos (by omega)]
    exact ih k (i+1) _ (by rw[List.length_set];exact hl) (by rw[List.length_set];omega) (by omega)
theorem two_types {w:World} {k q t:Nat} {c c':Array Value} (h:w.heap[k]? =some (.cells c q (0,0))) (h':w.heap[k]? =some (.cells c' t (0,0))):q=t:=by
  rw[h]at h';injection h' with h';injection h'
abbrev own3 (v:Value):Nat->Prop:=λk=>v.ownBlock=some k
abbrev inS (w:World):Nat->Prop:=λk=>∃q,q∈45::k45.E/\∃cells,w.heap[k]? =some (.cells cells q (0,0))
set_option maxHeartbeats 8000000 in
set_option maxRecDepth 100000 in
theorem watchwordlaw0_SpoilPacket.spoilt (T R:Int) (vh vl vd:Value) (xh:List Int) (xl:List S45) (xd:List S47) (w0 w:World) (hB:Below w0.heap.size w0 w) (hh:Kd.R (Kd.int .i64) 3 w w0.heap.size (λ_=>True) vh xh) (hl:Kd.S k45 45 w w0.heap.size (λ_=>True) vl xl) (hd:Kd.R k47 47 w w0.heap.size (λ_=>True) vd xd)
    (hnh:xh.length<=1000) (hnl:xl.length<=1000000) (hx:∀j:Nat,j<xl.length->(rd_T45 xl (j:Int)).f3.length <=1000) (hnd:xd.length<=1000):
    Calls Try.prog 17 #[.agg #[.int .i64 T,.int .i64 R,vh,vl,vd]] w λe w'=>e= .returned (.tuple #[])/\Below w0.heap.size w0 w':=by
  obtain⟨mh,hmh⟩:=spoil_ints_some xh.length 2000 0 xh hnh (by omega) (by omega)
  obtain⟨md,hmd⟩:=spoil_heads_some xd.length 2000 0 xd hnd (by omega) (by omega)
  have hmh:watchwordlaw0_SpoilInts.f 2000 xh=some mh:=hmh
  have hmd:watchwordlaw0_SpoilLsaHeads.f 2000 xd=some md:=hmd
  obtain⟨Ah,ch,eh⟩:=Kd.R_slice hh
  subst eh
  obtain⟨Al,cl,el⟩:=Kd.S_slice hl
  subst el
  obtain⟨Ad,cd,ed⟩:=Kd.R_slice hd
  subst ed
  have HH:=Aside0.mk hh
  have HL:=Aside0.mk hl
  have HD:=Aside0.mk hd
  have HX:=Aside0.mk hx
  have HB:=Aside0.mk hB
  have HNL:=Aside0.mk hnl
  have HMH:=Aside0.mk hmh
  have HMD:=Aside0.mk hmd
  clear hh hl hd hx hB hnh hnl hnd hmh hmd
  go_enter Try.func17,Try.ntmps17
  go_wp2_with (first|((with_reducible refine gate_dst (N:=1) rfl ?_);refine box_event ?hg (N:=1) ?hd (cs:=#[.int .i64 T,.int .i64 R,.slice Ah xh.length ch,.slice Al xl.length cl,.slice Ad xd.length cd]) (t:=26) ?hr ?_;(case hd=>rfl);(case hg=>rfl);(case hr=>first|(go_simp;done)|(go_simp;rfl));intro gb hg w1 hbox hb;replace HH:=Aside0.mk (Kd.R_below HH.out hb);replace HL:=Aside0.mk (Kd.S_below HL.out hb);replace HD:=Aside0.mk (Kd.R_below HD.out hb);replace HB:=Aside0.mk (below_step HB.out hb);have BK:=Aside0.mk hbox;have hcz0:w1.cell? ⟨gb,2,none⟩=some (.slice Ah xh.length ch):=(blk_cell hbox 2).trans rfl;clear hb hbox hg)|((with_reducible refine gate_callee (f:=42) rfl ?_);refine goesL_ (some 4) rfl rfl Try.func42 (by kernel_rfl) rfl #[.slice Ah xh.length ch] rfl (by(try simp only[List.map_toArray,List.map_cons,List.map_nil]);first|done|rfl) ?_;(with_reducible refine(watchwordlaw0_SpoilInts.calls 2000 (own3 (.slice Ah xh.length ch)) (.slice Ah xh.length ch) xh mh w0 _ HB.out (Kd.R_reok rfl HH.out (λ_ hk=>hk)) HMH.out).mono ?_);rintro e w2 ⟨rfl,hr,hb,hk⟩;refine⟨_,rfl,?_⟩;have n0_:=Aside0.mk (Kd.S_mono (ok':=λ_=>True) (Kd.S_kept (Kd.S_bound HL.out) hk (λk h1 h2=>by obtain⟨_,_,_,q,hq,c,hc⟩:=h1;obtain⟨c',h3⟩:=Kd.R_typed HH.out k h2;have he:=two_types hc h3;subst he;revert hq;decide)) (λ_ _=>trivial));have n1_:=Aside0.mk (Kd.R_mono (ok':=λ_=>True) (Kd.R_kept (Kd.R_bound HD.out) hk (λk h1 h2=>by obtain⟨_,_,_,q,hq,c,hc⟩:=h1;obtain⟨c',h3⟩:=Kd.R_typed HH.out k h2;have he:=two_types hc h3;subst he;revert hq;decide)) (λ_ _=>trivial));have n2_:=Aside0.mk (blk_kept BK.out hk (λh2=>by obtain⟨c',h3⟩:=Kd.R_typed HH.out gb h2;have he:=two_types BK.out h3;revert he;decide));have n3_:=Aside0.mk hb;clear HL HD BK HB HH hr hb hk hcz0;have HL:=n0_;have HD:=n1_;have BK:=n2_;have HB:=n3_;clear n0_ n1_ n2_ n3_;have hcz1:w2.cell? ⟨gb,3,none⟩=some (.slice Al xl.length cl):=(blk_cell BK.out 3).trans rfl)|((with_reducible refine gate_callee (f:=43) rfl ?_);refine goesL_ (some 7) rfl rfl Try.func43 (by kernel_rfl) rfl #[.slice Al xl.length cl] rfl (by(try simp only[List.map_toArray,List.map_cons,List.map_nil]);first|done|rfl) ?_;(with_reducible refine(watchwordlaw0_SpoilLsas.spoilt (inS w2) (.slice Al xl.length cl) xl w0 w2 HB.out (Kd.S_mono (Kd.S_bound HL.out) (λ_ hk=>hk.2.2.2)) HNL.out HX.out).mono ?_);rintro e w3 ⟨rfl,hs,hb,hk⟩;refine⟨_,rfl,?_⟩;have n1_:=Aside0.mk (Kd.R_mono (ok':=λ_=>True) (Kd.R_kept (Kd.R_bound HD.out) hk (λk h1 h2=>by obtain⟨_,_,_,q,hq,c,hc⟩:=h1;obtain⟨q',hq',c',h3⟩:=h2;have he:=two_types hc h3;subst he;rw[List.mem_singleton.1 (show q∈ [47]from hq)]at hq';revert hq';decide)) (λ_ _=>trivial));have n2_:=Aside0.mk (blk_kept BK.out hk (λh2=>by obtain⟨q',hq',c',h3⟩:=h2;have he:=two_types BK.out h3;subst he;revert hq';decide));have n3_:=Aside0.mk hb;clear HL HD BK HB hs hb hk hcz1;have HD:=n1_;have BK:=n2_;have HB:=n3_;clear n1_ n2_ n3_;have hcz2:w3.cell? ⟨gb,4,none⟩=some (.slice Ad xd.length cd):=(blk_cell BK.out 4).trans rfl)|((with_reducible refine gate_callee (f:=44) rfl ?_);refine goesL_ (some 10) rfl rfl Try.func44 (by kernel_rfl) rfl #[.slice Ad xd.length cd] rfl (by(try simp only[List.map_toArray,List.map_cons,List.map_nil]);first|done|rfl) ?_;(with_reducible refine(watchwordlaw0_SpoilLsaHeads.calls 2000 (λ_=>True) (.slice Ad xd.length cd) xd md w0 _ HB.out HD.out HMD.out).mono ?_);rintro e w4 ⟨rfl,hr,hb,hk⟩;refine⟨_,rfl,?_⟩;have n3_:=Aside0.mk hb;clear HD HB hr hb hk;have HB:=n3_;clear n3_))
  first|go_end0|((try simp only[Exit.inBlock,Exit.then]);refine bodyPost_ret (results_none rfl _ _ _) rfl ?_)
  exact⟨by first|rfl|simp,HB.out⟩
end Go.Proofs.Ytbajimbccbckkaa.Q12k
namespace Go.Proofs.Ytbajimbccbckkaa.Q12k
open Go.RowKit Go.Proofs.Ytbajimbccbckkaa.Stp Go.Proofs.YtbajimbccbckkaaW.PrintWords Go.Proofs.YtbajimbccbckkaaW.PrintLast Go.Proofs.YtbajimbccbckkaaW.PrintMore
attribute [local go_sem] max2_int min2_int max_two min_two max_three min_three max_four min_four
set_option linter.unusedVariables false
set_option linter.unusedSimpArgs false
def watchwordlaw0_CopyLsa.f (a0_0:Int) (a0_1:Int) (a0_2:Int) (l0_3:List (S109)):Option (Int × Int × Int × (List (S109))):=(some (([]:List (S109)):List (S109))).bind λy103=>(if y103.length+l0_3.length<8796093022208 then(some (a0_0,a0_1,a0_2,(y103++l0_3)))else(none))
set_option maxHeartbeats 8000000 in
set_option maxRecDepth 100000 in
theorem watchwordlaw0_CopyLsa.calls (a0_0:Int) (a0_1:Int) (a0_2:Int) (A0_3:Option Addr) (c0_3:Nat) (l0_3:List (S109)) (r1:Int) (r2:Int) (r3:Int) (r4:List (S109)) (w:World) (hr0_3:Kd.C k109 w A0_3 l0_3.length l0_3) (hc0_3:l0_3.length<=c0_3) (h:watchwordlaw0_CopyLsa.f a0_0 a0_1 a0_2 l0_3=some (r1,r2,r3,r4)):
  Calls Try.prog 45 #[.agg #[.int .i64 a0_0,.int .i64 a0_1,.int .i64 a0_2,.slice A0_3 l0_3.length c0_3]] w λe w'=>∃v3_:Value,e= .returned (.agg #[.int .i64 r1,.int .i64 r2,.int .i64 r3,v3_])/\Kd.R k109 109 w' w.heap.size (λ_=>True) v3_ r4/\Below w.heap.size w w':=by
 have hu45:=Try.underlying45;have R0:=Aside0.mk hr0_3;have K0:=Aside0.mk hc0_3;clear hr0_3 hc0_3;have HB:=Aside0.mk (Below.refl w.heap.size w);have H:((some (([]:List (S109)):List (S109))).bind λy0=>(if y0.length+l0_3.length<8796093022208 then(some (a0_0,a0_1,a0_2,(y0++l0_3)))else(none)))=some (r1,r2,r3,r4):=h;clear h;obtain⟨y0,Y0⟩:∃y_:List (S109),y_=(([]:List (S109))):=⟨_,rfl⟩
 replace H:(if y0.length+l0_3.length<8796093022208 then(some (a0_0,a0_1,a0_2,(y0++l0_3)))else(none))=some (r1,r2,r3,r4):=by first|(rw[Y0];with_reducible exact H)|(have H2_:=(Option.bind_some _ _).symm.trans H;rw[Y0];with_reducible exact H2_)|(have H2_:=(Option.bind_some _ _).symm.trans H;with_reducible exact H2_)|with_reducible exact H|(rw[Y0];exact H)|exact H
 have Y1:=Aside0.mk Y0;clear Y0
 by_cases c2:y0.length+l0_3.length<8796093022208
 ·rw[if_pos c2]at H
  have L0:=Aside0.mk c2;clear c2;obtain⟨y1,Y2⟩:∃y_:List (S109),y_=(y0++l0_3):=⟨_,rfl⟩
  replace H:(some (a0_0,a0_1,a0_2,y1))=some (r1,r2,r3,r4):=by first|(rw[Y2];with_reducible exact H)|(have H2_:=(Option.bind_some _ _).symm.trans H;rw[Y2];with_reducible exact H2_)|(have H2_:=(Option.bind_some _ _).symm.trans H;with_reducible exact H2_)|with_reducible exact H|(rw[Y2];exact H)|exact H
  have Y3:=Aside0.mk Y2;clear Y2;simp only[Option.some.injEq,Prod.mk.injEq]at H;obtain⟨rfl,rfl,rfl,rfl⟩:=H
  go_enter Try.func45,Try.ntmps45
  go_wp2_with (first|((with_reducible refine gate_dst (N:=1) rfl ?_);refine bxV (N:=1) (cs:=#[.int .i64 a0_0,.int .i64 a0_1,.int .i64 a0_2,.slice A0_3 l0_3.length c0_3]) (t:=45) (h:=?_);intro g0 hg w3 hbox hb;have B0:=Aside0.mk (hbox);have G0:=Aside0.mk ((mJ:w.heap.size<=g0));have G1:=Aside0.mk ((mJ:w.heap.size<=g0));replace HB:=Aside0.mk (below_step mA hb);clear hb hbox hg)|((with_reducible refine gate_dst (N:=2) rfl ?_);refine bxV (N:=2) (cs:=#[.int .i64 0,.int .i64 0,.int .i64 0,.slice none 0 0]) (t:=45) (h:=?_);intro g1 hg w4 hbox hb;have B1:=Aside0.mk (hbox);have G2:=Aside0.mk ((mT:w.heap.size<=g1));have G3:=Aside0.mk ((mT:w.heap.size<=g1));replace HB:=Aside0.mk (below_step mC hb);have N0:=Aside0.mk ((mAY:g0≠g1));have N1:=Aside0.mk ((mAZ:g1≠g0));replace B0:=Aside0.mk (blk_below mB hb);clear hb hbox hg)|((with_reducible refine gate_dst (N:=3) rfl ?_);refine Kd.R_lit k109 _ 109 ?hg (N:=3) ?hd (xs:=([]:List (S109))) (inner:=[]) (ok:=λ_=>True) (okp:=λ_=>True) ?hr ?hp (λ_ hk=>hk) trivial (Below.refl _ _) (Nat.le_refl _) mAM ?_;(case hd=>rfl);(case hg=>rfl);(case hr=>first|(go_simp;done)|(go_simp;rfl));(case hp=>exact(Reps.none _ _));intro v104 w5 ho6 hb hg_ hnew_;clear hg_ hnew_;(first|rw[<-Y1.out]at ho6|(simp only[Int.reduceToNat]at ho6;rw[<-Y1.out]at ho6));have O0:=Aside0.mk (Kd.R_lower ho6 (below_size mD));replace B0:=Aside0.mk (blk_below mB hb);replace B1:=Aside0.mk (blk_below mL hb);replace HB:=Aside0.mk (below_step mD hb);clear hb ho6;have n0:=N0.out;have n1:=N1.out;obtain⟨z0,z1,z2,z3⟩:=bc4 B0.out;have z4:=blk_frozen B0.out)|((with_reducible refine gate_builtin (b:= .append) (xs:=#[.tmp 3,.tmp 5]) rfl ?_);at_builtin;refine Kd.R_append_rows k109 (w0:=w) w.heap.size rfl (.tmp 3) (.tmp 5) 43 109 (.agg #[(.int .i64 0),(.int .i64 0)]) 16 rfl Try.underlying43 info109 rfl mAQ mBQ v104 y0 l0_3 _ _ _ (λ_=>True) (λ_=>False) rfl rfl ?aO ?aR (λ_ _ h=>h) (λ_ h=>h.elim) ?aF ?aB ?aS ?aL ?_;(case aR=>repeat (first|exact(Kd.C_below R0.out HB.out)|(with_reducible refine Kd.C_alloc ?_ _)|(with_reducible refine Kd.C_drewN ?_ _)|(with_reducible refine Kd.C_drew ?_)));(case aB=>exact mD);(case aF=>exact(λ_ _=>trivial));(case aO=>exact mN);(case aS=>exact(below_size mD));(case aL=>have:=L0.out;omega);intro v107 w9 ho hb hg hat;rw[<-Y3.out]at ho;replace B0:=Aside0.mk (blk_grown (g:=g0) (o:= .cells #[.int .i64 a0_0,.int .i64 a0_1,.int .i64 a0_2,.slice A0_3 l0_3.length c0_3] 45 (0,0)) mB hg (Kd.R_ne O0.out B0.out mAQ));replace B1:=Aside0.mk (blk_grown (g:=g1) (o:= .cells #[.int .i64 0,.int .i64 0,.int .i64 0,.slice none 0 0] 45 (0,0)) mL hg (Kd.R_ne O0.out B1.out mAQ));replace HB:=Aside0.mk (hb);have O1:=Aside0.mk (ho);clear O0;clear ho hb hg hat;obtain⟨s0,s1,s2⟩:=Kd.R_slice O1.out;subst s2;obtain⟨z5,z6,z7,z8⟩:=bc4 B0.out;have z9:=blk_frozen B0.out)|((with_reducible refine gate_store (t:=43) (p:=7) rfl ?_);refine stV (t:=43) (p:=7) (w1:=(w9.setCell ⟨g0,3,none⟩ (.slice s0 y1.length s1))) (h:=?_);intro wa hw;replace O1:Aside0 (Kd.R k109 109 wa w.heap.size (λ_=>True) (.slice s0 y1.length s1) y1):=⟨(by rw[hw];exact(by(with_reducible repeat (first|apply Kd.R_alloc|apply Kd.R_drewN|apply Kd.R_drew));exact Kd.R_mono (Kd.R_far (p:=⟨g0,3,none⟩) (Kd.R_types O1.out B0.out mAQ) (λ_ hk=>hk.2) (.slice s0 y1.length s1)) (λ_ hk=>trivial)))⟩;replace B0:Aside0 (wa.heap[g0]? =some (.cells #[.int .i64 a0_0,.int .i64 a0_1,.int .i64 a0_2,.slice s0 y1.length s1] 45 (0,0))):=⟨(by rw[hw];exact(by(with_reducible repeat (first|refine blk_drewN ?_ _|refine blk_drew ?_ |refine blk_alloc ?_ _));refine blk_put (cs:=#[.int .i64 a0_0,.int .i64 a0_1,.int .i64 a0_2,.slice A0_3 l0_3.length c0_3]) ?_ 3 _ rfl;(with_reducible repeat (first|refine blk_drewN ?_ _|refine blk_drew ?_ |refine blk_alloc ?_ _));exact B0.out))⟩;replace B1:Aside0 (wa.heap[g1]? =some (.cells #[.int .i64 0,.int .i64 0,.int .i64 0,.slice none 0 0] 45 (0,0))):=⟨(by rw[hw];exact(by(with_reducible repeat (first|refine blk_drewN ?_ _|refine blk_drew ?_ |refine blk_alloc ?_ _));refine blk_far ?_ N1.out _;(with_reducible repeat (first|refine blk_drewN ?_ _|refine blk_drew ?_ |refine blk_alloc ?_ _));exact B1.out))⟩;replace HB:Aside0 (Below w.heap.size w wa):=⟨mAR⟩;clear hw;obtain⟨za,zb,zc,zd⟩:=bc4 B0.out;have ze:=blk_frozen B0.out;obtain⟨zf,zg,zh,zi⟩:=bc4 B1.out;have zj:=blk_frozen B1.out)|((with_reducible refine gate_store (t:=45) (p:=2) rfl ?_);refine stV (t:=45) (p:=2) (w1:=((((wa.setCell ⟨g1,0,none⟩ (.int .i64 a0_0)).setCell ⟨g1,1,none⟩ (.int .i64 a0_1)).setCell ⟨g1,2,none⟩ (.int .i64 a0_2)).setCell ⟨g1,3,none⟩ (.slice s0 y1.length s1))) (h:=?_);intro wc hw;replace O1:Aside0 (Kd.R k109 109 wc w.heap.size (λ_=>True) (.slice s0 y1.length s1) y1):=⟨(by rw[hw];exact(by(with_reducible repeat (first|apply Kd.R_alloc|apply Kd.R_drewN|apply Kd.R_drew));exact Kd.R_mono (Kd.R_far (p:=⟨g1,3,none⟩) (Kd.R_far (p:=⟨g1,2,none⟩) (Kd.R_far (p:=⟨g1,1,none⟩) (Kd.R_far (p:=⟨g1,0,none⟩) (Kd.R_types O1.out B1.out mAQ) (λ_ hk=>hk.2) (.int .i64 a0_0)) (λ_ hk=>hk.2) (.int .i64 a0_1)) (λ_ hk=>hk.2) (.int .i64 a0_2)) (λ_ hk=>hk.2) (.slice s0 y1.length s1)) (λ_ hk=>trivial)))⟩;replace B0:Aside0 (wc.heap[g0]? =some (.cells #[.int .i64 a0_0,.int .i64 a0_1,.int .i64 a0_2,.slice s0 y1.length s1] 45 (0,0))):=⟨(by rw[hw];exact(by(with_reducible repeat (first|refine blk_drewN ?_ _|refine blk_drew ?_ |refine blk_alloc ?_ _));refine blk_far ?_ N0.out _;(with_reducible repeat (first|refine blk_drewN ?_ _|refine blk_drew ?_ |refine blk_alloc ?_ _));refine blk_far ?_ N0.out _;(with_reducible repeat (first|refine blk_drewN ?_ _|refine blk_drew ?_ |refine blk_alloc ?_ _));refine blk_far ?_ N0.out _;(with_reducible repeat (first|refine blk_drewN ?_ _|refine blk_drew ?_ |refine blk_alloc ?_ _));refine blk_far ?_ N0.out _;(with_reducible repeat (first|refine blk_drewN ?_ _|refine blk_drew ?_ |refine blk_alloc ?_ _));exact B0.out))⟩;replace B1:Aside0 (wc.heap[g1]? =some (.cells #[.int .i64 a0_0,.int .i64 a0_1,.int .i64 a0_2,.slice s0 y1.length s1] 45 (0,0))):=⟨(by rw[hw];exact(by(with_reducible repeat (first|refine blk_drewN ?_ _|refine blk_drew ?_ |refine blk_alloc ?_ _));refine blk_put (cs:=#[.int .i64 a0_0,.int .i64 a0_1,.int .i64 a0_2,.slice none 0 0]) ?_ 3 _ rfl;(with_reducible repeat (first|refine blk_drewN ?_ _|refine blk_drew ?_ |refine blk_alloc ?_ _));refine blk_put (cs:=#[.int .i64 a0_0,.int .i64 a0_1,.int .i64 0,.slice none 0 0]) ?_ 2 _ rfl;(with_reducible repeat (first|refine blk_drewN ?_ _|refine blk_drew ?_ |refine blk_alloc ?_ _));refine blk_put (cs:=#[.int .i64 a0_0,.int .i64 0,.int .i64 0,.slice none 0 0]) ?_ 1 _ rfl;(with_reducible repeat (first|refine blk_drewN ?_ _|refine blk_drew ?_ |refine blk_alloc ?_ _));refine blk_put (cs:=#[.int .i64 0,.int .i64 0,.int .i64 0,.slice none 0 0]) ?_ 0 _ rfl;(with_reducible repeat (first|refine blk_drewN ?_ _|refine blk_drew ?_ |refine blk_alloc ?_ _));exact B1.out))⟩;replace HB:Aside0 (Below w.heap.size w wc):=⟨mAR⟩;clear hw))
  refine bodyPost_ret (results_cell_row rfl _ _ g1 45 #[.int .i64 a0_0,.int .i64 a0_1,.int .i64 a0_2,.slice s0 y1.length s1] (0,0) _ rfl mL Try.underlying45 rfl mAD) rfl ?_;exact⟨_,by first|rfl|(simp[errW_none,errW_some] <;> rfl)|(simp[*,errW_none,errW_some] <;> rfl),by(with_reducible repeat (first|apply Kd.R_alloc|apply Kd.R_drewN|apply Kd.R_drew));exact O1.out,by repeat (first|(with_reducible first|exact HB.out|apply below_alloc|apply pw_below_drewN|apply below_drew1|refine below_set ?_ G1.out|refine below_set ?_ G3.out)|exact HB.out)⟩
 ·rw[if_neg c2]at H
  exact absurd H mAM
def watchwordlaw0_CopyLsas.l0:Nat->List (S45)->List (S45)->Int->Option ((List (S45)))
 |0,_,_,_=>none
 |k+1,x0,x3,x4=>if x4<(x0.length:Int)then(if 0<=x4 then((watchwordlaw0_CopyLsa.f ((rd_T45 x0 x4).f0) ((rd_T45 x0 x4).f1) ((rd_T45 x0 x4).f2) ((rd_T45 x0 x4).f3)).bind λbt110=>(if x3.length<2932031007402 then(watchwordlaw0_CopyLsas.l0 k x0 (x3++[(⟨bt110.1,bt110.2.1,bt110.2.2.1,bt110.2.2.2⟩:S45)]) (wrap64 (x4+1)))else(none)))else(none))else(some x3)
def watchwordlaw0_CopyLsas.f (k:Nat) (l0:List (S45)):Option ((List (S45))):=watchwordlaw0_CopyLsas.l0 k l0 ([]:List (S45)) 0
theorem watchwordlaw0_CopyLsas.mono_l:∀k,(∀y0 y1 y2,LeO (watchwordlaw0_CopyLsas.l0 k y0 y1 y2) (watchwordlaw0_CopyLsas.l0 (k+1) y0 y1 y2))
 |0=>λ_ _ _ r h=>by simp[watchwordlaw0_CopyLsas.l0]at h
 |k+1=>by
  have ih0:=watchwordlaw0_CopyLsas.mono_l k
  ·intro y0 y1 y2
   unfold watchwordlaw0_CopyLsas.l0
   repeat' (with_reducible first|exact ih0 _ _ _|exact LeO.refl _|exact LeO.none _|refine LeO.ite ?_ ?_ |refine LeO.bind ?_ (λ_=>?_))
theorem watchwordlaw0_CopyLsas.mono:∀a0 k,LeO (watchwordlaw0_CopyLsas.f k a0) (watchwordlaw0_CopyLsas.f (k+1) a0):=by
 intro a0 k;have ih0:=watchwordlaw0_CopyLsas.mono_l k;unfold watchwordlaw0_CopyLsas.f
 repeat' (with_reducible first|exact ih0 _ _ _|exact LeO.refl _|exact LeO.none _|refine LeO.ite ?_ ?_ |refine LeO.bind ?_ (λ_=>?_))
set_option maxHeartbeats 8000000 in
set_option maxRecDepth 100000 in
theorem watchwordlaw0_CopyLsas.calls (k:Nat) (A0:Option Addr) (c0:Nat) (l0:List (S45)) (r:List (S45)) (w:World) (hr0:Kd.C k45 w A0 l0.length l0) (hc0:l0.length<=c0) (h:watchwordlaw0_CopyLsas.f k l0=some r):
  Calls Try.prog 19 #[.slice A0 l0.length c0] w λe w'=>∃v0_:Value,e= .returned (v0_)/\Kd.S k45 45 w' w.heap.size (λ_=>True) v0_ r/\Below w.heap.size w w':=by
 have hu45:=Try.underlying45;have R0:=Aside0.mk hr0;have K0:=Aside0.mk hc0;clear hr0 hc0;have HB:=Aside0.mk (Below.refl w.heap.size w);have H:(watchwordlaw0_CopyLsas.l0 k l0 ([]:List (S45)) 0)=some r:=h;clear h;have H':=Aside0.mk H;clear H
 go_enter Try.func19,Try.ntmps19
 go_wp2
 go_loopg [3,4] k (λkq v3 v4 w'=>∃(x1:List (S45)) (x2:Int),v4= .int .i64 x2/\Aside0 (watchwordlaw0_CopyLsas.l0 kq l0 x1 x2=some r)/\Aside0 (kq<=k)/\Aside0 (Kd.S k45 45 w' w.heap.size (λ_=>True) v3 x1)/\Aside0 (Below w.heap.size w w'))
 case atStart=>exact⟨(([]:List (S45))),(0),mK,H',⟨Nat.le_refl _⟩,⟨by first|exact Kd.S_nil _ _ _ _ _|exact Kd.N_nil _ _ _ _ _|exact Kd.V_nil _ _ _ _ _|exact Kd.Q_nil _ _ _ _ _|exact Kd.R_nil _ _ _ _ _⟩,⟨by repeat (first|(with_reducible first|exact HB.out|apply below_alloc|apply pw_below_drewN|apply below_drew1)|exact HB.out)⟩⟩
 case round=>
  clear H';(try clear c1);obtain⟨x1,x2,rfl,HA,HK1,O0,HB⟩:=hrel;cases gk with
  |zero=>exact absurd HA.out (by simp[watchwordlaw0_CopyLsas.l0])
  |succ k1=>
   have H:=HA.out;clear HA;simp only[watchwordlaw0_CopyLsas.l0]at H
   by_cases c2:x2<(l0.length:Int)
   ·rw[if_pos c2]at H
    have c6:=decide_eq_true c2;clear c2
    by_cases c3:0<=x2
    ·rw[if_pos c3]at H
     have cb:=decide_eq_true c3;clear c3;obtain⟨⟨t0,t1,t2,t3⟩,A1,H⟩:=bsE H;(try dsimp only at H);have A4:=Aside0.mk A1;clear A1
     by_cases c5:x1.length<2932031007402
     ·rw[if_pos c5]at H
      have L0:=Aside0.mk c5;clear c5;obtain⟨y3,Y0⟩:∃y_:List (S45),y_=(x1++[(⟨t0,t1,t2,t3⟩:S45)]):=⟨_,rfl⟩
      replace H:(watchwordlaw0_CopyLsas.l0 k1 l0 y3 (wrap64 (x2+1)))=some r:=by first|(rw[Y0];with_reducible exact H)|(have H2_:=(Option.bind_some _ _).symm.trans H;rw[Y0];with_reducible exact H2_)|(have H2_:=(Option.bind_some _ _).symm.trans H;with_reducible exact H2_)|with_reducible exact H|(rw[Y0];exact H)|exact H
      have Y1:=Aside0.mk Y0;clear Y0;have H':=Aside0.mk H;clear H;have p0:0<=(x2:Int):=of_decide_eq_true mE;have q0:x2<(l0.length:Int):=of_decide_eq_true mE;obtain⟨d0,A3,s0,e0,h0,h1,h2,h3,i0,i1⟩:=at_T45 R0.out x2 p0 q0;cases e0;replace h0:=hB HB h0;replace h1:=hB HB h1;replace h2:=hB HB h2;replace h3:=hB HB h3;have R1:=Aside0.mk i1;have K1:=Aside0.mk i0;clear i1 i0;replace p0:=eq_true p0;replace q0:=eq_true q0
      go_wp2_with (first|((with_reducible refine gate_callee (f:=45) rfl ?_);refine cLV (some 16) Try.func45 #[.agg #[.int .i64 ((rd_T45 l0 x2).f0),.int .i64 ((rd_T45 l0 x2).f1),.int .i64 ((rd_T45 l0 x2).f2),.slice A3 ((rd_T45 l0 x2).f3).length s0]] (h:=?_);(with_reducible refine(watchwordlaw0_CopyLsa.calls ((rd_T45 l0 x2).f0) ((rd_T45 l0 x2).f1) ((rd_T45 l0 x2).f2) _ _ ((rd_T45 l0 x2).f3) t0 t1 t2 t3 _ ?side1 ?side2 A4.out).mono ?_);(case side1=>repeat (first|exact(Kd.C_below R1.out HB.out)|(with_reducible refine Kd.C_alloc ?_ _)|(with_reducible refine Kd.C_drewN ?_ _)|(with_reducible refine Kd.C_drew ?_)));(case side2=>exact K1.out);rintro e w6 ⟨v114,rfl,ho0,hb⟩;refine⟨_,rfl,?_⟩;replace O0:=Aside0.mk (Kd.S_elder' mAF (Kd.R_base ho0) hb);have O1:=Aside0.mk (Kd.R_lower ho0 (below_size mA));replace HB:=Aside0.mk (below_step mA hb);(try clear hb);(try clear ho0);obtain⟨s1,s2,s3⟩:=Kd.R_slice O1.out;subst s3)|((with_reducible refine gate_builtin (b:= .append) (xs:=#[.tmp 11,.tmp 17]) rfl ?_);at_builtin;refine Kd.S_append k45 (w0:=w) w.heap.size rfl (.tmp 11) (.tmp 17) 23 45 (.agg #[(.int .i64 0),(.int .i64 0),(.int .i64 0),(.slice none 0 0)]) 48 rfl Try.underlying23 info45 rfl mAQ mBQ u3 x1 (⟨t0,t1,t2,t3⟩:S45) [.int .i64 t0,.int .i64 t1,.int .i64 t2,.slice s1 t3.length s2] (λ_=>True) (λk_=>some k_=(.slice s1 t3.length s2:Value).ownBlock) rfl rfl ?aP (λk_ hk_=>((Kd.R_mono (ok':=λk_=>((λ_=>True)) k_/\some k_≠(u3:Value).ownBlock) (Kd.R_apart' (O1.out) (Kd.S_typed O0.out) mAQ) (λk_ hk=>⟨trivial,hk.2⟩))).1 k_ hk_.symm) ?aF ?aO ?aB ?aS ?aL ?_;(case aP=>exact k45_mkM _ _ _ (⟨t0,t1,t2,t3⟩:S45) (Kd.R_mono (Kd.R_tight rfl (Kd.R_mono (ok':=λk_=>((λ_=>True)) k_/\some k_≠(u3:Value).ownBlock) (Kd.R_apart' (O1.out) (Kd.S_typed O0.out) mAQ) (λk_ hk=>⟨trivial,hk.2⟩))) (λ_ h_=>h_)));(case aB=>exact mA);(case aF=>exact(λ_ _=>trivial));(case aO=>exact(by(with_reducible repeat (first|apply Kd.S_alloc|apply Kd.S_drewN|apply Kd.S_drew));exact Kd.S_mono O0.out (λk_ hk=>⟨trivial,λe_=>hk.2 e_⟩)));(case aS=>exact(below_size mA));(case aL=>have:=L0.out;omega);intro v117 w7 ho hb hg hat;rw[<-Y1.out]at ho;replace HB:=Aside0.mk (hb);have O2:=Aside0.mk (ho);clear O0 O1;clear ho hb hg hat))
      go_roundg k1
      case measure=>have:=HK1.out;omega
      case rel=>exact⟨(y3),(wrap64 (x2+1)),mK,H',⟨by have:=HK1.out;omega⟩,⟨by(with_reducible repeat (first|apply Kd.S_alloc|apply Kd.S_drewN|apply Kd.S_drew));exact O2.out⟩,⟨by repeat (first|(with_reducible first|exact HB.out|apply below_alloc|apply pw_below_drewN|apply below_drew1)|exact HB.out)⟩⟩
     ·rw[if_neg c5]at H
      exact absurd H mAM
    ·rw[if_neg c3]at H
     exact absurd H mAM
   ·rw[if_neg c2]at H
    have c6:=decide_eq_false c2;clear c2;obtain rfl:=Option.some.inj H;go_wp2;go_ret;exact⟨_,by first|rfl|(simp[errW_none,errW_some] <;> rfl)|(simp[*,errW_none,errW_some] <;> rfl),by(with_reducible repeat (first|apply Kd.S_alloc|apply Kd.S_drewN|apply Kd.S_drew));exact O0.out,by repeat (first|(with_reducible first|exact HB.out|apply below_alloc|apply pw_below_drewN|apply below_drew1)|exact HB.out)⟩
def watchwordlaw0_CopyPacket.f (k:Nat) (a0_0:Int) (a0_1:Int) (l0_2:List Int) (l0_3:List (S45)) (l0_4:List (S47)):Option (Int × Int × List Int × (List (S45)) × (List (S47))):=(some (([]:List Int):List Int)).bind λy121=>(if y121.length+l0_2.length<17592186044416 then((watchwordlaw0_CopyLsas.f k l0_3).bind λt127=>((some (([]:List (S47)):List (S47))).bind λy130=>(if y130.length+l0_4.length<4398046511104 then(some (a0_0,a0_1,(y121++l0_2),t127,(y130++l0_4)))else(none))))else(none))
theorem watchwordlaw0_CopyPacket.mono:∀a0 a1 a2 a3 a4 k,LeO (watchwordlaw0_CopyPacket.f k a0 a1 a2 a3 a4) (watchwordlaw0_CopyPacket.f (k+1) a0 a1 a2 a3 a4):=by
 intro a0 a1 a2 a3 a4 k;unfold watchwordlaw0_CopyPacket.f
 repeat' (with_reducible first|exact watchwordlaw0_CopyLsas.mono _ _|exact LeO.refl _|exact LeO.none _|refine LeO.ite ?_ ?_ |refine LeO.bind ?_ (λ_=>?_))
def watchwordlaw0_CopyPacket.T1:Bool × List (List Nat × List Nat):=(true,[([],[]),([0],[0]),([],[]),([2],[2]),([],[]),([],[]),([5],[5]),([4,6],[4,6]),([],[]),([8],[8]),([9,7],[9]),([],[]),([],[]),([12],[12]),([11,13,10],[11,13]),([1,3,7,10,14],[1,3,7,10,14]),([15,14,0,1,2,3,4,5,6,7,8,9,10,11,12,13,14,15],[15])])
def watchwordlaw0_CopyPacket.B1:List Nat:=[0,1,0,4,0,0,32,112,0,256,1008,0,0,4096,16368,32767,65535]
theorem watchwordlaw0_CopyPacket.tab1:rtab .any (opsOf Try.f8 1)=watchwordlaw0_CopyPacket.T1:=by kernel_rfl
theorem watchwordlaw0_CopyPacket.bits1:waitsOk watchwordlaw0_CopyPacket.T1.2 watchwordlaw0_CopyPacket.B1=true:=by kernel_rfl
set_option maxHeartbeats 8000000 in
set_option maxRecDepth 100000 in
theorem watchwordlaw0_CopyPacket.calls (k:Nat) (a0_0:Int) (a0_1:Int) (A0_2:Option Addr) (c0_2:Nat) (l0_2:List Int) (A0_3:Option Addr) (c0_3:Nat) (l0_3:List (S45)) (A0_4:Option Addr) (c0_4:Nat) (l0_4:List (S47)) (r1:Int) (r2:Int) (r3:List Int) (r4:List (S45)) (r5:List (S47)) (w:World) (hr0_2:Kd.C (Kd.int .i64) w A0_2 l0_2.length l0_2) (hc0_2:l0_2.length<=c0_2) (hr0_3:Kd.C k45 w A0_3 l0_3.length l0_3) (hc0_3:l0_3.length<=c0_3) (hr0_4:Kd.C k47 w A0_4 l0_4.length l0_4) (hc0_4:l0_4.length<=c0_4) (h:watchwordlaw0_CopyPacket.f k a0_0 a0_1 l0_2 l0_3 l0_4=some (r1,r2,r3,r4,r5)):
  Calls Try.prog 8 #[.agg #[.int .i64 a0_0,.int .i64 a0_1,.slice A0_2 l0_2.length c0_2,.slice A0_3 l0_3.length c0_3,.slice A0_4 l0_4.length c0_4]] w λe w'=>∃v2_ v3_ v4_:Value,e= .returned (.agg #[.int .i64 r1,.int .i64 r2,v2_,v3_,v4_])/\Kd.R (Kd.int .i64) 3 w' w.heap.size (λ_=>True) v2_ r3/\Kd.S k45 45 w' w.heap.size (λ_=>True) v3_ r4/\Kd.R k47 47 w' w.heap.size (λ_=>True) v4_ r5/\Below w.heap.size w w':=by
 have hu26:=Try.underlying26;have R0:=Aside0.mk hr0_2;have K0:=Aside0.mk hc0_2;clear hr0_2 hc0_2;have R1:=Aside0.mk hr0_3;have K1:=Aside0.mk hc0_3;clear hr0_3 hc0_3;have R2:=Aside0.mk hr0_4;have K2:=Aside0.mk hc0_4;clear hr0_4 hc0_4;have HB:=Aside0.mk (Below.refl w.heap.size w);have H:((some (([]:List Int):List Int)).bind λy0=>(if y0.length+l0_2.length<17592186044416 then((watchwordlaw0_CopyLsas.f k l0_3).bind λt0=>((some (([]:List (S47)):List (S47))).bind λy1=>(if y1.length+l0_4.length<4398046511104 then(some (a0_0,a0_1,(y0++l0_2),t0,(y1++l0_4)))else(none))))else(none)))=some (r1,r2,r3,r4,r5):=h;clear h;obtain⟨y0,Y0⟩:∃y_:List Int,y_=(([]:List Int)):=⟨_,rfl⟩
 replace H:(if y0.length+l0_2.length<17592186044416 then((watchwordlaw0_CopyLsas.f k l0_3).bind λt0=>((some (([]:List (S47)):List (S47))).bind λy1=>(if y1.length+l0_4.length<4398046511104 then(some (a0_0,a0_1,(y0++l0_2),t0,(y1++l0_4)))else(none))))else(none))=some (r1,r2,r3,r4,r5):=by first|(rw[Y0];with_reducible exact H)|(have H2_:=(Option.bind_some _ _).symm.trans H;rw[Y0];with_reducible exact H2_)|(have H2_:=(Option.bind_some _ _).symm.trans H;with_reducible exact H2_)|with_reducible exact H|(rw[Y0];exact H)|exact H
 have Y1:=Aside0.mk Y0;clear Y0
 by_cases c2:y0.length+l0_2.length<17592186044416
 ·rw[if_pos c2]at H
  have L0:=Aside0.mk c2;clear c2;obtain⟨y2,Y2⟩:∃y_:List Int,y_=(y0++l0_2):=⟨_,rfl⟩
  replace H:((watchwordlaw0_CopyLsas.f k l0_3).bind λt0=>((some (([]:List (S47)):List (S47))).bind λy1=>(if y1.length+l0_4.length<4398046511104 then(some (a0_0,a0_1,y2,t0,(y1++l0_4)))else(none))))=some (r1,r2,r3,r4,r5):=by first|(rw[Y2];with_reducible exact H)|(have H2_:=(Option.bind_some _ _).symm.trans H;rw[Y2];with_reducible exact H2_)|(have H2_:=(Option.bind_some _ _).symm.trans H;with_reducible exact H2_)|with_reducible exact H|(rw[Y2];exact H)|exact H
  have Y3:=Aside0.mk Y2;clear Y2;obtain⟨t0,A0,H⟩:=bsE H;(try dsimp only at H);have A3:=Aside0.mk A0;clear A0;obtain⟨y1,Y4⟩:∃y_:List (S47),y_=(([]:List (S47))):=⟨_,rfl⟩
  replace H:(if y1.length+l0_4.length<4398046511104 then(some (a0_0,a0_1,y2,t0,(y1++l0_4)))else(none))=some (r1,r2,r3,r4,r5):=by first|(rw[Y4];with_reducible exact H)|(have H2_:=(Option.bind_some _ _).symm.trans H;rw[Y4];with_reducible exact H2_)|(have H2_:=(Option.bind_some _ _).symm.trans H;with_reducible exact H2_)|with_reducible exact H|(rw[Y4];exact H)|exact H
  have Y5:=Aside0.mk Y4;clear Y4
  by_cases c4:y1.length+l0_4.length<4398046511104
  ·rw[if_pos c4]at H
   have L1:=Aside0.mk c4;clear c4;obtain⟨y3,Y6⟩:∃y_:List (S47),y_=(y1++l0_4):=⟨_,rfl⟩
   replace H:(some (a0_0,a0_1,y2,t0,y3))=some (r1,r2,r3,r4,r5):=by first|(rw[Y6];with_reducible exact H)|(have H2_:=(Option.bind_some _ _).symm.trans H;rw[Y6];with_reducible exact H2_)|(have H2_:=(Option.bind_some _ _).symm.trans H;with_reducible exact H2_)|with_reducible exact H|(rw[Y6];exact H)|exact H
   have Y7:=Aside0.mk Y6;clear Y6;simp only[Option.some.injEq,Prod.mk.injEq]at H;obtain⟨rfl,rfl,rfl,rfl,rfl⟩:=H
   go_enter Try.func8,Try.ntmps8
   try go_wp2_with (first|((with_reducible refine gate_dst (N:=1) rfl ?_);refine bxV (N:=1) (cs:=#[.int .i64 a0_0,.int .i64 a0_1,.slice A0_2 l0_2.length c0_2,.slice A0_3 l0_3.length c0_3,.slice A0_4 l0_4.length c0_4]) (t:=26) (h:=?_);intro g0 hg w5 hbox hb;have B0:=Aside0.mk (hbox);have G0:=Aside0.mk ((mJ:w.heap.size<=g0));have G1:=Aside0.mk ((mJ:w.heap.size<=g0));replace HB:=Aside0.mk (below_step mA hb);clear hb hbox hg)|((with_reducible refine gate_dst (N:=2) rfl ?_);refine bxV (N:=2) (cs:=#[.int .i64 0,.int .i64 0,.slice none 0 0,.slice none 0 0,.slice none 0 0]) (t:=26) (h:=?_);intro g1 hg w6 hbox hb;have B2:=Aside0.mk (hbox);have G2:=Aside0.mk ((mT:w.heap.size<=g1));have G3:=Aside0.mk ((mT:w.heap.size<=g1));replace HB:=Aside0.mk (below_step mC hb);have N0:=Aside0.mk ((mAG:g0≠g1));have N1:=Aside0.mk ((mAH:g1≠g0));replace B0:=Aside0.mk (blk_below mB hb);clear hb hbox hg))
   replace B0:=Aside0.mk (blk_drew B0.out);replace B2:=Aside0.mk (blk_drew B2.out);replace HB:=Aside0.mk (below_drew1 HB.out);refine start_ (n:=17) (S:=λw'=>w'.cell? ⟨g0,0,none⟩=some (.int .i64 a0_0)/\w'.cell? ⟨g0,1,none⟩=some (.int .i64 a0_1)/\w'.cell? ⟨g0,2,none⟩=some (.slice A0_2 l0_2.length c0_2)/\w'.cell? ⟨g0,3,none⟩=some (.slice A0_3 l0_3.length c0_3)/\w'.cell? ⟨g0,4,none⟩=some (.slice A0_4 l0_4.length c0_4)) (ds:=[]) mk_17_0 mAD rfl rfl ⟨(blk_cell B0.out 0).trans rfl,(blk_cell B0.out 1).trans rfl,(blk_cell B0.out 2).trans rfl,(blk_cell B0.out 3).trans rfl,(blk_cell B0.out 4).trans rfl⟩ (λhHeld=>?_);refine with_tabW watchwordlaw0_CopyPacket.tab1 watchwordlaw0_CopyPacket.bits1 (λHT_ HW_=>?_);generalize w6.drew=w7 at B0 B2 HB hHeld |-;refine pV 0 3 mk_17_1 ?_;refine pV 2 5 #[true,false,true,false,false,false,false,false,false,false,false,false,false,false,false,false,false] ?_;refine pV 5 8 #[true,false,true,false,false,true,false,false,false,false,false,false,false,false,false,false,false] ?_;refine pV 8 11 #[true,false,true,false,false,true,false,false,true,false,false,false,false,false,false,false,false] ?_;refine pV 12 15 #[true,false,true,false,false,true,false,false,true,false,false,false,true,false,false,false,false] ?_;refine tV 1 (some 4) #[true,true,true,false,false,true,false,false,true,false,false,false,true,false,false,false,false] (hy:=Or.inl ⟨by rfl,by rintro w' ⟨s0,s1,s2,s3,s4⟩;go_simp;with_reducible rfl⟩) (h:=?_);refine tV 3 (some 6) #[true,true,true,true,false,true,false,false,true,false,false,false,true,false,false,false,false] (hy:=Or.inl ⟨by rfl,by rintro w' ⟨s0,s1,s2,s3,s4⟩;go_simp;with_reducible rfl⟩) (h:=?_);refine tV 6 (some 9) #[true,true,true,true,false,true,true,false,true,false,false,false,true,false,false,false,false] (hy:=Or.inl ⟨by rfl,by rintro w' ⟨s0,s1,s2,s3,s4⟩;go_simp;with_reducible rfl⟩) (h:=?_);refine tV 9 (some 12) #[true,true,true,true,false,true,true,false,true,true,false,false,true,false,false,false,false] (hy:=Or.inl ⟨by rfl,by rintro w' ⟨s0,s1,s2,s3,s4⟩;go_simp;with_reducible rfl⟩) (h:=?_);refine tV 13 (some 16) #[true,true,true,true,false,true,true,false,true,true,false,false,true,true,false,false,false] (hy:=Or.inl ⟨by rfl,by rintro w' ⟨s0,s1,s2,s3,s4⟩;go_simp;with_reducible rfl⟩) (h:=?_);refine join_ (σ:=Value × Value × Value × Value) 3 mk_17_14 (λs_=>[(7,s_.1),(10,s_.2.1),(13,s_.2.2.1),(14,s_.2.2.2)]) (λs_ w'=>(w'.cell? ⟨g0,0,none⟩=some (.int .i64 a0_0)/\w'.cell? ⟨g0,1,none⟩=some (.int .i64 a0_1)/\w'.cell? ⟨g0,2,none⟩=some (.slice A0_2 l0_2.length c0_2)/\w'.cell? ⟨g0,3,none⟩=some (.slice A0_3 l0_3.length c0_3)/\w'.cell? ⟨g0,4,none⟩=some (.slice A0_4 l0_4.length c0_4))/\(Kd.R (Kd.int .i64) 3 w' w.heap.size (λ_=>True) s_.2.1 y2)/\(Kd.S k45 45 w' w.heap.size (λ_=>True) s_.2.2.1 t0)/\(Kd.R k47 47 w' w.heap.size (λ_=>True) s_.2.2.2 y1)/\(w'.heap[g0]? =some (.cells #[.int .i64 a0_0,.int .i64 a0_1,.slice A0_2 l0_2.length c0_2,.slice A0_3 l0_3.length c0_3,.slice A0_4 l0_4.length c0_4] 26 (0,0)))/\(w'.heap[g1]? =some (.cells #[.int .i64 0,.int .i64 0,.slice none 0 0,.slice none 0 0,.slice none 0 0] 26 (0,0)))/\(Below w.heap.size w w')) ?_ ?_;rotate_left
   ·intro hCont
    refine two_ (i:=4) (j:=11) (Ni:=some 7) (Nj:=some 14) #[true,true,true,true,true,true,true,false,true,true,false,false,true,true,false,false,false] #[true,true,true,true,false,true,true,false,true,true,false,true,true,true,false,false,false] rfl rfl rfl rfl (two_of HT_.out mAD) mAQ mAQ (λK hK=>?_) (λK hK=>?_)
    ·skip
     refine Kd.R_lit_step (Kd.int .i64) _ 3 ?hg (N:=7) ?hd (xs:=([]:List Int)) (inner:=[]) (ok:=λ_=>True) (okp:=λ_=>True) ?hr ?hp (λ_ hk=>hk) trivial (Below.refl _ _) (Nat.le_refl _) mAM ?_;(case hd=>rfl);(case hg=>rfl);(case hr=>first|(go_simp;done)|(go_simp;rfl));(case hp=>exact(Reps.none _ _));intro v122 w8 ho9 hb hg_ hnew_;clear hg_ hnew_
     (first|rw[<-Y1.out]at ho9|(simp only[Int.reduceToNat]at ho9;rw[<-Y1.out]at ho9))
     have O0:=Aside0.mk (Kd.R_lower ho9 (below_size mD));replace B0:=Aside0.mk (blk_below mB hb);replace B2:=Aside0.mk (blk_below mS hb);replace HB:=Aside0.mk (below_step mD hb);clear hb ho9;refine hK.out _ _ ⟨(blk_cell B0.out 0).trans rfl,(blk_cell B0.out 1).trans rfl,(blk_cell B0.out 2).trans rfl,(blk_cell B0.out 3).trans rfl,(blk_cell B0.out 4).trans rfl⟩ (λhHeld=>?_);clear hK K;refine nV 7 (h:=?_);refine two_ (i:=7) (j:=11) (Ni:=some 10) (Nj:=some 14) #[true,true,true,true,true,true,true,true,true,true,false,false,true,true,false,false,false] #[true,true,true,true,true,true,true,false,true,true,false,true,true,true,false,false,false] rfl rfl rfl rfl (two_of HT_.out mAD) mAQ mAQ (λK hK=>?_) (λK hK=>?_)
     ·skip
      refine Kd.R_append_rows_step (Kd.int .i64) (w0:=w) w.heap.size mBV (.tmp 7) (.tmp 9) 22 3 (.int .i64 0) 8 rfl Try.underlying22 info3 rfl mAQ mBQ v122 y0 l0_2 _ _ _ (λ_=>True) (λ_=>False) rfl rfl ?aO ?aR (λ_ _ h=>h) (λ_ h=>h.elim) ?aF ?aB ?aS ?aL ?_
      (case aR=>repeat (first|exact(Kd.C_below R0.out HB.out)|(with_reducible refine Kd.C_alloc ?_ _)|(with_reducible refine Kd.C_drewN ?_ _)|(with_reducible refine Kd.C_drew ?_)))
      (case aB=>exact mD)
      (case aF=>exact(λ_ _=>trivial))
      (case aO=>exact mN)
      (case aS=>exact(below_size mD))
      (case aL=>have:=L0.out;omega)
      intro v125 w9 ho hb hg hat;rw[<-Y3.out]at ho;replace B0:=Aside0.mk (blk_grown (g:=g0) (o:= .cells #[.int .i64 a0_0,.int .i64 a0_1,.slice A0_2 l0_2.length c0_2,.slice A0_3 l0_3.length c0_3,.slice A0_4 l0_4.length c0_4] 26 (0,0)) mB hg (Kd.R_ne O0.out B0.out mAQ));replace B2:=Aside0.mk (blk_grown (g:=g1) (o:= .cells #[.int .i64 0,.int .i64 0,.slice none 0 0,.slice none 0 0,.slice none 0 0] 26 (0,0)) mS hg (Kd.R_ne O0.out B2.out mAQ));replace HB:=Aside0.mk (hb);have O1:=Aside0.mk (ho);clear O0;clear ho hb hg hat;refine hK.out _ _ ⟨(blk_cell B0.out 0).trans rfl,(blk_cell B0.out 1).trans rfl,(blk_cell B0.out 2).trans rfl,(blk_cell B0.out 3).trans rfl,(blk_cell B0.out 4).trans rfl⟩ (λhHeld=>?_);clear hK K;refine nV 10 (h:=?_);refine two_ (i:=10) (j:=11) (Ni:=some 13) (Nj:=some 14) #[true,true,true,true,true,true,true,true,true,true,true,false,true,true,false,false,false] #[true,true,true,true,true,true,true,true,true,true,false,true,true,true,false,false,false] rfl rfl rfl rfl (two_of HT_.out mAD) mAQ mAQ (λK hK=>?_) (λK hK=>?_)
      ·skip
       refine gV Try.func19 #[.slice A0_3 l0_3.length c0_3] (h:=?_)
       with_reducible refine(watchwordlaw0_CopyLsas.calls k _ _ l0_3 t0 _ ?side1 ?side2 A3.out).mono ?_
       (case side1=>repeat (first|exact(Kd.C_below R1.out HB.out)|(with_reducible refine Kd.C_alloc ?_ _)|(with_reducible refine Kd.C_drewN ?_ _)|(with_reducible refine Kd.C_drew ?_)))
       (case side2=>exact K1.out)
       rintro e wa ⟨v128,rfl,ho0,hb⟩;refine⟨_,rfl,?_⟩;replace O1:=Aside0.mk (Kd.R_below mX hb);have O2:=Aside0.mk (Kd.S_lower ho0 (below_size mD));replace B0:=Aside0.mk (blk_below mB hb);replace B2:=Aside0.mk (blk_below mS hb);replace HB:=Aside0.mk (below_step mD hb);(try clear hb);(try clear hb2);(try clear hk);(try clear hi);(try clear ho0);refine hK.out _ _ ⟨(blk_cell B0.out 0).trans rfl,(blk_cell B0.out 1).trans rfl,(blk_cell B0.out 2).trans rfl,(blk_cell B0.out 3).trans rfl,(blk_cell B0.out 4).trans rfl⟩ (λhHeld=>?_);clear hK K;refine nV 13 (h:=?_);refine oV 11 (some 14) mk_17_14 (h:=λK hK=>?_);refine Kd.R_lit_step k47 _ 47 ?hg (N:=14) ?hd (xs:=([]:List (S47))) (inner:=[]) (ok:=λ_=>True) (okp:=λ_=>True) ?hr ?hp (λ_ hk=>hk) trivial (Below.refl _ _) (Nat.le_refl _) mAM ?_;(case hd=>rfl);(case hg=>rfl);(case hr=>first|(go_simp;done)|(go_simp;rfl));(case hp=>exact(Reps.none _ _));intro v131 wb ho13 hb hg_ hnew_;clear hg_ hnew_
       (first|rw[<-Y5.out]at ho13|(simp only[Int.reduceToNat]at ho13;rw[<-Y5.out]at ho13))
       replace O1:=Aside0.mk (Kd.R_below mX hb);replace O2:=Aside0.mk (Kd.S_below mAJ hb);have O3:=Aside0.mk (Kd.R_lower ho13 (below_size mD));replace B0:=Aside0.mk (blk_below mB hb);replace B2:=Aside0.mk (blk_below mS hb);replace HB:=Aside0.mk (below_step mD hb);clear hb ho13;refine hK.out _ _ ⟨(blk_cell B0.out 0).trans rfl,(blk_cell B0.out 1).trans rfl,(blk_cell B0.out 2).trans rfl,(blk_cell B0.out 3).trans rfl,(blk_cell B0.out 4).trans rfl⟩ (λhHeld=>?_);clear hK K;refine nV 14 (h:=?_);exact norm_ mAS (hCont (v122,v125,v128,v131) _ ⟨hHeld,mX,mAJ,mY,mB,mS,mD⟩)
      ·skip
       refine Kd.R_lit_step k47 _ 47 ?hg (N:=14) ?hd (xs:=([]:List (S47))) (inner:=[]) (ok:=λ_=>True) (okp:=λ_=>True) ?hr ?hp (λ_ hk=>hk) trivial (Below.refl _ _) (Nat.le_refl _) mAM ?_;(case hd=>rfl);(case hg=>rfl);(case hr=>first|(go_simp;done)|(go_simp;rfl));(case hp=>exact(Reps.none _ _));intro v131 wa ho12 hb hg_ hnew_;clear hg_ hnew_
       (first|rw[<-Y5.out]at ho12|(simp only[Int.reduceToNat]at ho12;rw[<-Y5.out]at ho12))
       replace O1:=Aside0.mk (Kd.R_below mX hb);have O3:=Aside0.mk (Kd.R_lower ho12 (below_size mD));replace B0:=Aside0.mk (blk_below mB hb);replace B2:=Aside0.mk (blk_below mS hb);replace HB:=Aside0.mk (below_step mD hb);clear hb ho12;refine hK.out _ _ ⟨(blk_cell B0.out 0).trans rfl,(blk_cell B0.out 1).trans rfl,(blk_cell B0.out 2).trans rfl,(blk_cell B0.out 3).trans rfl,(blk_cell B0.out 4).trans rfl⟩ (λhHeld=>?_);clear hK K;refine nV 14 (h:=?_);refine oV 10 (some 13) mk_17_14 (h:=λK hK=>?_);refine gV Try.func19 #[.slice A0_3 l0_3.length c0_3] (h:=?_)
       with_reducible refine(watchwordlaw0_CopyLsas.calls k _ _ l0_3 t0 _ ?side1 ?side2 A3.out).mono ?_
       (case side1=>repeat (first|exact(Kd.C_below R1.out HB.out)|(with_reducible refine Kd.C_alloc ?_ _)|(with_reducible refine Kd.C_drewN ?_ _)|(with_reducible refine Kd.C_drew ?_)))
       (case side2=>exact K1.out)
       rintro e wc ⟨v128,rfl,ho0,hb⟩;refine⟨_,rfl,?_⟩;replace O1:=Aside0.mk (Kd.R_below mX hb);replace O3:=Aside0.mk (Kd.R_below mY hb);have O2:=Aside0.mk (Kd.S_lower ho0 (below_size mD));replace B0:=Aside0.mk (blk_below mB hb);replace B2:=Aside0.mk (blk_below mS hb);replace HB:=Aside0.mk (below_step mD hb);(try clear hb);(try clear hb2);(try clear hk);(try clear hi);(try clear ho0);refine hK.out _ _ ⟨(blk_cell B0.out 0).trans rfl,(blk_cell B0.out 1).trans rfl,(blk_cell B0.out 2).trans rfl,(blk_cell B0.out 3).trans rfl,(blk_cell B0.out 4).trans rfl⟩ (λhHeld=>?_);clear hK K;refine nV 13 (h:=?_);exact norm_ mAS (hCont (v122,v125,v128,v131) _ ⟨hHeld,mX,mAJ,mY,mB,mS,mD⟩)
     ·skip
      refine Kd.R_lit_step k47 _ 47 ?hg (N:=14) ?hd (xs:=([]:List (S47))) (inner:=[]) (ok:=λ_=>True) (okp:=λ_=>True) ?hr ?hp (λ_ hk=>hk) trivial (Below.refl _ _) (Nat.le_refl _) mAM ?_;(case hd=>rfl);(case hg=>rfl);(case hr=>first|(go_simp;done)|(go_simp;rfl));(case hp=>exact(Reps.none _ _));intro v131 w9 ho11 hb hg_ hnew_;clear hg_ hnew_
      (first|rw[<-Y5.out]at ho11|(simp only[Int.reduceToNat]at ho11;rw[<-Y5.out]at ho11))
      replace O0:=Aside0.mk (Kd.R_below mN hb);have O3:=Aside0.mk (Kd.R_lower ho11 (below_size mD));replace B0:=Aside0.mk (blk_below mB hb);replace B2:=Aside0.mk (blk_below mS hb);replace HB:=Aside0.mk (below_step mD hb);clear hb ho11;refine hK.out _ _ ⟨(blk_cell B0.out 0).trans rfl,(blk_cell B0.out 1).trans rfl,(blk_cell B0.out 2).trans rfl,(blk_cell B0.out 3).trans rfl,(blk_cell B0.out 4).trans rfl⟩ (λhHeld=>?_);clear hK K;refine nV 14 (h:=?_);refine oV 7 (some 10) #[true,true,true,true,true,true,true,true,true,true,false,true,true,true,false,false,false] (h:=λK hK=>?_);refine Kd.R_append_rows_step (Kd.int .i64) (w0:=w) w.heap.size mBV (.tmp 7) (.tmp 9) 22 3 (.int .i64 0) 8 rfl Try.underlying22 info3 rfl mAQ mBQ v122 y0 l0_2 _ _ _ (λ_=>True) (λ_=>False) rfl rfl ?aO ?aR (λ_ _ h=>h) (λ_ h=>h.elim) ?aF ?aB ?aS ?aL ?_
      (case aR=>repeat (first|exact(Kd.C_below R0.out HB.out)|(with_reducible refine Kd.C_alloc ?_ _)|(with_reducible refine Kd.C_drewN ?_ _)|(with_reducible refine Kd.C_drew ?_)))
      (case aB=>exact mD)
      (case aF=>exact(λ_ _=>trivial))
      (case aO=>exact mN)
      (case aS=>exact(below_size mD))
      (case aL=>have:=L0.out;omega)
      intro v125 wb ho hb hg hat;rw[<-Y3.out]at ho;replace B0:=Aside0.mk (blk_grown (g:=g0) (o:= .cells #[.int .i64 a0_0,.int .i64 a0_1,.slice A0_2 l0_2.length c0_2,.slice A0_3 l0_3.length c0_3,.slice A0_4 l0_4.length c0_4] 26 (0,0)) mB hg (Kd.R_ne O0.out B0.out mAQ));replace B2:=Aside0.mk (blk_grown (g:=g1) (o:= .cells #[.int .i64 0,.int .i64 0,.slice none 0 0,.slice none 0 0,.slice none 0 0] 26 (0,0)) mS hg (Kd.R_ne O0.out B2.out mAQ));replace O3:=Aside0.mk (Kd.R_over' mY (Kd.R_typed mN) mAQ hg);replace HB:=Aside0.mk (hb);have O1:=Aside0.mk (ho);clear O0;clear ho hb hg hat;refine hK.out _ _ ⟨(blk_cell B0.out 0).trans rfl,(blk_cell B0.out 1).trans rfl,(blk_cell B0.out 2).trans rfl,(blk_cell B0.out 3).trans rfl,(blk_cell B0.out 4).trans rfl⟩ (λhHeld=>?_);clear hK K;refine nV 10 (h:=?_);refine oV 10 (some 13) mk_17_14 (h:=λK hK=>?_);refine gV Try.func19 #[.slice A0_3 l0_3.length c0_3] (h:=?_)
      with_reducible refine(watchwordlaw0_CopyLsas.calls k _ _ l0_3 t0 _ ?side1 ?side2 A3.out).mono ?_
      (case side1=>repeat (first|exact(Kd.C_below R1.out HB.out)|(with_reducible refine Kd.C_alloc ?_ _)|(with_reducible refine Kd.C_drewN ?_ _)|(with_reducible refine Kd.C_drew ?_)))
      (case side2=>exact K1.out)
      rintro e wc ⟨v128,rfl,ho0,hb⟩;refine⟨_,rfl,?_⟩;replace O3:=Aside0.mk (Kd.R_below mY hb);replace O1:=Aside0.mk (Kd.R_below mX hb);have O2:=Aside0.mk (Kd.S_lower ho0 (below_size mD));replace B0:=Aside0.mk (blk_below mB hb);replace B2:=Aside0.mk (blk_below mS hb);replace HB:=Aside0.mk (below_step mD hb);(try clear hb);(try clear hb2);(try clear hk);(try clear hi);(try clear ho0);refine hK.out _ _ ⟨(blk_cell B0.out 0).trans rfl,(blk_cell B0.out 1).trans rfl,(blk_cell B0.out 2).trans rfl,(blk_cell B0.out 3).trans rfl,(blk_cell B0.out 4).trans rfl⟩ (λhHeld=>?_);clear hK K;refine nV 13 (h:=?_);exact norm_ mAS (hCont (v122,v125,v128,v131) _ ⟨hHeld,mX,mAJ,mY,mB,mS,mD⟩)
    ·skip
     refine Kd.R_lit_step k47 _ 47 ?hg (N:=14) ?hd (xs:=([]:List (S47))) (inner:=[]) (ok:=λ_=>True) (okp:=λ_=>True) ?hr ?hp (λ_ hk=>hk) trivial (Below.refl _ _) (Nat.le_refl _) mAM ?_;(case hd=>rfl);(case hg=>rfl);(case hr=>first|(go_simp;done)|(go_simp;rfl));(case hp=>exact(Reps.none _ _));intro v131 w8 ho9 hb hg_ hnew_;clear hg_ hnew_
     (first|rw[<-Y5.out]at ho9|(simp only[Int.reduceToNat]at ho9;rw[<-Y5.out]at ho9))
     have O3:=Aside0.mk (Kd.R_lower ho9 (below_size mD));replace B0:=Aside0.mk (blk_below mB hb);replace B2:=Aside0.mk (blk_below mS hb);replace HB:=Aside0.mk (below_step mD hb);clear hb ho9;refine hK.out _ _ ⟨(blk_cell B0.out 0).trans rfl,(blk_cell B0.out 1).trans rfl,(blk_cell B0.out 2).trans rfl,(blk_cell B0.out 3).trans rfl,(blk_cell B0.out 4).trans rfl⟩ (λhHeld=>?_);clear hK K;refine nV 14 (h:=?_);refine oV 4 (some 7) #[true,true,true,true,true,true,true,false,true,true,false,true,true,true,false,false,false] (h:=λK hK=>?_);refine Kd.R_lit_step (Kd.int .i64) _ 3 ?hg (N:=7) ?hd (xs:=([]:List Int)) (inner:=[]) (ok:=λ_=>True) (okp:=λ_=>True) ?hr ?hp (λ_ hk=>hk) trivial (Below.refl _ _) (Nat.le_refl _) mAM ?_;(case hd=>rfl);(case hg=>rfl);(case hr=>first|(go_simp;done)|(go_simp;rfl));(case hp=>exact(Reps.none _ _));intro v122 w9 ho11 hb hg_ hnew_;clear hg_ hnew_
     (first|rw[<-Y1.out]at ho11|(simp only[Int.reduceToNat]at ho11;rw[<-Y1.out]at ho11))
     replace O3:=Aside0.mk (Kd.R_below mY hb);have O0:=Aside0.mk (Kd.R_lower ho11 (below_size mD));replace B0:=Aside0.mk (blk_below mB hb);replace B2:=Aside0.mk (blk_below mS hb);replace HB:=Aside0.mk (below_step mD hb);clear hb ho11;refine hK.out _ _ ⟨(blk_cell B0.out 0).trans rfl,(blk_cell B0.out 1).trans rfl,(blk_cell B0.out 2).trans rfl,(blk_cell B0.out 3).trans rfl,(blk_cell B0.out 4).trans rfl⟩ (λhHeld=>?_);clear hK K;refine nV 7 (h:=?_);refine oV 7 (some 10) #[true,true,true,true,true,true,true,true,true,true,false,true,true,true,false,false,false] (h:=λK hK=>?_);refine Kd.R_append_rows_step (Kd.int .i64) (w0:=w) w.heap.size mBV (.tmp 7) (.tmp 9) 22 3 (.int .i64 0) 8 rfl Try.underlying22 info3 rfl mAQ mBQ v122 y0 l0_2 _ _ _ (λ_=>True) (λ_=>False) rfl rfl ?aO ?aR (λ_ _ h=>h) (λ_ h=>h.elim) ?aF ?aB ?aS ?aL ?_
     (case aR=>repeat (first|exact(Kd.C_below R0.out HB.out)|(with_reducible refine Kd.C_alloc ?_ _)|(with_reducible refine Kd.C_drewN ?_ _)|(with_reducible refine Kd.C_drew ?_)))
     (case aB=>exact mD)
     (case aF=>exact(λ_ _=>trivial))
     (case aO=>exact mN)
     (case aS=>exact(below_size mD))
     (case aL=>have:=L0.out;omega)
     intro v125 wb ho hb hg hat;rw[<-Y3.out]at ho;replace B0:=Aside0.mk (blk_grown (g:=g0) (o:= .cells #[.int .i64 a0_0,.int .i64 a0_1,.slice A0_2 l0_2.length c0_2,.slice A0_3 l0_3.length c0_3,.slice A0_4 l0_4.length c0_4] 26 (0,0)) mB hg (Kd.R_ne O0.out B0.out mAQ));replace B2:=Aside0.mk (blk_grown (g:=g1) (o:= .cells #[.int .i64 0,.int .i64 0,.slice none 0 0,.slice none 0 0,.slice none 0 0] 26 (0,0)) mS hg (Kd.R_ne O0.out B2.out mAQ));replace O3:=Aside0.mk (Kd.R_over' mY (Kd.R_typed mN) mAQ hg);replace HB:=Aside0.mk (hb);have O1:=Aside0.mk (ho);clear O0;clear ho hb hg hat;refine hK.out _ _ ⟨(blk_cell B0.out 0).trans rfl,(blk_cell B0.out 1).trans rfl,(blk_cell B0.out 2).trans rfl,(blk_cell B0.out 3).trans rfl,(blk_cell B0.out 4).trans rfl⟩ (λhHeld=>?_);clear hK K;refine nV 10 (h:=?_);refine oV 10 (some 13) mk_17_14 (h:=λK hK=>?_);refine gV Try.func19 #[.slice A0_3 l0_3.length c0_3] (h:=?_)
     with_reducible refine(watchwordlaw0_CopyLsas.calls k _ _ l0_3 t0 _ ?side1 ?side2 A3.out).mono ?_
     (case side1=>repeat (first|exact(Kd.C_below R1.out HB.out)|(with_reducible refine Kd.C_alloc ?_ _)|(with_reducible refine Kd.C_drewN ?_ _)|(with_reducible refine Kd.C_drew ?_)))
     (case side2=>exact K1.out)
     rintro e wc ⟨v128,rfl,ho0,hb⟩;refine⟨_,rfl,?_⟩;replace O3:=Aside0.mk (Kd.R_below mY hb);replace O1:=Aside0.mk (Kd.R_below mX hb);have O2:=Aside0.mk (Kd.S_lower ho0 (below_size mD));replace B0:=Aside0.mk (blk_below mB hb);replace B2:=Aside0.mk (blk_below mS hb);replace HB:=Aside0.mk (below_step mD hb);(try clear hb);(try clear hb2);(try clear hk);(try clear hi);(try clear ho0);refine hK.out _ _ ⟨(blk_cell B0.out 0).trans rfl,(blk_cell B0.out 1).trans rfl,(blk_cell B0.out 2).trans rfl,(blk_cell B0.out 3).trans rfl,(blk_cell B0.out 4).trans rfl⟩ (λhHeld=>?_);clear hK K;refine nV 13 (h:=?_);exact norm_ mAS (hCont (v122,v125,v128,v131) _ ⟨hHeld,mX,mAJ,mY,mB,mS,mD⟩)
   rintro⟨v122,v125,v128,v131⟩ we ⟨hS_,h0_,h1_,h2_,h3_,h4_,h5_⟩;have O1:Aside0 (Kd.R (Kd.int .i64) 3 we w.heap.size (λ_=>True) v125 y2):=⟨h0_⟩;have O2:Aside0 (Kd.S k45 45 we w.heap.size (λ_=>True) v128 t0):=⟨h1_⟩;have O3:Aside0 (Kd.R k47 47 we w.heap.size (λ_=>True) v131 y1):=⟨h2_⟩;replace B0:Aside0 (we.heap[g0]? =some (.cells #[.int .i64 a0_0,.int .i64 a0_1,.slice A0_2 l0_2.length c0_2,.slice A0_3 l0_3.length c0_3,.slice A0_4 l0_4.length c0_4] 26 (0,0))):=⟨h3_⟩;replace B2:Aside0 (we.heap[g1]? =some (.cells #[.int .i64 0,.int .i64 0,.slice none 0 0,.slice none 0 0,.slice none 0 0] 26 (0,0))):=⟨h4_⟩;replace HB:Aside0 (Below w.heap.size w we):=⟨h5_⟩;clear h0_ h1_ h2_ h3_ h4_ h5_;have hHeld:we.cell? ⟨g0,0,none⟩=some (.int .i64 a0_0)/\we.cell? ⟨g0,1,none⟩=some (.int .i64 a0_1)/\we.cell? ⟨g0,2,none⟩=some (.slice A0_2 l0_2.length c0_2)/\we.cell? ⟨g0,3,none⟩=some (.slice A0_3 l0_3.length c0_3)/\we.cell? ⟨g0,4,none⟩=some (.slice A0_4 l0_4.length c0_4):=hS_;refine norm_ (a':=?_) ?_ ?_;rotate_left;(·simp only[putAll,Act.put,List.setIfInBounds_toArray,List.set_cons_zero,List.set_cons_succ];rfl);refine oV 14 (some 17) mk_17_15 (h:=λK hK=>?_);refine Kd.R_append_rows_step k47 (w0:=w) w.heap.size mBV (.tmp 14) (.tmp 16) 24 47 (.agg #[(.int .i64 0),(.int .i64 0),(.int .i64 0),(.int .i64 0)]) 32 rfl Try.underlying24 info47 rfl mAQ mBQ v131 y1 l0_4 _ _ _ (λ_=>True) (λ_=>False) rfl rfl ?aO ?aR (λ_ _ h=>h) (λ_ h=>h.elim) ?aF ?aB ?aS ?aL ?_
   (case aR=>repeat (first|exact(Kd.C_below R2.out HB.out)|(with_reducible refine Kd.C_alloc ?_ _)|(with_reducible refine Kd.C_drewN ?_ _)|(with_reducible refine Kd.C_drew ?_)))
   (case aB=>exact mD)
   (case aF=>exact(λ_ _=>trivial))
   (case aO=>exact mY)
   (case aS=>exact(below_size mD))
   (case aL=>have:=L1.out;omega)
   intro v134 wf ho hb hg hat;rw[<-Y7.out]at ho;replace B0:=Aside0.mk (blk_grown (g:=g0) (o:= .cells #[.int .i64 a0_0,.int .i64 a0_1,.slice A0_2 l0_2.length c0_2,.slice A0_3 l0_3.length c0_3,.slice A0_4 l0_4.length c0_4] 26 (0,0)) mB hg (Kd.R_ne O3.out B0.out mAQ));replace B2:=Aside0.mk (blk_grown (g:=g1) (o:= .cells #[.int .i64 0,.int .i64 0,.slice none 0 0,.slice none 0 0,.slice none 0 0] 26 (0,0)) mS hg (Kd.R_ne O3.out B2.out mAQ));replace O1:=Aside0.mk (Kd.R_over' mX (Kd.R_typed mY) mAQ hg);replace O2:=Aside0.mk (Kd.S_over' mAJ (Kd.R_typed mY) mAQ hg);replace HB:=Aside0.mk (hb);have O4:=Aside0.mk (ho);clear O3;clear ho hb hg hat;obtain⟨s5,s6,s7⟩:=Kd.R_slice O4.out
   (first|subst s7|(injection s7 with f1_ f2_ f3_;have f4_:=f1_.symm;have f5_:=f3_.symm;clear f1_ f2_ f3_;subst f4_;subst f5_))
   obtain⟨s8,s9,sa⟩:=Kd.S_slice O2.out
   (first|subst sa|(injection sa with f1_ f2_ f3_;have f4_:=f1_.symm;have f5_:=f3_.symm;clear f1_ f2_ f3_;subst f4_;subst f5_))
   obtain⟨sb,sc,sd⟩:=Kd.R_slice O1.out
   (first|subst sd|(injection sd with f1_ f2_ f3_;have f4_:=f1_.symm;have f5_:=f3_.symm;clear f1_ f2_ f3_;subst f4_;subst f5_))
   refine hK.out _ _ ⟨(blk_cell B0.out 0).trans rfl,(blk_cell B0.out 1).trans rfl,(blk_cell B0.out 2).trans rfl,(blk_cell B0.out 3).trans rfl,(blk_cell B0.out 4).trans rfl⟩ (λhHeld=>?_);clear hK K;refine nV 17 (h:=?_);refine pV 15 18 mk_17_16 ?_;refine one_ (i:=16) (N:=none) mk_17_17 rfl rfl (one_of HT_.out mAD) mAQ (λK hK=>?_);have hs19:wf.cell? ⟨g1,0,none⟩=some (.int .i64 0):=(blk_cell B2.out 0).trans rfl;have hfs19:=blk_frozen B2.out 0;have hns19_0:=N0.out;have hms19_0:=N1.out;have hs20:wf.cell? ⟨g1,1,none⟩=some (.int .i64 0):=(blk_cell B2.out 1).trans rfl;have hfs20:=blk_frozen B2.out 1;have hns20_0:=N0.out;have hms20_0:=N1.out;have hs21:wf.cell? ⟨g1,2,none⟩=some (.slice none 0 0):=(blk_cell B2.out 2).trans rfl;have hfs21:=blk_frozen B2.out 2;have hns21_0:=N0.out;have hms21_0:=N1.out;have hs22:wf.cell? ⟨g1,3,none⟩=some (.slice none 0 0):=(blk_cell B2.out 3).trans rfl;have hfs22:=blk_frozen B2.out 3;have hns22_0:=N0.out;have hms22_0:=N1.out;have hs23:wf.cell? ⟨g1,4,none⟩=some (.slice none 0 0):=(blk_cell B2.out 4).trans rfl;have hfs23:=blk_frozen B2.out 4;have hns23_0:=N0.out;have hms23_0:=N1.out;refine skip_ (w1:=?_) mBV rfl ?_ ?_;rotate_left
   ·go_simp
    rfl
   refine hK.out _ _ ⟨((cell_far (p:=⟨g1,_,none⟩) N0.out _).trans (((cell_far (p:=⟨g1,_,none⟩) N0.out _).trans (((cell_far (p:=⟨g1,_,none⟩) N0.out _).trans (((cell_far (p:=⟨g1,_,none⟩) N0.out _).trans (((cell_far (p:=⟨g1,_,none⟩) N0.out _).trans (hHeld.1)))))))))),((cell_far (p:=⟨g1,_,none⟩) N0.out _).trans (((cell_far (p:=⟨g1,_,none⟩) N0.out _).trans (((cell_far (p:=⟨g1,_,none⟩) N0.out _).trans (((cell_far (p:=⟨g1,_,none⟩) N0.out _).trans (((cell_far (p:=⟨g1,_,none⟩) N0.out _).trans (hHeld.2.1)))))))))),((cell_far (p:=⟨g1,_,none⟩) N0.out _).trans (((cell_far (p:=⟨g1,_,none⟩) N0.out _).trans (((cell_far (p:=⟨g1,_,none⟩) N0.out _).trans (((cell_far (p:=⟨g1,_,none⟩) N0.out _).trans (((cell_far (p:=⟨g1,_,none⟩) N0.out _).trans (hHeld.2.2.1)))))))))),((cell_far (p:=⟨g1,_,none⟩) N0.out _).trans (((cell_far (p:=⟨g1,_,none⟩) N0.out _).trans (((cell_far (p:=⟨g1,_,none⟩) N0.out _).trans (((cell_far (p:=⟨g1,_,none⟩) N0.out _).trans (((cell_far (p:=⟨g1,_,none⟩) N0.out _).trans (hHeld.2.2.2.1)))))))))),((cell_far (p:=⟨g1,_,none⟩) N0.out _).trans (((cell_far (p:=⟨g1,_,none⟩) N0.out _).trans (((cell_far (p:=⟨g1,_,none⟩) N0.out _).trans (((cell_far (p:=⟨g1,_,none⟩) N0.out _).trans (((cell_far (p:=⟨g1,_,none⟩) N0.out _).trans (hHeld.2.2.2.2))))))))))⟩ (λhHeld=>?_);clear hK K;refine done_ (done_of HT_.out mAD) ?_;(try go_wp2);refine bodyPost_ret (results_cell_row rfl _ _ g1 26 #[.int .i64 a0_0,.int .i64 a0_1,.slice sb y2.length sc,.slice s8 t0.length s9,.slice s5 y3.length s6] (0,0) _ rfl (by(with_reducible repeat (first|refine blk_drewN ?_ _|refine blk_drew ?_ |refine blk_alloc ?_ _));refine blk_put (cs:=#[.int .i64 a0_0,.int .i64 a0_1,.slice sb y2.length sc,.slice s8 t0.length s9,.slice none 0 0]) ?_ 4 _ rfl;(with_reducible repeat (first|refine blk_drewN ?_ _|refine blk_drew ?_ |refine blk_alloc ?_ _));refine blk_put (cs:=#[.int .i64 a0_0,.int .i64 a0_1,.slice sb y2.length sc,.slice none 0 0,.slice none 0 0]) ?_ 3 _ rfl;(with_reducible repeat (first|refine blk_drewN ?_ _|refine blk_drew ?_ |refine blk_alloc ?_ _));refine blk_put (cs:=#[.int .i64 a0_0,.int .i64 a0_1,.slice none 0 0,.slice none 0 0,.slice none 0 0]) ?_ 2 _ rfl;(with_reducible repeat (first|refine blk_drewN ?_ _|refine blk_drew ?_ |refine blk_alloc ?_ _));refine blk_put (cs:=#[.int .i64 a0_0,.int .i64 0,.slice none 0 0,.slice none 0 0,.slice none 0 0]) ?_ 1 _ rfl;(with_reducible repeat (first|refine blk_drewN ?_ _|refine blk_drew ?_ |refine blk_alloc ?_ _));refine blk_put (cs:=#[.int .i64 0,.int .i64 0,.slice none 0 0,.slice none 0 0,.slice none 0 0]) ?_ 0 _ rfl;(with_reducible repeat (first|refine blk_drewN ?_ _|refine blk_drew ?_ |refine blk_alloc ?_ _));exact B2.out) Try.underlying26 rfl mAD) rfl ?_;exact⟨_,_,_,by first|rfl|(simp[errW_none,errW_some] <;> rfl)|(simp[*,errW_none,errW_some] <;> rfl),by(with_reducible repeat (first|apply Kd.R_alloc|apply Kd.R_drewN|apply Kd.R_drew));exact Kd.R_mono (Kd.R_far (p:=⟨g1,4,none⟩) (Kd.R_far (p:=⟨g1,3,none⟩) (Kd.R_far (p:=⟨g1,2,none⟩) (Kd.R_far (p:=⟨g1,1,none⟩) (Kd.R_far (p:=⟨g1,0,none⟩) (Kd.R_types O1.out B2.out mAQ) (λ_ hk=>hk.2) (.int .i64 a0_0)) (λ_ hk=>hk.2) (.int .i64 a0_1)) (λ_ hk=>hk.2) (.slice sb y2.length sc)) (λ_ hk=>hk.2) (.slice s8 t0.length s9)) (λ_ hk=>hk.2) (.slice s5 y3.length s6)) (λ_ hk=>trivial),by(with_reducible repeat (first|apply Kd.S_alloc|apply Kd.S_drewN|apply Kd.S_drew));exact Kd.S_mono (Kd.S_far (p:=⟨g1,4,none⟩) (Kd.S_far (p:=⟨g1,3,none⟩) (Kd.S_far (p:=⟨g1,2,none⟩) (Kd.S_far (p:=⟨g1,1,none⟩) (Kd.S_far (p:=⟨g1,0,none⟩) (Kd.S_types O2.out B2.out mAQ) (λ_ hk=>hk.2) (.int .i64 a0_0)) (λ_ hk=>hk.2) (.int .i64 a0_1)) (λ_ hk=>hk.2) (.slice sb y2.length sc)) (λ_ hk=>hk.2) (.slice s8 t0.length s9)) (λ_ hk=>hk.2) (.slice s5 y3.length s6)) (λ_ hk=>trivial),by(with_reducible repeat (first|apply Kd.R_alloc|apply Kd.R_drewN|apply Kd.R_drew));exact Kd.R_mono (Kd.R_far (p:=⟨g1,4,none⟩) (Kd.R_far (p:=⟨g1,3,none⟩) (Kd.R_far (p:=⟨g1,2,none⟩) (Kd.R_far (p:=⟨g1,1,none⟩) (Kd.R_far (p:=⟨g1,0,none⟩) (Kd.R_types O4.out B2.out mAQ) (λ_ hk=>hk.2) (.int .i64 a0_0)) (λ_ hk=>hk.2) (.int .i64 a0_1)) (λ_ hk=>hk.2) (.slice sb y2.length sc)) (λ_ hk=>hk.2) (.slice s8 t0.length s9)) (λ_ hk=>hk.2) (.slice s5 y3.length s6)) (λ_ hk=>trivial),by repeat (first|(with_reducible first|exact HB.out|apply below_alloc|apply pw_below_drewN|apply below_drew1|refine below_set ?_ G1.out|refine below_set ?_ G3.out)|exact HB.out)⟩
  ·rw[if_neg c4]at H
   exact absurd H mAM
 ·rw[if_neg c2]at H
  exact absurd H mAM
def lsa_One.f (a0:Int):Option (ByteArray):=some (strOfNums (([(a0) % 256]:List Int)))
set_option maxHeartbeats 8000000 in
set_option maxRecDepth 100000 in
theorem lsa_One.calls (a0:Int) (r:ByteArray) (w:World) (h:lsa_One.f a0=some r):
  Calls Try.prog 50 #[.int .i64 a0] w λe w'=>e= .returned (.string r)/\Below w.heap.size w w':=by
 have HB:=Aside0.mk (Below.refl w.heap.size w);have H:(some (strOfNums (([(a0) % 256]:List Int))))=some r:=h;clear h;obtain⟨y0,Y0⟩:∃y_:List Int,y_=(([(a0) % 256]:List Int)):=⟨_,rfl⟩
 replace H:(some (strOfNums y0))=some r:=by first|(rw[Y0];with_reducible exact H)|(have H2_:=(Option.bind_some _ _).symm.trans H;rw[Y0];with_reducible exact H2_)|(have H2_:=(Option.bind_some _ _).symm.trans H;with_reducible exact H2_)|with_reducible exact H|(rw[Y0];exact H)|exact H
 have Y1:=Aside0.mk Y0;clear Y0;obtain rfl:=Option.some.inj H
 go_enter Try.func50,Try.ntmps50
 go_wp2_with (first|((with_reducible refine gate_dst (N:=5) rfl ?_);refine Kd.R_lit (Kd.int .u8) _ 5 ?hg (N:=5) ?hd (xs:=([(a0) % 256]:List Int)) (inner:=[.int .u8 ((a0) % 256)]) (ok:=λ_=>True) (okp:=λ_=>True) ?hr ?hp (λ_ hk=>hk) trivial (Below.refl _ _) (Nat.le_refl _) mAM ?_;(case hd=>rfl);(case hg=>rfl);(case hr=>first|(go_simp;done)|(go_simp;rfl));(case hp=>exact(Reps.one (show Kd.M (Kd.int .u8) _ _ _ ((a0) % 256) [.int .u8 ((a0) % 256)]from rfl) (Reps.none _ _)));intro v137 w2 ho3 hb hg_ hnew_;clear hg_ hnew_;(first|rw[<-Y1.out]at ho3|(simp only[Int.reduceToNat]at ho3;rw[<-Y1.out]at ho3));have O0:=Aside0.mk (Kd.R_lower ho3 (below_size mA));replace HB:=Aside0.mk (below_step mA hb);clear hb ho3;have hcv4:=own_string (P:=Try.prog) Try.underlying93 Try.underlying5 Try.underlying9 (Kd.own_of_R O0.out)))
 go_ret;exact⟨by first|rfl|(simp[errW_none,errW_some] <;> rfl)|(simp[*,errW_none,errW_some] <;> rfl),by repeat (first|(with_reducible first|exact HB.out|apply below_alloc|apply pw_below_drewN|apply below_drew1)|exact HB.out)⟩
def lsa_Router.f (a0:Int):Option (Bool):=if a0>=1 then(some (decide (a0<=4)))else(some false)
set_option maxHeartbeats 8000000 in
set_option maxRecDepth 100000 in
theorem lsa_Router.calls (a0:Int) (r:Bool) (w:World) (h:lsa_Router.f a0=some r):
  Calls Try.prog 37 #[.int .i64 a0] w λe w'=>e= .returned (.bool r)/\Drawn0 w w':=by
 have H:(if a0>=1 then(some (decide (a0<=4)))else(some false))=some r:=h;clear h
 by_cases c2:a0>=1
 ·rw[if_pos c2]at H
  have c3:decide (1<=a0)=true:=decide_eq_true c2;clear c2;obtain rfl:=Option.some.inj H
  go_enter Try.func37,Try.ntmps37
  go_wp2;go_ret;exact⟨by first|rfl|(simp;done)|(simp[*];done),by repeat (first|exact Drawn0.refl _|apply Drawn0.step)⟩
 ·rw[if_neg c2]at H
  have c3:decide (1<=a0)=false:=decide_eq_false c2;clear c2;obtain rfl:=Option.some.inj H
  go_enter Try.func37,Try.ntmps37
  go_wp2;go_ret;exact⟨by first|rfl|(simp;done)|(simp[*];done),by repeat (first|exact Drawn0.refl _|apply Drawn0.step)⟩
def hello_May.l0:Nat->List Int->List Int->Int->Int->Option (Bool)
 |0,_,_,_,_=>none
 |k+1,x0,x5,x6,x7=>if x7<x6 then(if 0<=x7 then(if x7<(x5.length:Int)then((lsa_Router.f (rd x5 x7)).bind λt140=>(if t140=true then(if x7>0 then(if 0<=(wrap64 (x7-1))then(if(wrap64 (x7-1))<(x0.length:Int)then(if(rd x0 (wrap64 (x7-1)))>=(rd x5 x7)then(some false)else(hello_May.l0 k x0 x5 x6 (wrap64 (x7+1))))else(none))else(none))else(hello_May.l0 k x0 x5 x6 (wrap64 (x7+1))))else(some false)))else(none))else(none))else(some true)
def hello_May.f (k:Nat) (l0:List Int):Option (Bool):=hello_May.l0 k l0 l0 (l0.length:Int) 0
theorem hello_May.mono_l:∀k,(∀y0 y1 y2 y3,LeO (hello_May.l0 k y0 y1 y2 y3) (hello_May.l0 (k+1) y0 y1 y2 y3))
 |0=>λ_ _ _ _ r h=>by simp[hello_May.l0]at h
 |k+1=>by
  have ih0:=hello_May.mono_l k
  ·intro y0 y1 y2 y3
   unfold hello_May.l0
   repeat' (with_reducible first|exact ih0 _ _ _ _|exact LeO.refl _|exact LeO.none _|refine LeO.ite ?_ ?_ |refine LeO.bind ?_ (λ_=>?_))
theorem hello_May.mono:∀a0 k,LeO (hello_May.f k a0) (hello_May.f (k+1) a0):=by
 intro a0 k;have ih0:=hello_May.mono_l k;unfold hello_May.f
 repeat' (with_reducible first|exact ih0 _ _ _ _|exact LeO.refl _|exact LeO.none _|refine LeO.ite ?_ ?_ |refine LeO.bind ?_ (λ_=>?_))
set_option maxHeartbeats 8000000 in
set_option maxRecDepth 100000 in
theorem hello_May.calls (k:Nat) (A0:Option Addr) (c0:Nat) (l0:List Int) (r:Bool) (w:World) (hr0:Kd.C (Kd.int .i64) w A0 l0.length l0) (hc0:l0.length<=c0) (h:hello_May.f k l0=some r):
  Calls Try.prog 67 #[.slice A0 l0.length c0] w λe w'=>e= .returned (.bool r)/\Drawn0 w w':=by
 have R0:=Aside0.mk hr0;have K0:=Aside0.mk hc0;clear hr0 hc0;have H:(hello_May.l0 k l0 l0 (l0.length:Int) 0)=some r:=h;clear h;have H':=Aside0.mk H;clear H
 go_enter Try.func67,Try.ntmps67
 go_wp2
 go_loopg [7] k (λkq v7 w'=>∃(x1:Int),v7= .int .i64 x1/\Aside0 (hello_May.l0 kq l0 l0 (l0.length:Int) x1=some r)/\Aside0 (kq<=k)/\Drawn0 w w')
 case atStart=>exact⟨(0),mK,H',⟨Nat.le_refl _⟩,by repeat (first|exact Drawn0.refl _|apply Drawn0.step)⟩
 case round=>
  clear H';obtain⟨x1,rfl,HA,HK1,⟨m1,rfl⟩⟩:=hrel;cases gk with
  |zero=>exact absurd HA.out (by simp[hello_May.l0])
  |succ k1=>
   have H:=HA.out;clear HA;simp only[hello_May.l0]at H
   by_cases c2:x1<(l0.length:Int)
   ·rw[if_pos c2]at H
    have c5:=decide_eq_true c2;clear c2
    by_cases c3:0<=x1
    ·rw[if_pos c3]at H
     have cd:=decide_eq_true c3;clear c3
     by_cases c4:x1<(l0.length:Int)
     ·rw[if_pos c4]at H
      have ci:=decide_eq_true c4;clear c4;obtain⟨t0,A1,H⟩:=bsE H;(try dsimp only at H);have A5:=Aside0.mk A1;clear A1
      by_cases c6:t0=true
      ·subst c6
       rw[if_pos rfl]at H
       by_cases c7:x1>0
       ·rw[if_pos c7]at H
        have cp:decide (0<x1)=true:=decide_eq_true c7;clear c7;obtain⟨j0,j1⟩:∃j_:Int,(wrap64 (x1-1))=j_:=⟨_,rfl⟩
        replace H:(if 0<=(j0)then(if(j0)<(l0.length:Int)then(if(rd l0 (j0))>=(rd l0 x1)then(some false)else(hello_May.l0 k1 l0 l0 (l0.length:Int) (wrap64 (x1+1))))else(none))else(none))=some r:=by first|(rw[j1]at H;exact H)|(simp only[j1]at H |-;exact H)
        (try rw[j1]at A5)
        have j2:(IntKind.i64.wrap (x1-1))=j0:=(i64_w _).trans j1
        by_cases c9:0<=(j0)
        ·rw[if_pos c9]at H
         have cu:=decide_eq_true c9;clear c9
         by_cases cx:(j0)<(l0.length:Int)
         ·rw[if_pos cx]at H
          have cy:=decide_eq_true cx;clear cx
          by_cases cz:(rd l0 (j0))>=(rd l0 x1)
          ·rw[if_pos cz]at H
           have c00:decide ((rd l0 x1)<=(rd l0 (j0)))=true:=decide_eq_true cz;clear cz;obtain rfl:=Option.some.inj H;have p0:0<=(x1:Int):=of_decide_eq_true mE;have q0:x1<(l0.length:Int):=of_decide_eq_true mE;obtain⟨d0,e0,h0⟩:=Kd.at_int R0.out x1 p0 q0;cases e0;replace p0:=eq_true p0;replace q0:=eq_true q0
           go_wp2_with (first|((with_reducible refine gate_callee (f:=37) rfl ?_);refine cLV (some 13) Try.func37 #[.int .i64 (rd l0 x1)] (h:=?_);(with_reducible refine(lsa_Router.calls (rd l0 x1) true _ A5.out).mono ?_);rintro e w' ⟨rfl,⟨nd,rfl⟩⟩;refine⟨_,rfl,?_⟩;have p1:0<=((j0):Int):=of_decide_eq_true mE;have q1:(j0)<(l0.length:Int):=of_decide_eq_true mE;obtain⟨d1,e1,h1⟩:=Kd.at_int R0.out (j0) p1 q1;obtain rfl:d0=d1:=mBR;replace p1:=eq_true p1;replace q1:=eq_true q1))
           go_ret;exact⟨by first|rfl|(simp;done)|(simp only[<-j1] <;> (first|rfl|simp))|(simp[*];done),by repeat (first|exact Drawn0.refl _|apply Drawn0.step)⟩
          ·rw[if_neg cz]at H
           have c00:decide ((rd l0 x1)<=(rd l0 (j0)))=false:=decide_eq_false cz;clear cz;have H':=Aside0.mk H;clear H;have p0:0<=(x1:Int):=of_decide_eq_true mE;have q0:x1<(l0.length:Int):=of_decide_eq_true mE;obtain⟨d0,e0,h0⟩:=Kd.at_int R0.out x1 p0 q0;cases e0;replace p0:=eq_true p0;replace q0:=eq_true q0
           go_wp2_with (first|((with_reducible refine gate_callee (f:=37) rfl ?_);refine cLV (some 13) Try.func37 #[.int .i64 (rd l0 x1)] (h:=?_);(with_reducible refine(lsa_Router.calls (rd l0 x1) true _ A5.out).mono ?_);rintro e w' ⟨rfl,⟨nd,rfl⟩⟩;refine⟨_,rfl,?_⟩;have p1:0<=((j0):Int):=of_decide_eq_true mE;have q1:(j0)<(l0.length:Int):=of_decide_eq_true mE;obtain⟨d1,e1,h1⟩:=Kd.at_int R0.out (j0) p1 q1;obtain rfl:d0=d1:=mBR;replace p1:=eq_true p1;replace q1:=eq_true q1))
           go_roundg k1
           case measure=>have:=HK1.out;omega
           case rel=>exact⟨(wrap64 (x1+1)),mK,H',⟨by have:=HK1.out;omega⟩,by repeat (first|exact Drawn0.refl _|apply Drawn0.step)⟩
         ·rw[if_neg cx]at H
          exact absurd H mAM
        ·rw[if_neg c9]at H
         exact absurd H mAM
       ·rw[if_neg c7]at H
        have cp:decide (0<x1)=false:=decide_eq_false c7;clear c7;have H':=Aside0.mk H;clear H;have p0:0<=(x1:Int):=of_decide_eq_true mE;have q0:x1<(l0.length:Int):=of_decide_eq_true mE;obtain⟨d0,e0,h0⟩:=Kd.at_int R0.out x1 p0 q0;cases e0;replace p0:=eq_true p0;replace q0:=eq_true q0
        go_wp2_with (first|((with_reducible refine gate_callee (f:=37) rfl ?_);refine cLV (some 13) Try.func37 #[.int .i64 (rd l0 x1)] (h:=?_);(with_reducible refine(lsa_Router.calls (rd l0 x1) true _ A5.out).mono ?_);rintro e w' ⟨rfl,⟨nd,rfl⟩⟩;refine⟨_,rfl,?_⟩))
        go_roundg k1
        case measure=>have:=HK1.out;omega
        case rel=>exact⟨(wrap64 (x1+1)),mK,H',⟨by have:=HK1.out;omega⟩,by repeat (first|exact Drawn0.refl _|apply Drawn0.step)⟩
      ·replace c6:=Bool.eq_false_iff.mpr c6
       subst c6;rw[if_neg (show ¬(false=true)by decide)]at H;obtain rfl:=Option.some.inj H;have p0:0<=(x1:Int):=of_decide_eq_true mE;have q0:x1<(l0.length:Int):=of_decide_eq_true mE;obtain⟨d0,e0,h0⟩:=Kd.at_int R0.out x1 p0 q0;cases e0;replace p0:=eq_true p0;replace q0:=eq_true q0
       go_wp2_with (first|((with_reducible refine gate_callee (f:=37) rfl ?_);refine cLV (some 13) Try.func37 #[.int .i64 (rd l0 x1)] (h:=?_);(with_reducible refine(lsa_Router.calls (rd l0 x1) false _ A5.out).mono ?_);rintro e w' ⟨rfl,⟨nd,rfl⟩⟩;refine⟨_,rfl,?_⟩))
       go_ret;exact⟨by first|rfl|(simp;done)|(simp[*];done),by repeat (first|exact Drawn0.refl _|apply Drawn0.step)⟩
     ·rw[if_neg c4]at H
      exact absurd H mAM
    ·rw[if_neg c3]at H
     exact absurd H mAM
   ·rw[if_neg c2]at H
    have c5:=decide_eq_false c2;clear c2;obtain rfl:=Option.some.inj H;go_wp2;go_ret;exact⟨by first|rfl|(simp;done)|(simp[*];done),by repeat (first|exact Drawn0.refl _|apply Drawn0.step)⟩
def hello_Put.l0:Nat->ByteArray->List Int->Int->Int->Option (ByteArray × Int)
 |0,_,_,_,_=>none
 |k+1,x4,x13,x14,x15=>if x15<x14 then(if 0<=x15 then(if x15<(x13.length:Int)then((lsa_One.f (rd x13 x15)).bind λt145=>(if x4.size+t145.size<=9223372036854775807 then(hello_Put.l0 k (x4++t145) x13 x14 (wrap64 (x15+1)))else(none)))else(none))else(none))else(some (x4,0))
def hello_Put.f (k:Nat) (l0:List Int):Option (ByteArray × Int):=(hello_May.f k l0).bind λt142=>(if t142=true then((lsa_One.f (l0.length:Int)).bind λt143=>(hello_Put.l0 k t143 l0 (l0.length:Int) 0))else(some ((⟨#[]⟩:ByteArray),900)))
theorem hello_Put.mono_l:∀k,(∀y0 y1 y2 y3,LeO (hello_Put.l0 k y0 y1 y2 y3) (hello_Put.l0 (k+1) y0 y1 y2 y3))
 |0=>λ_ _ _ _ r h=>by simp[hello_Put.l0]at h
 |k+1=>by
  have ih0:=hello_Put.mono_l k
  ·intro y0 y1 y2 y3
   unfold hello_Put.l0
   repeat' (with_reducible first|exact ih0 _ _ _ _|exact hello_May.mono _ _|exact LeO.refl _|exact LeO.none _|refine LeO.ite ?_ ?_ |refine LeO.bind ?_ (λ_=>?_))
theorem hello_Put.mono:∀a0 k,LeO (hello_Put.f k a0) (hello_Put.f (k+1) a0):=by
 intro a0 k;have ih0:=hello_Put.mono_l k;unfold hello_Put.f
 repeat' (with_reducible first|exact ih0 _ _ _ _|exact hello_May.mono _ _|exact LeO.refl _|exact LeO.none _|refine LeO.ite ?_ ?_ |refine LeO.bind ?_ (λ_=>?_))
set_option maxHeartbeats 8000000 in
set_option maxRecDepth 100000 in
theorem hello_Put.calls (k:Nat) (A0:Option Addr) (c0:Nat) (l0:List Int) (r1:ByteArray) (r2:Int) (w:World) (hr0:Kd.C (Kd.int .i64) w A0 l0.length l0) (hc0:l0.length<=c0) (h:hello_Put.f k l0=some (r1,r2)):
  Calls Try.prog 46 #[.slice A0 l0.length c0] w λe w'=>e= .returned (.tuple #[.string r1,.int .i64 r2])/\Below w.heap.size w w':=by
 have R0:=Aside0.mk hr0;have K0:=Aside0.mk hc0;clear hr0 hc0;have HB:=Aside0.mk (Below.refl w.heap.size w);have H:((hello_May.f k l0).bind λt0=>(if t0=true then((lsa_One.f (l0.length:Int)).bind λt1=>(hello_Put.l0 k t1 l0 (l0.length:Int) 0))else(some ((⟨#[]⟩:ByteArray),900))))=some (r1,r2):=h;clear h;obtain⟨t0,A1,H⟩:=bsE H;(try dsimp only at H);have A2:=Aside0.mk A1;clear A1
 by_cases c3:t0=true
 ·subst c3
  rw[if_pos rfl]at H;obtain⟨t1,A3,H⟩:=bsE H;(try dsimp only at H);have A4:=Aside0.mk A3;clear A3;have H':=Aside0.mk H;clear H
  go_enter Try.func46,Try.ntmps46
  go_wp2_with (first|((with_reducible refine gate_callee (f:=67) rfl ?_);refine cLV (some 8) Try.func67 #[.slice A0 l0.length c0] (h:=?_);(with_reducible refine(hello_May.calls k _ _ l0 true _ ?side1 ?side2 A2.out).mono ?_);(case side1=>repeat (first|exact R0.out|(with_reducible refine Kd.C_alloc ?_ _)|(with_reducible refine Kd.C_drewN ?_ _)|(with_reducible refine Kd.C_drew ?_)));(case side2=>exact K0.out);rintro e w' ⟨rfl,⟨nd,rfl⟩⟩;refine⟨_,rfl,?_⟩)|((with_reducible refine gate_callee (f:=50) rfl ?_);refine cLV (some 12) Try.func50 #[.int .i64 (l0.length:Int)] (h:=?_);(with_reducible refine(lsa_One.calls (l0.length:Int) t1 _ A4.out).mono ?_);rintro e w5 ⟨rfl,hb⟩;refine⟨_,rfl,?_⟩;replace HB:=Aside0.mk (below_step mA hb);(try clear hb)))
  go_loopg [4,15] k (λkq v4 v15 w'=>∃(x0:ByteArray) (x1:Int),v4= .string x0/\v15= .int .i64 x1/\Aside0 (hello_Put.l0 kq x0 l0 (l0.length:Int) x1=some (r1,r2))/\Aside0 (kq<=k)/\Aside0 (Below w.heap.size w w'))
  case atStart=>exact⟨(t1),(0),mK,mK,H',⟨Nat.le_refl _⟩,⟨by repeat (first|(with_reducible first|exact HB.out|apply below_alloc|apply pw_below_drewN|apply below_drew1)|exact HB.out)⟩⟩
  case round=>
   clear H';(try clear p2);(try clear c3);(try clear c4);(try clear c5);obtain⟨x0,x1,rfl,rfl,HA,HK1,HB⟩:=hrel;cases gk with
   |zero=>exact absurd HA.out (by simp[hello_Put.l0])
   |succ k1=>
    have H:=HA.out;clear HA;simp only[hello_Put.l0]at H
    by_cases c6:x1<(l0.length:Int)
    ·rw[if_pos c6]at H
     have ca:=decide_eq_true c6;clear c6
     by_cases c7:0<=x1
     ·rw[if_pos c7]at H
      have cf:=decide_eq_true c7;clear c7
      by_cases c8:x1<(l0.length:Int)
      ·rw[if_pos c8]at H
       have ck:=decide_eq_true c8;clear c8;obtain⟨t2,A7,H⟩:=bsE H;(try dsimp only at H);have A9:=Aside0.mk A7;clear A7
       by_cases cn:x0.size+t2.size<=9223372036854775807
       ·rw[if_pos cn]at H
        have co:=eq_true cn;have cp:=decide_eq_true cn;(try have cq:(9223372036854775807<x0.size+t2.size)=False:=eq_false (Nat.not_lt.2 cn));have H':=Aside0.mk H;clear H;have p0:0<=(x1:Int):=of_decide_eq_true mE;have q0:x1<(l0.length:Int):=of_decide_eq_true mE;obtain⟨d0,e0,h0⟩:=Kd.at_int R0.out x1 p0 q0;cases e0;replace h0:=hB HB h0;replace p0:=eq_true p0;replace q0:=eq_true q0
        go_wp2_with (first|((with_reducible refine gate_callee (f:=50) rfl ?_);refine cLV (some 21) Try.func50 #[.int .i64 (rd l0 x1)] (h:=?_);(with_reducible refine(lsa_One.calls (rd l0 x1) t2 _ A9.out).mono ?_);rintro e w1 ⟨rfl,hb⟩;refine⟨_,rfl,?_⟩;replace HB:=Aside0.mk (below_step mA hb);(try clear hb)))
        go_roundg k1
        case measure=>have:=HK1.out;omega
        case rel=>exact⟨(x0++t2),(wrap64 (x1+1)),mK,mK,H',⟨by have:=HK1.out;omega⟩,⟨by repeat (first|(with_reducible first|exact HB.out|apply below_alloc|apply pw_below_drewN|apply below_drew1)|exact HB.out)⟩⟩
       ·rw[if_neg cn]at H
        exact absurd H mAM
      ·rw[if_neg c8]at H
       exact absurd H mAM
     ·rw[if_neg c7]at H
      exact absurd H mAM
    ·rw[if_neg c6]at H
     have ca:=decide_eq_false c6;clear c6;simp only[Option.some.injEq,Prod.mk.injEq]at H;obtain⟨rfl,rfl⟩:=H;go_wp2
     go_ret2
     exact⟨by first|rfl|(simp[errW_none,errW_some] <;> rfl)|(simp[*,errW_none,errW_some] <;> rfl),by repeat (first|(with_reducible first|exact HB.out|apply below_alloc|apply pw_below_drewN|apply below_drew1)|exact HB.out)⟩
 ·replace c3:=Bool.eq_false_iff.mpr c3
  subst c3;rw[if_neg (show ¬(false=true)by decide)]at H;simp only[Option.some.injEq,Prod.mk.injEq]at H;obtain⟨rfl,rfl⟩:=H
  go_enter Try.func46,Try.ntmps46
  go_wp2_with (first|((with_reducible refine gate_callee (f:=67) rfl ?_);refine cLV (some 8) Try.func67 #[.slice A0 l0.length c0] (h:=?_);(with_reducible refine(hello_May.calls k _ _ l0 false _ ?side1 ?side2 A2.out).mono ?_);(case side1=>repeat (first|exact R0.out|(with_reducible refine Kd.C_alloc ?_ _)|(with_reducible refine Kd.C_drewN ?_ _)|(with_reducible refine Kd.C_drew ?_)));(case side2=>exact K0.out);rintro e w' ⟨rfl,⟨nd,rfl⟩⟩;refine⟨_,rfl,?_⟩))
  go_ret2
  exact⟨by first|rfl|(simp[errW_none,errW_some] <;> rfl)|(simp[*,errW_none,errW_some] <;> rfl),by repeat (first|(with_reducible first|exact HB.out|apply below_alloc|apply pw_below_drewN|apply below_drew1)|exact HB.out)⟩
def lsa_Serial.f (a0:Int):Option (Bool):=if a0>=1 then(some (decide (a0<=2147483647)))else(some false)
set_option maxHeartbeats 8000000 in
set_option maxRecDepth 100000 in
theorem lsa_Serial.calls (a0:Int) (r:Bool) (w:World) (h:lsa_Serial.f a0=some r):
  Calls Try.prog 79 #[.int .i64 a0] w λe w'=>e= .returned (.bool r)/\Drawn0 w w':=by
 have H:(if a0>=1 then(some (decide (a0<=2147483647)))else(some false))=some r:=h;clear h
 by_cases c2:a0>=1
 ·rw[if_pos c2]at H
  have c3:decide (1<=a0)=true:=decide_eq_true c2;clear c2;obtain rfl:=Option.some.inj H
  go_enter Try.func79,Try.ntmps79
  go_wp2;go_ret;exact⟨by first|rfl|(simp;done)|(simp[*];done),by repeat (first|exact Drawn0.refl _|apply Drawn0.step)⟩
 ·rw[if_neg c2]at H
  have c3:decide (1<=a0)=false:=decide_eq_false c2;clear c2;obtain rfl:=Option.some.inj H
  go_enter Try.func79,Try.ntmps79
  go_wp2;go_ret;exact⟨by first|rfl|(simp;done)|(simp[*];done),by repeat (first|exact Drawn0.refl _|apply Drawn0.step)⟩
def lsa_Age.f (a0:Int):Option (Bool):=if a0>=0 then(some (decide (a0<=60)))else(some false)
set_option maxHeartbeats 8000000 in
set_option maxRecDepth 100000 in
theorem lsa_Age.calls (a0:Int) (r:Bool) (w:World) (h:lsa_Age.f a0=some r):
  Calls Try.prog 80 #[.int .i64 a0] w λe w'=>e= .returned (.bool r)/\Drawn0 w w':=by
 have H:(if a0>=0 then(some (decide (a0<=60)))else(some false))=some r:=h;clear h
 by_cases c2:a0>=0
 ·rw[if_pos c2]at H
  have c3:decide (0<=a0)=true:=decide_eq_true c2;clear c2;obtain rfl:=Option.some.inj H
  go_enter Try.func80,Try.ntmps80
  go_wp2;go_ret;exact⟨by first|rfl|(simp;done)|(simp[*];done),by repeat (first|exact Drawn0.refl _|apply Drawn0.step)⟩
 ·rw[if_neg c2]at H
  have c3:decide (0<=a0)=false:=decide_eq_false c2;clear c2;obtain rfl:=Option.some.inj H
  go_enter Try.func80,Try.ntmps80
  go_wp2;go_ret;exact⟨by first|rfl|(simp;done)|(simp[*];done),by repeat (first|exact Drawn0.refl _|apply Drawn0.step)⟩
def lsa_Links.l0:Nat->List (S109)->Int->List (S109)->Int->Int->Option (Bool)
 |0,_,_,_,_,_=>none
 |k+1,x0,x1,x7,x8,x9=>if x9<x8 then(if 0<=x9 then(if x9<(x7.length:Int)then((lsa_Router.f ((rd_T109 x7 x9).f0)).bind λt148=>(if t148=true then(if((rd_T109 x7 x9).f0)=x1 then(some false)else(if((rd_T109 x7 x9).f1)<1 then(some false)else(if((rd_T109 x7 x9).f1)>65535 then(some false)else(if x9>0 then(if 0<=(wrap64 (x9-1))then(if(wrap64 (x9-1))<(x0.length:Int)then(if((rd_T109 x0 (wrap64 (x9-1))).f0)>=((rd_T109 x7 x9).f0)then(some false)else(lsa_Links.l0 k x0 x1 x7 x8 (wrap64 (x9+1))))else(none))else(none))else(lsa_Links.l0 k x0 x1 x7 x8 (wrap64 (x9+1)))))))else(some false)))else(none))else(none))else(some true)
def lsa_Links.f (k:Nat) (l0:List (S109)) (a1:Int):Option (Bool):=lsa_Links.l0 k l0 a1 l0 (l0.length:Int) 0
theorem lsa_Links.mono_l:∀k,(∀y0 y1 y2 y3 y4,LeO (lsa_Links.l0 k y0 y1 y2 y3 y4) (lsa_Links.l0 (k+1) y0 y1 y2 y3 y4))
 |0=>λ_ _ _ _ _ r h=>by simp[lsa_Links.l0]at h
 |k+1=>by
  have ih0:=lsa_Links.mono_l k
  ·intro y0 y1 y2 y3 y4
   unfold lsa_Links.l0
   repeat' (with_reducible first|exact ih0 _ _ _ _ _|exact LeO.refl _|exact LeO.none _|refine LeO.ite ?_ ?_ |refine LeO.bind ?_ (λ_=>?_))
theorem lsa_Links.mono:∀a0 a1 k,LeO (lsa_Links.f k a0 a1) (lsa_Links.f (k+1) a0 a1):=by
 intro a0 a1 k;have ih0:=lsa_Links.mono_l k;unfold lsa_Links.f
 repeat' (with_reducible first|exact ih0 _ _ _ _ _|exact LeO.refl _|exact LeO.none _|refine LeO.ite ?_ ?_ |refine LeO.bind ?_ (λ_=>?_))
def lsa_Links.T4:Bool × List (List Nat × List Nat):=(true,[([],[]),([0],[0]),([1],[1]),([2],[2]),([3,2],[3]),([4],[4]),([5,4],[4,5]),([4],[4]),([6,7,4],[4,6,7]),([4,8],[4,8]),([9,4],[9]),([10],[10]),([11,10],[10,11]),([12,10],[10,12]),([10,13],[10,13]),([14,10],[14]),([15],[15]),([16,15],[15,16]),([17,15],[15,17]),([15,18],[15,18]),([19,15],[19]),([20],[20]),([21,20],[20,21]),([22,20,20],[20,22]),([23],[23]),([23],[23]),([25,23],[23,25]),([24,26,23],[23,24,26]),([27,23],[23,27]),([28,23],[23,28]),([23],[23]),([30,23],[23,30]),([29,31,23],[23,29,31]),([23,32,20],[20,23,32]),([20,33],[20,33])])
def lsa_Links.B4:List Nat:=[0,1,3,7,15,31,63,31,255,511,1023,2047,4095,8191,16383,32767,65535,131071,262143,524287,1048575,2097151,4194303,8388607,16777215,16777215,50331647,134217727,268435455,536870911,16777215,1090519039,4294967295,8589934591,17179869183]
theorem lsa_Links.tab4:rtab .any (opsOf Try.f81 4)=lsa_Links.T4:=by kernel_rfl
theorem lsa_Links.bits4:waitsOk lsa_Links.T4.2 lsa_Links.B4=true:=by kernel_rfl
set_option maxHeartbeats 8000000 in
set_option maxRecDepth 100000 in
theorem lsa_Links.calls (k:Nat) (A0:Option Addr) (c0:Nat) (l0:List (S109)) (a1:Int) (r:Bool) (w:World) (hr0:Kd.C k109 w A0 l0.length l0) (hc0:l0.length<=c0) (h:lsa_Links.f k l0 a1=some r):
  Calls Try.prog 81 #[.slice A0 l0.length c0,.int .i64 a1] w λe w'=>e= .returned (.bool r)/\Below w.heap.size w w':=by
 have hu109:=Try.underlying109;have R0:=Aside0.mk hr0;have K0:=Aside0.mk hc0;clear hr0 hc0;have HB:=Aside0.mk (Below.refl w.heap.size w);have H:(lsa_Links.l0 k l0 a1 l0 (l0.length:Int) 0)=some r:=h;clear h;have H':=Aside0.mk H;clear H
 go_enter Try.func81,Try.ntmps81
 go_wp2
 go_loopg [9] k (λkq v9 w'=>∃(x2:Int),v9= .int .i64 x2/\Aside0 (lsa_Links.l0 kq l0 a1 l0 (l0.length:Int) x2=some r)/\Aside0 (kq<=k)/\Aside0 (Below w.heap.size w w'))
 case atStart=>exact⟨(0),mK,H',⟨Nat.le_refl _⟩,⟨by repeat (first|(with_reducible first|exact HB.out|apply below_alloc|apply pw_below_drewN|apply below_drew1)|exact HB.out)⟩⟩
 case round=>
  clear H';(try clear p2);obtain⟨x2,rfl,HA,HK1,HB⟩:=hrel;cases gk with
  |zero=>exact absurd HA.out (by simp[lsa_Links.l0])
  |succ k1=>
   have H:=HA.out;clear HA;simp only[lsa_Links.l0]at H
   by_cases c3:x2<(l0.length:Int)
   ·rw[if_pos c3]at H
    have c6:=decide_eq_true c3;clear c3
    by_cases c4:0<=x2
    ·rw[if_pos c4]at H
     have cd:=decide_eq_true c4;clear c4
     by_cases c5:x2<(l0.length:Int)
     ·rw[if_pos c5]at H
      have ci:=decide_eq_true c5;clear c5;obtain⟨t0,A1,H⟩:=bsE H;(try dsimp only at H);have A6:=Aside0.mk A1;clear A1
      by_cases c7:t0=true
      ·subst c7
       rw[if_pos rfl]at H
       by_cases c8:((rd_T109 l0 x2).f0)=a1
       ·rw[if_pos c8]at H
        have cp:=beq_iff_eq.mpr c8;have cr:=bne_eq_false_iff_eq.mpr c8;clear c8;obtain rfl:=Option.some.inj H;have p0:0<=(x2:Int):=of_decide_eq_true mE;have q0:x2<(l0.length:Int):=of_decide_eq_true mE;obtain⟨d0,e0,h0,h1⟩:=at_T109 R0.out x2 p0 q0;cases e0;replace h0:=hB HB h0;replace h1:=hB HB h1;replace p0:=eq_true p0;replace q0:=eq_true q0;(try go_wp2_with (first|((with_reducible refine gate_dst (N:=6) rfl ?_);refine bxV (N:=6) (cs:=#[.int .i64 0,.int .i64 0]) (t:=109) (h:=?_);intro g0 hg w9 hbox hb;have B0:=Aside0.mk (hbox);have G0:=Aside0.mk ((mJ:w.heap.size<=g0));have G1:=Aside0.mk ((mJ:w.heap.size<=g0));replace HB:=Aside0.mk (below_step mA hb);clear hb hbox hg;obtain⟨z0,z1⟩:=bc2 B0.out;have z2:=blk_frozen B0.out)|((with_reducible refine gate_store (t:=109) (p:=6) rfl ?_);refine stV (t:=109) (p:=6) (w1:=((w9.setCell ⟨g0,0,none⟩ (.int .i64 ((rd_T109 l0 x2).f0))).setCell ⟨g0,1,none⟩ (.int .i64 ((rd_T109 l0 x2).f1)))) (h:=?_);intro w3 hw;replace B0:Aside0 (w3.heap[g0]? =some (.cells #[.int .i64 ((rd_T109 l0 x2).f0),.int .i64 ((rd_T109 l0 x2).f1)] 109 (0,0))):=⟨mV⟩;replace HB:Aside0 (Below w.heap.size w w3):=⟨mBI⟩;clear hw)));replace B0:=Aside0.mk (blk_drew B0.out);replace HB:=Aside0.mk (below_drew1 HB.out);refine start_ (n:=35) (S:=λw'=>w'.cell? ⟨g0,0,none⟩=some (.int .i64 ((rd_T109 l0 x2).f0))/\w'.cell? ⟨g0,1,none⟩=some (.int .i64 ((rd_T109 l0 x2).f1))) (ds:=[]) mk_35_0 mAD rfl rfl ⟨(blk_cell B0.out 0).trans rfl,(blk_cell B0.out 1).trans rfl⟩ (λhHeld=>?_);refine with_tabW lsa_Links.tab4 lsa_Links.bits4 (λHT_ HW_=>?_);generalize w3.drew=w4 at B0 HB hHeld |-;refine pV 0 14 mk_35_1 ?_;refine tV 1 (some 15) mk_35_2 (hy:=Or.inl ⟨by rfl,by rintro w' ⟨s0,s1⟩;go_simp;with_reducible rfl⟩) (h:=?_);refine oV 2 (some 16) mk_35_3 (h:=λK hK=>?_);refine gV Try.func37 #[.int .i64 ((rd_T109 l0 x2).f0)] (h:=?_)
        with_reducible refine(lsa_Router.calls ((rd_T109 l0 x2).f0) true _ A6.out).mono ?_
        rintro e w' ⟨rfl,⟨nd,rfl⟩⟩;refine⟨_,rfl,?_⟩;refine hK.out _ _ ⟨(blk_cell B0.out 0).trans rfl,(blk_cell B0.out 1).trans rfl⟩ (λhHeld=>?_);clear hK K;refine nV 16 (h:=?_);refine pV 3 17 mk_35_4 ?_;refine pV 4 18 mk_35_5 ?_;refine pV 5 19 mk_35_6 ?_;refine pV 7 21 #[true,true,true,true,true,true,false,true,false,false,false,false,false,false,false,false,false,false,false,false,false,false,false,false,false,false,false,false,false,false,false,false,false,false,false] ?_;refine tV 6 (some 20) mk_35_8 (hy:=Or.inl ⟨by rfl,by rintro w' ⟨s0,s1⟩;go_simp;with_reducible rfl⟩) (h:=?_);refine pV 8 22 mk_35_9 ?_;refine pV 9 23 mk_35_10 ?_;refine pV 10 24 mk_35_11 ?_;refine pU 11 25 mk_35_12 ?_;refine pU 12 26 mk_35_13 ?_;refine pU 13 27 mk_35_14 ?_;refine pV 14 28 mk_35_15 ?_;refine pV 15 29 mk_35_16 ?_;refine pU 16 30 mk_35_17 ?_;refine pU 17 31 mk_35_18 ?_;refine pU 18 32 mk_35_19 ?_;refine pV 19 33 mk_35_20 ?_;refine pV 20 34 mk_35_21 ?_;refine pU 21 35 mk_35_22 ?_;refine pU 22 36 mk_35_23 ?_;refine pU 23 37 mk_35_24 ?_;refine pU 24 38 mk_35_25 ?_;refine pU 25 39 mk_35_26 ?_;refine pU 26 40 mk_35_27 ?_;refine pU 27 41 mk_35_28 ?_;refine pU 28 42 mk_35_29 ?_;refine pU 29 43 mk_35_30 ?_;refine pU 30 44 mk_35_31 ?_;refine pU 31 45 mk_35_32 ?_;refine pU 32 46 mk_35_33 ?_;refine pU 33 47 mk_35_34 ?_;refine pV 34 48 mk_35_35 ?_
        refine done_ (done_of HT_.out mAD) ?_;(try go_wp2);go_ret;exact⟨by first|rfl|(simp[errW_none,errW_some] <;> rfl)|(simp[*,errW_none,errW_some] <;> rfl),by repeat (first|(with_reducible first|exact HB.out|apply below_alloc|apply pw_below_drewN|apply below_drew1|refine below_set ?_ G1.out)|exact HB.out)⟩
       ·rw[if_neg c8]at H
        have cp:=beq_eq_false_iff_ne.mpr c8;have cr:=bne_iff_ne.mpr c8
        by_cases cy:((rd_T109 l0 x2).f1)<1
        ·rw[if_pos cy]at H
         have cz:=decide_eq_true cy;clear cy;obtain rfl:=Option.some.inj H;have p0:0<=(x2:Int):=of_decide_eq_true mE;have q0:x2<(l0.length:Int):=of_decide_eq_true mE;obtain⟨d0,e0,h0,h1⟩:=at_T109 R0.out x2 p0 q0;cases e0;replace h0:=hB HB h0;replace h1:=hB HB h1;replace p0:=eq_true p0;replace q0:=eq_true q0;(try go_wp2_with (first|((with_reducible refine gate_dst (N:=6) rfl ?_);refine bxV (N:=6) (cs:=#[.int .i64 0,.int .i64 0]) (t:=109) (h:=?_);intro g0 hg w5 hbox hb;have B0:=Aside0.mk (hbox);have G0:=Aside0.mk ((mJ:w.heap.size<=g0));have G1:=Aside0.mk ((mJ:w.heap.size<=g0));replace HB:=Aside0.mk (below_step mA hb);clear hb hbox hg;obtain⟨z3,z4⟩:=bc2 B0.out;have z5:=blk_frozen B0.out)|((with_reducible refine gate_store (t:=109) (p:=6) rfl ?_);refine stV (t:=109) (p:=6) (w1:=((w5.setCell ⟨g0,0,none⟩ (.int .i64 ((rd_T109 l0 x2).f0))).setCell ⟨g0,1,none⟩ (.int .i64 ((rd_T109 l0 x2).f1)))) (h:=?_);intro w7 hw;replace B0:Aside0 (w7.heap[g0]? =some (.cells #[.int .i64 ((rd_T109 l0 x2).f0),.int .i64 ((rd_T109 l0 x2).f1)] 109 (0,0))):=⟨mV⟩;replace HB:Aside0 (Below w.heap.size w w7):=⟨mBI⟩;clear hw)));replace B0:=Aside0.mk (blk_drew B0.out);replace HB:=Aside0.mk (below_drew1 HB.out);refine start_ (n:=35) (S:=λw'=>w'.cell? ⟨g0,0,none⟩=some (.int .i64 ((rd_T109 l0 x2).f0))/\w'.cell? ⟨g0,1,none⟩=some (.int .i64 ((rd_T109 l0 x2).f1))) (ds:=[]) mk_35_0 mAD rfl rfl ⟨(blk_cell B0.out 0).trans rfl,(blk_cell B0.out 1).trans rfl⟩ (λhHeld=>?_);refine with_tabW lsa_Links.tab4 lsa_Links.bits4 (λHT_ HW_=>?_);generalize w7.drew=w8 at B0 HB hHeld |-;refine pV 0 14 mk_35_1 ?_;refine tV 1 (some 15) mk_35_2 (hy:=Or.inl ⟨by rfl,by rintro w' ⟨s0,s1⟩;go_simp;with_reducible rfl⟩) (h:=?_);refine oV 2 (some 16) mk_35_3 (h:=λK hK=>?_);refine gV Try.func37 #[.int .i64 ((rd_T109 l0 x2).f0)] (h:=?_)
         with_reducible refine(lsa_Router.calls ((rd_T109 l0 x2).f0) true _ A6.out).mono ?_
         rintro e w' ⟨rfl,⟨nd,rfl⟩⟩;refine⟨_,rfl,?_⟩;refine hK.out _ _ ⟨(blk_cell B0.out 0).trans rfl,(blk_cell B0.out 1).trans rfl⟩ (λhHeld=>?_);clear hK K;refine nV 16 (h:=?_);refine pV 3 17 mk_35_4 ?_;refine pV 4 18 mk_35_5 ?_;refine pV 5 19 mk_35_6 ?_;refine pV 7 21 #[true,true,true,true,true,true,false,true,false,false,false,false,false,false,false,false,false,false,false,false,false,false,false,false,false,false,false,false,false,false,false,false,false,false,false] ?_;refine tV 6 (some 20) mk_35_8 (hy:=Or.inl ⟨by rfl,by rintro w' ⟨s0,s1⟩;go_simp;with_reducible rfl⟩) (h:=?_);refine pV 8 22 mk_35_9 ?_;refine pV 9 23 mk_35_10 ?_;refine pV 10 24 mk_35_11 ?_;refine pV 11 25 mk_35_12 ?_;refine tV 12 (some 26) mk_35_13 (hy:=Or.inl ⟨by rfl,by rintro w' ⟨s0,s1⟩;go_simp;with_reducible rfl⟩) (h:=?_);refine pV 13 27 mk_35_14 ?_;refine pV 14 28 mk_35_15 ?_;refine pV 15 29 mk_35_16 ?_;refine pU 16 30 mk_35_17 ?_;refine pU 17 31 mk_35_18 ?_;refine pU 18 32 mk_35_19 ?_;refine pV 19 33 mk_35_20 ?_;refine pV 20 34 mk_35_21 ?_;refine pU 21 35 mk_35_22 ?_;refine pU 22 36 mk_35_23 ?_;refine pU 23 37 mk_35_24 ?_;refine pU 24 38 mk_35_25 ?_;refine pU 25 39 mk_35_26 ?_;refine pU 26 40 mk_35_27 ?_;refine pU 27 41 mk_35_28 ?_;refine pU 28 42 mk_35_29 ?_;refine pU 29 43 mk_35_30 ?_;refine pU 30 44 mk_35_31 ?_;refine pU 31 45 mk_35_32 ?_;refine pU 32 46 mk_35_33 ?_;refine pU 33 47 mk_35_34 ?_;refine pV 34 48 mk_35_35 ?_
         refine done_ (done_of HT_.out mAD) ?_;(try go_wp2);go_ret;exact⟨by first|rfl|(simp[errW_none,errW_some] <;> rfl)|(simp[*,errW_none,errW_some] <;> rfl),by repeat (first|(with_reducible first|exact HB.out|apply below_alloc|apply pw_below_drewN|apply below_drew1|refine below_set ?_ G1.out)|exact HB.out)⟩
        ·rw[if_neg cy]at H
         have cz:=decide_eq_false cy;clear cy
         by_cases c18:((rd_T109 l0 x2).f1)>65535
         ·rw[if_pos c18]at H
          have c02:decide (65535<((rd_T109 l0 x2).f1))=true:=decide_eq_true c18;clear c18;obtain rfl:=Option.some.inj H;have p0:0<=(x2:Int):=of_decide_eq_true mE;have q0:x2<(l0.length:Int):=of_decide_eq_true mE;obtain⟨d0,e0,h0,h1⟩:=at_T109 R0.out x2 p0 q0;cases e0;replace h0:=hB HB h0;replace h1:=hB HB h1;replace p0:=eq_true p0;replace q0:=eq_true q0;(try go_wp2_with (first|((with_reducible refine gate_dst (N:=6) rfl ?_);refine bxV (N:=6) (cs:=#[.int .i64 0,.int .i64 0]) (t:=109) (h:=?_);intro g0 hg wa hbox hb;have B0:=Aside0.mk (hbox);have G0:=Aside0.mk ((mJ:w.heap.size<=g0));have G1:=Aside0.mk ((mJ:w.heap.size<=g0));replace HB:=Aside0.mk (below_step mA hb);clear hb hbox hg;obtain⟨z6,z7⟩:=bc2 B0.out;have z8:=blk_frozen B0.out)|((with_reducible refine gate_store (t:=109) (p:=6) rfl ?_);refine stV (t:=109) (p:=6) (w1:=((wa.setCell ⟨g0,0,none⟩ (.int .i64 ((rd_T109 l0 x2).f0))).setCell ⟨g0,1,none⟩ (.int .i64 ((rd_T109 l0 x2).f1)))) (h:=?_);intro wc hw;replace B0:Aside0 (wc.heap[g0]? =some (.cells #[.int .i64 ((rd_T109 l0 x2).f0),.int .i64 ((rd_T109 l0 x2).f1)] 109 (0,0))):=⟨mV⟩;replace HB:Aside0 (Below w.heap.size w wc):=⟨mBI⟩;clear hw)));replace B0:=Aside0.mk (blk_drew B0.out);replace HB:=Aside0.mk (below_drew1 HB.out);refine start_ (n:=35) (S:=λw'=>w'.cell? ⟨g0,0,none⟩=some (.int .i64 ((rd_T109 l0 x2).f0))/\w'.cell? ⟨g0,1,none⟩=some (.int .i64 ((rd_T109 l0 x2).f1))) (ds:=[]) mk_35_0 mAD rfl rfl ⟨(blk_cell B0.out 0).trans rfl,(blk_cell B0.out 1).trans rfl⟩ (λhHeld=>?_);refine with_tabW lsa_Links.tab4 lsa_Links.bits4 (λHT_ HW_=>?_);generalize wc.drew=wd at B0 HB hHeld |-;refine pV 0 14 mk_35_1 ?_;refine tV 1 (some 15) mk_35_2 (hy:=Or.inl ⟨by rfl,by rintro w' ⟨s0,s1⟩;go_simp;with_reducible rfl⟩) (h:=?_);refine oV 2 (some 16) mk_35_3 (h:=λK hK=>?_);refine gV Try.func37 #[.int .i64 ((rd_T109 l0 x2).f0)] (h:=?_)
          with_reducible refine(lsa_Router.calls ((rd_T109 l0 x2).f0) true _ A6.out).mono ?_
          rintro e w' ⟨rfl,⟨nd,rfl⟩⟩;refine⟨_,rfl,?_⟩;refine hK.out _ _ ⟨(blk_cell B0.out 0).trans rfl,(blk_cell B0.out 1).trans rfl⟩ (λhHeld=>?_);clear hK K;refine nV 16 (h:=?_);refine pV 3 17 mk_35_4 ?_;refine pV 4 18 mk_35_5 ?_;refine pV 5 19 mk_35_6 ?_;refine pV 7 21 #[true,true,true,true,true,true,false,true,false,false,false,false,false,false,false,false,false,false,false,false,false,false,false,false,false,false,false,false,false,false,false,false,false,false,false] ?_;refine tV 6 (some 20) mk_35_8 (hy:=Or.inl ⟨by rfl,by rintro w' ⟨s0,s1⟩;go_simp;with_reducible rfl⟩) (h:=?_);refine pV 8 22 mk_35_9 ?_;refine pV 9 23 mk_35_10 ?_;refine pV 10 24 mk_35_11 ?_;refine pV 11 25 mk_35_12 ?_;refine tV 12 (some 26) mk_35_13 (hy:=Or.inl ⟨by rfl,by rintro w' ⟨s0,s1⟩;go_simp;with_reducible rfl⟩) (h:=?_);refine pV 13 27 mk_35_14 ?_;refine pV 14 28 mk_35_15 ?_;refine pV 15 29 mk_35_16 ?_;refine pV 16 30 mk_35_17 ?_;refine tV 17 (some 31) mk_35_18 (hy:=Or.inl ⟨by rfl,by rintro w' ⟨s0,s1⟩;go_simp;with_reducible rfl⟩) (h:=?_);refine pV 18 32 mk_35_19 ?_;refine pV 19 33 mk_35_20 ?_;refine pV 20 34 mk_35_21 ?_;refine pU 21 35 mk_35_22 ?_;refine pU 22 36 mk_35_23 ?_;refine pU 23 37 mk_35_24 ?_;refine pU 24 38 mk_35_25 ?_;refine pU 25 39 mk_35_26 ?_;refine pU 26 40 mk_35_27 ?_;refine pU 27 41 mk_35_28 ?_;refine pU 28 42 mk_35_29 ?_;refine pU 29 43 mk_35_30 ?_;refine pU 30 44 mk_35_31 ?_;refine pU 31 45 mk_35_32 ?_;refine pU 32 46 mk_35_33 ?_;refine pU 33 47 mk_35_34 ?_;refine pV 34 48 mk_35_35 ?_
          refine done_ (done_of HT_.out mAD) ?_;(try go_wp2);go_ret;exact⟨by first|rfl|(simp[errW_none,errW_some] <;> rfl)|(simp[*,errW_none,errW_some] <;> rfl),by repeat (first|(with_reducible first|exact HB.out|apply below_alloc|apply pw_below_drewN|apply below_drew1|refine below_set ?_ G1.out)|exact HB.out)⟩
         ·rw[if_neg c18]at H
          have c02:decide (65535<((rd_T109 l0 x2).f1))=false:=decide_eq_false c18;clear c18
          by_cases c23:x2>0
          ·rw[if_pos c23]at H
           have c0a:decide (0<x2)=true:=decide_eq_true c23;clear c23;obtain⟨j0,j1⟩:∃j_:Int,(wrap64 (x2-1))=j_:=⟨_,rfl⟩
           replace H:(if 0<=(j0)then(if(j0)<(l0.length:Int)then(if((rd_T109 l0 (j0)).f0)>=((rd_T109 l0 x2).f0)then(some false)else(lsa_Links.l0 k1 l0 a1 l0 (l0.length:Int) (wrap64 (x2+1))))else(none))else(none))=some r:=by first|(rw[j1]at H;exact H)|(simp only[j1]at H |-;exact H)
           (try rw[j1]at A6)
           have j2:(IntKind.i64.wrap (x2-1))=j0:=(i64_w _).trans j1
           by_cases c25:0<=(j0)
           ·rw[if_pos c25]at H
            have c0f:=decide_eq_true c25;clear c25
            by_cases c26:(j0)<(l0.length:Int)
            ·rw[if_pos c26]at H
             have c0k:=decide_eq_true c26;clear c26
             by_cases c27:((rd_T109 l0 (j0)).f0)>=((rd_T109 l0 x2).f0)
             ·rw[if_pos c27]at H
              have c0p:decide (((rd_T109 l0 x2).f0)<=((rd_T109 l0 (j0)).f0))=true:=decide_eq_true c27;clear c27;obtain rfl:=Option.some.inj H;have p0:0<=(x2:Int):=of_decide_eq_true mE;have q0:x2<(l0.length:Int):=of_decide_eq_true mE;obtain⟨d0,e0,h0,h1⟩:=at_T109 R0.out x2 p0 q0;cases e0;replace h0:=hB HB h0;replace h1:=hB HB h1;replace p0:=eq_true p0;replace q0:=eq_true q0;(try go_wp2_with (first|((with_reducible refine gate_dst (N:=6) rfl ?_);refine bxV (N:=6) (cs:=#[.int .i64 0,.int .i64 0]) (t:=109) (h:=?_);intro g0 hg we hbox hb;have B0:=Aside0.mk (hbox);have G0:=Aside0.mk ((mJ:w.heap.size<=g0));have G1:=Aside0.mk ((mJ:w.heap.size<=g0));replace HB:=Aside0.mk (below_step mA hb);clear hb hbox hg;obtain⟨z9,za⟩:=bc2 B0.out;have zb:=blk_frozen B0.out)|((with_reducible refine gate_store (t:=109) (p:=6) rfl ?_);refine stV (t:=109) (p:=6) (w1:=((we.setCell ⟨g0,0,none⟩ (.int .i64 ((rd_T109 l0 x2).f0))).setCell ⟨g0,1,none⟩ (.int .i64 ((rd_T109 l0 x2).f1)))) (h:=?_);intro wg hw;replace B0:Aside0 (wg.heap[g0]? =some (.cells #[.int .i64 ((rd_T109 l0 x2).f0),.int .i64 ((rd_T109 l0 x2).f1)] 109 (0,0))):=⟨mV⟩;replace HB:Aside0 (Below w.heap.size w wg):=⟨mBI⟩;clear hw)));replace B0:=Aside0.mk (blk_drew B0.out);replace HB:=Aside0.mk (below_drew1 HB.out);have p1:0<=((j0):Int):=of_decide_eq_true mE;have q1:(j0)<(l0.length:Int):=of_decide_eq_true mE;obtain⟨d1,e1,h2,h3⟩:=at_T109 R0.out (j0) p1 q1;have hw149_1:=h3;have hw149_0:=h2;obtain rfl:d0=d1:=mBR;replace h2:=hB HB h2;replace h3:=hB HB h3;replace p1:=eq_true p1;replace q1:=eq_true q1;refine start_ (n:=35) (S:=λw'=>w'.cell? ⟨g0,0,none⟩=some (.int .i64 ((rd_T109 l0 x2).f0))/\w'.cell? ⟨g0,1,none⟩=some (.int .i64 ((rd_T109 l0 x2).f1))/\w'.cell? (d0.add (((j0)).toNat *2))=some (.int .i64 ((rd_T109 l0 (j0)).f0))/\w'.cell? ⟨(d0.add (((j0)).toNat *2)).block,(d0.add (((j0)).toNat *2)).off +1,none⟩=some (.int .i64 ((rd_T109 l0 (j0)).f1))) (ds:=[]) mk_35_0 mAD rfl rfl ⟨(blk_cell B0.out 0).trans rfl,(blk_cell B0.out 1).trans rfl,((HB.out.cell (World.block_lt_of_cell? w _ hw149_0)).trans hw149_0),((HB.out.cell (World.block_lt_of_cell? w _ hw149_1)).trans hw149_1)⟩ (λhHeld=>?_);refine with_tabW lsa_Links.tab4 lsa_Links.bits4 (λHT_ HW_=>?_);generalize wg.drew=wh at B0 HB h2 h3 hHeld |-;refine pV 0 14 mk_35_1 ?_;refine tV 1 (some 15) mk_35_2 (hy:=Or.inl ⟨by rfl,by rintro w' ⟨s0,s1,s2,s3⟩;go_simp;with_reducible rfl⟩) (h:=?_);refine oV 2 (some 16) mk_35_3 (h:=λK hK=>?_);refine gV Try.func37 #[.int .i64 ((rd_T109 l0 x2).f0)] (h:=?_)
              with_reducible refine(lsa_Router.calls ((rd_T109 l0 x2).f0) true _ A6.out).mono ?_
              rintro e w' ⟨rfl,⟨nd,rfl⟩⟩;refine⟨_,rfl,?_⟩;refine hK.out _ _ ⟨(blk_cell B0.out 0).trans rfl,(blk_cell B0.out 1).trans rfl,((HB.out.cell (World.block_lt_of_cell? w _ hw149_0)).trans hw149_0),((HB.out.cell (World.block_lt_of_cell? w _ hw149_1)).trans hw149_1)⟩ (λhHeld=>?_);clear hK K;refine nV 16 (h:=?_);refine pV 3 17 mk_35_4 ?_;refine pV 4 18 mk_35_5 ?_;refine pV 5 19 mk_35_6 ?_;refine pV 7 21 #[true,true,true,true,true,true,false,true,false,false,false,false,false,false,false,false,false,false,false,false,false,false,false,false,false,false,false,false,false,false,false,false,false,false,false] ?_;refine tV 6 (some 20) mk_35_8 (hy:=Or.inl ⟨by rfl,by rintro w' ⟨s0,s1,s2,s3⟩;go_simp;with_reducible rfl⟩) (h:=?_);refine pV 8 22 mk_35_9 ?_;refine pV 9 23 mk_35_10 ?_;refine pV 10 24 mk_35_11 ?_;refine pV 11 25 mk_35_12 ?_;refine tV 12 (some 26) mk_35_13 (hy:=Or.inl ⟨by rfl,by rintro w' ⟨s0,s1,s2,s3⟩;go_simp;with_reducible rfl⟩) (h:=?_);refine pV 13 27 mk_35_14 ?_;refine pV 14 28 mk_35_15 ?_;refine pV 15 29 mk_35_16 ?_;refine pV 16 30 mk_35_17 ?_;refine tV 17 (some 31) mk_35_18 (hy:=Or.inl ⟨by rfl,by rintro w' ⟨s0,s1,s2,s3⟩;go_simp;with_reducible rfl⟩) (h:=?_);refine pV 18 32 mk_35_19 ?_;refine pV 19 33 mk_35_20 ?_;refine pV 20 34 mk_35_21 ?_;refine pV 21 35 mk_35_22 ?_;refine pV 22 36 mk_35_23 ?_;refine pV 23 37 mk_35_24 ?_;refine pV 24 38 mk_35_25 ?_;refine pV 25 39 mk_35_26 ?_;refine pV 26 40 mk_35_27 ?_;refine pV 27 41 mk_35_28 ?_;refine pV 28 42 mk_35_29 ?_;refine pV 30 44 #[true,true,true,true,true,true,true,true,true,true,true,true,true,true,true,true,true,true,true,true,true,true,true,true,true,true,true,true,true,false,true,false,false,false,false] ?_;refine tV 29 (some 43) mk_35_31 (hy:=Or.inl ⟨by rfl,by rintro w' ⟨s0,s1,s2,s3⟩;go_simp;with_reducible rfl⟩) (h:=?_);refine tV 31 (some 45) mk_35_32 (hy:=Or.inl ⟨by rfl,by rintro w' ⟨s0,s1,s2,s3⟩;go_simp;with_reducible rfl⟩) (h:=?_);refine pV 32 46 mk_35_33 ?_;refine pV 33 47 mk_35_34 ?_;refine pV 34 48 mk_35_35 ?_
              refine done_ (done_of HT_.out mAD) ?_;(try go_wp2);go_ret;exact⟨by first|rfl|(simp[errW_none,errW_some] <;> rfl)|(simp only[<-j1];first|rfl|(simp[errW_none,errW_some] <;> rfl))|(simp[*,errW_none,errW_some] <;> rfl),by repeat (first|(with_reducible first|exact HB.out|apply below_alloc|apply pw_below_drewN|apply below_drew1|refine below_set ?_ G1.out)|exact HB.out)⟩
             ·rw[if_neg c27]at H
              have c0p:decide (((rd_T109 l0 x2).f0)<=((rd_T109 l0 (j0)).f0))=false:=decide_eq_false c27;clear c27;have H':=Aside0.mk H;clear H;have p0:0<=(x2:Int):=of_decide_eq_true mE;have q0:x2<(l0.length:Int):=of_decide_eq_true mE;obtain⟨d0,e0,h0,h1⟩:=at_T109 R0.out x2 p0 q0;cases e0;replace h0:=hB HB h0;replace h1:=hB HB h1;replace p0:=eq_true p0;replace q0:=eq_true q0;(try go_wp2_with (first|((with_reducible refine gate_dst (N:=6) rfl ?_);refine bxV (N:=6) (cs:=#[.int .i64 0,.int .i64 0]) (t:=109) (h:=?_);intro g0 hg wi hbox hb;have B0:=Aside0.mk (hbox);have G0:=Aside0.mk ((mJ:w.heap.size<=g0));have G1:=Aside0.mk ((mJ:w.heap.size<=g0));replace HB:=Aside0.mk (below_step mA hb);clear hb hbox hg;obtain⟨zc,zd⟩:=bc2 B0.out;have ze:=blk_frozen B0.out)|((with_reducible refine gate_store (t:=109) (p:=6) rfl ?_);refine stV (t:=109) (p:=6) (w1:=((wi.setCell ⟨g0,0,none⟩ (.int .i64 ((rd_T109 l0 x2).f0))).setCell ⟨g0,1,none⟩ (.int .i64 ((rd_T109 l0 x2).f1)))) (h:=?_);intro wk hw;replace B0:Aside0 (wk.heap[g0]? =some (.cells #[.int .i64 ((rd_T109 l0 x2).f0),.int .i64 ((rd_T109 l0 x2).f1)] 109 (0,0))):=⟨mV⟩;replace HB:Aside0 (Below w.heap.size w wk):=⟨mBI⟩;clear hw)));replace B0:=Aside0.mk (blk_drew B0.out);replace HB:=Aside0.mk (below_drew1 HB.out);have p1:0<=((j0):Int):=of_decide_eq_true mE;have q1:(j0)<(l0.length:Int):=of_decide_eq_true mE;obtain⟨d1,e1,h2,h3⟩:=at_T109 R0.out (j0) p1 q1;have hw149_1:=h3;have hw149_0:=h2;obtain rfl:d0=d1:=mBR;replace h2:=hB HB h2;replace h3:=hB HB h3;replace p1:=eq_true p1;replace q1:=eq_true q1;refine start_ (n:=35) (S:=λw'=>w'.cell? ⟨g0,0,none⟩=some (.int .i64 ((rd_T109 l0 x2).f0))/\w'.cell? ⟨g0,1,none⟩=some (.int .i64 ((rd_T109 l0 x2).f1))/\w'.cell? (d0.add (((j0)).toNat *2))=some (.int .i64 ((rd_T109 l0 (j0)).f0))/\w'.cell? ⟨(d0.add (((j0)).toNat *2)).block,(d0.add (((j0)).toNat *2)).off +1,none⟩=some (.int .i64 ((rd_T109 l0 (j0)).f1))) (ds:=[]) mk_35_0 mAD rfl rfl ⟨(blk_cell B0.out 0).trans rfl,(blk_cell B0.out 1).trans rfl,((HB.out.cell (World.block_lt_of_cell? w _ hw149_0)).trans hw149_0),((HB.out.cell (World.block_lt_of_cell? w _ hw149_1)).trans hw149_1)⟩ (λhHeld=>?_);refine with_tabW lsa_Links.tab4 lsa_Links.bits4 (λHT_ HW_=>?_);generalize wk.drew=wl at B0 HB h2 h3 hHeld |-;refine pV 0 14 mk_35_1 ?_;refine tV 1 (some 15) mk_35_2 (hy:=Or.inl ⟨by rfl,by rintro w' ⟨s0,s1,s2,s3⟩;go_simp;with_reducible rfl⟩) (h:=?_);refine oV 2 (some 16) mk_35_3 (h:=λK hK=>?_);refine gV Try.func37 #[.int .i64 ((rd_T109 l0 x2).f0)] (h:=?_)
              with_reducible refine(lsa_Router.calls ((rd_T109 l0 x2).f0) true _ A6.out).mono ?_
              rintro e w' ⟨rfl,⟨nd,rfl⟩⟩;refine⟨_,rfl,?_⟩;refine hK.out _ _ ⟨(blk_cell B0.out 0).trans rfl,(blk_cell B0.out 1).trans rfl,((HB.out.cell (World.block_lt_of_cell? w _ hw149_0)).trans hw149_0),((HB.out.cell (World.block_lt_of_cell? w _ hw149_1)).trans hw149_1)⟩ (λhHeld=>?_);clear hK K;refine nV 16 (h:=?_);refine pV 3 17 mk_35_4 ?_;refine pV 4 18 mk_35_5 ?_;refine pV 5 19 mk_35_6 ?_;refine pV 7 21 #[true,true,true,true,true,true,false,true,false,false,false,false,false,false,false,false,false,false,false,false,false,false,false,false,false,false,false,false,false,false,false,false,false,false,false] ?_;refine tV 6 (some 20) mk_35_8 (hy:=Or.inl ⟨by rfl,by rintro w' ⟨s0,s1,s2,s3⟩;go_simp;with_reducible rfl⟩) (h:=?_);refine pV 8 22 mk_35_9 ?_;refine pV 9 23 mk_35_10 ?_;refine pV 10 24 mk_35_11 ?_;refine pV 11 25 mk_35_12 ?_;refine tV 12 (some 26) mk_35_13 (hy:=Or.inl ⟨by rfl,by rintro w' ⟨s0,s1,s2,s3⟩;go_simp;with_reducible rfl⟩) (h:=?_);refine pV 13 27 mk_35_14 ?_;refine pV 14 28 mk_35_15 ?_;refine pV 15 29 mk_35_16 ?_;refine pV 16 30 mk_35_17 ?_;refine tV 17 (some 31) mk_35_18 (hy:=Or.inl ⟨by rfl,by rintro w' ⟨s0,s1,s2,s3⟩;go_simp;with_reducible rfl⟩) (h:=?_);refine pV 18 32 mk_35_19 ?_;refine pV 19 33 mk_35_20 ?_;refine pV 20 34 mk_35_21 ?_;refine pV 21 35 mk_35_22 ?_;refine pV 22 36 mk_35_23 ?_;refine pV 23 37 mk_35_24 ?_;refine pV 24 38 mk_35_25 ?_;refine pV 25 39 mk_35_26 ?_;refine pV 26 40 mk_35_27 ?_;refine pV 27 41 mk_35_28 ?_;refine pV 28 42 mk_35_29 ?_;refine pV 30 44 #[true,true,true,true,true,true,true,true,true,true,true,true,true,true,true,true,true,true,true,true,true,true,true,true,true,true,true,true,true,false,true,false,false,false,false] ?_;refine tV 29 (some 43) mk_35_31 (hy:=Or.inl ⟨by rfl,by rintro w' ⟨s0,s1,s2,s3⟩;go_simp;with_reducible rfl⟩) (h:=?_);refine tV 31 (some 45) mk_35_32 (hy:=Or.inl ⟨by rfl,by rintro w' ⟨s0,s1,s2,s3⟩;go_simp;with_reducible rfl⟩) (h:=?_);refine pV 32 46 mk_35_33 ?_;refine pV 33 47 mk_35_34 ?_;refine pV 34 48 mk_35_35 ?_
              refine done_ (done_of HT_.out mAD) ?_;(try go_wp2)
              go_roundg k1
              case measure=>have:=HK1.out;omega
              case rel=>exact⟨(wrap64 (x2+1)),mK,H',⟨by have:=HK1.out;omega⟩,⟨by repeat (first|(with_reducible first|exact HB.out|apply below_alloc|apply pw_below_drewN|apply below_drew1|refine below_set ?_ G1.out)|exact HB.out)⟩⟩
            ·rw[if_neg c26]at H
             exact absurd H mAM
           ·rw[if_neg c25]at H
            exact absurd H mAM
          ·rw[if_neg c23]at H
           have c0a:decide (0<x2)=false:=decide_eq_false c23;clear c23;have H':=Aside0.mk H;clear H;have p0:0<=(x2:Int):=of_decide_eq_true mE;have q0:x2<(l0.length:Int):=of_decide_eq_true mE;obtain⟨d0,e0,h0,h1⟩:=at_T109 R0.out x2 p0 q0;cases e0;replace h0:=hB HB h0;replace h1:=hB HB h1;replace p0:=eq_true p0;replace q0:=eq_true q0;(try go_wp2_with (first|((with_reducible refine gate_dst (N:=6) rfl ?_);refine bxV (N:=6) (cs:=#[.int .i64 0,.int .i64 0]) (t:=109) (h:=?_);intro g0 hg wm hbox hb;have B0:=Aside0.mk (hbox);have G0:=Aside0.mk ((mJ:w.heap.size<=g0));have G1:=Aside0.mk ((mJ:w.heap.size<=g0));replace HB:=Aside0.mk (below_step mA hb);clear hb hbox hg;obtain⟨zf,zg⟩:=bc2 B0.out;have zh:=blk_frozen B0.out)|((with_reducible refine gate_store (t:=109) (p:=6) rfl ?_);refine stV (t:=109) (p:=6) (w1:=((wm.setCell ⟨g0,0,none⟩ (.int .i64 ((rd_T109 l0 x2).f0))).setCell ⟨g0,1,none⟩ (.int .i64 ((rd_T109 l0 x2).f1)))) (h:=?_);intro wo hw;replace B0:Aside0 (wo.heap[g0]? =some (.cells #[.int .i64 ((rd_T109 l0 x2).f0),.int .i64 ((rd_T109 l0 x2).f1)] 109 (0,0))):=⟨mV⟩;replace HB:Aside0 (Below w.heap.size w wo):=⟨mBI⟩;clear hw)));replace B0:=Aside0.mk (blk_drew B0.out);replace HB:=Aside0.mk (below_drew1 HB.out);refine start_ (n:=35) (S:=λw'=>w'.cell? ⟨g0,0,none⟩=some (.int .i64 ((rd_T109 l0 x2).f0))/\w'.cell? ⟨g0,1,none⟩=some (.int .i64 ((rd_T109 l0 x2).f1))) (ds:=[]) mk_35_0 mAD rfl rfl ⟨(blk_cell B0.out 0).trans rfl,(blk_cell B0.out 1).trans rfl⟩ (λhHeld=>?_);refine with_tabW lsa_Links.tab4 lsa_Links.bits4 (λHT_ HW_=>?_);generalize wo.drew=wp at B0 HB hHeld |-;refine pV 0 14 mk_35_1 ?_;refine tV 1 (some 15) mk_35_2 (hy:=Or.inl ⟨by rfl,by rintro w' ⟨s0,s1⟩;go_simp;with_reducible rfl⟩) (h:=?_);refine oV 2 (some 16) mk_35_3 (h:=λK hK=>?_);refine gV Try.func37 #[.int .i64 ((rd_T109 l0 x2).f0)] (h:=?_)
           with_reducible refine(lsa_Router.calls ((rd_T109 l0 x2).f0) true _ A6.out).mono ?_
           rintro e w' ⟨rfl,⟨nd,rfl⟩⟩;refine⟨_,rfl,?_⟩;refine hK.out _ _ ⟨(blk_cell B0.out 0).trans rfl,(blk_cell B0.out 1).trans rfl⟩ (λhHeld=>?_);clear hK K;refine nV 16 (h:=?_);refine pV 3 17 mk_35_4 ?_;refine pV 4 18 mk_35_5 ?_;refine pV 5 19 mk_35_6 ?_;refine pV 7 21 #[true,true,true,true,true,true,false,true,false,false,false,false,false,false,false,false,false,false,false,false,false,false,false,false,false,false,false,false,false,false,false,false,false,false,false] ?_;refine tV 6 (some 20) mk_35_8 (hy:=Or.inl ⟨by rfl,by rintro w' ⟨s0,s1⟩;go_simp;with_reducible rfl⟩) (h:=?_);refine pV 8 22 mk_35_9 ?_;refine pV 9 23 mk_35_10 ?_;refine pV 10 24 mk_35_11 ?_;refine pV 11 25 mk_35_12 ?_;refine tV 12 (some 26) mk_35_13 (hy:=Or.inl ⟨by rfl,by rintro w' ⟨s0,s1⟩;go_simp;with_reducible rfl⟩) (h:=?_);refine pV 13 27 mk_35_14 ?_;refine pV 14 28 mk_35_15 ?_;refine pV 15 29 mk_35_16 ?_;refine pV 16 30 mk_35_17 ?_;refine tV 17 (some 31) mk_35_18 (hy:=Or.inl ⟨by rfl,by rintro w' ⟨s0,s1⟩;go_simp;with_reducible rfl⟩) (h:=?_);refine pV 18 32 mk_35_19 ?_;refine pV 19 33 mk_35_20 ?_;refine pV 20 34 mk_35_21 ?_;refine pV 21 35 mk_35_22 ?_;refine pV 22 36 mk_35_23 ?_;refine pV 23 37 mk_35_24 ?_;refine pU 24 38 mk_35_25 ?_;refine pU 25 39 mk_35_26 ?_;refine pU 26 40 mk_35_27 ?_;refine pU 27 41 mk_35_28 ?_;refine pU 28 42 mk_35_29 ?_;refine pU 29 43 mk_35_30 ?_;refine pU 30 44 mk_35_31 ?_;refine pU 31 45 mk_35_32 ?_;refine pU 32 46 mk_35_33 ?_;refine pV 33 47 mk_35_34 ?_;refine pV 34 48 mk_35_35 ?_
           refine done_ (done_of HT_.out mAD) ?_;(try go_wp2)
           go_roundg k1
           case measure=>have:=HK1.out;omega
           case rel=>exact⟨(wrap64 (x2+1)),mK,H',⟨by have:=HK1.out;omega⟩,⟨by repeat (first|(with_reducible first|exact HB.out|apply below_alloc|apply pw_below_drewN|apply below_drew1|refine below_set ?_ G1.out)|exact HB.out)⟩⟩
      ·replace c7:=Bool.eq_false_iff.mpr c7
       subst c7;rw[if_neg (show ¬(false=true)by decide)]at H;obtain rfl:=Option.some.inj H;have p0:0<=(x2:Int):=of_decide_eq_true mE;have q0:x2<(l0.length:Int):=of_decide_eq_true mE;obtain⟨d0,e0,h0,h1⟩:=at_T109 R0.out x2 p0 q0;cases e0;replace h0:=hB HB h0;replace h1:=hB HB h1;replace p0:=eq_true p0;replace q0:=eq_true q0;(try go_wp2_with (first|((with_reducible refine gate_dst (N:=6) rfl ?_);refine bxV (N:=6) (cs:=#[.int .i64 0,.int .i64 0]) (t:=109) (h:=?_);intro g0 hg wq hbox hb;have B0:=Aside0.mk (hbox);have G0:=Aside0.mk ((mJ:w.heap.size<=g0));have G1:=Aside0.mk ((mJ:w.heap.size<=g0));replace HB:=Aside0.mk (below_step mA hb);clear hb hbox hg;obtain⟨zi,zj⟩:=bc2 B0.out;have zk:=blk_frozen B0.out)|((with_reducible refine gate_store (t:=109) (p:=6) rfl ?_);refine stV (t:=109) (p:=6) (w1:=((wq.setCell ⟨g0,0,none⟩ (.int .i64 ((rd_T109 l0 x2).f0))).setCell ⟨g0,1,none⟩ (.int .i64 ((rd_T109 l0 x2).f1)))) (h:=?_);intro ws hw;replace B0:Aside0 (ws.heap[g0]? =some (.cells #[.int .i64 ((rd_T109 l0 x2).f0),.int .i64 ((rd_T109 l0 x2).f1)] 109 (0,0))):=⟨mV⟩;replace HB:Aside0 (Below w.heap.size w ws):=⟨mBI⟩;clear hw)));replace B0:=Aside0.mk (blk_drew B0.out);replace HB:=Aside0.mk (below_drew1 HB.out);refine start_ (n:=35) (S:=λw'=>w'.cell? ⟨g0,0,none⟩=some (.int .i64 ((rd_T109 l0 x2).f0))/\w'.cell? ⟨g0,1,none⟩=some (.int .i64 ((rd_T109 l0 x2).f1))) (ds:=[]) mk_35_0 mAD rfl rfl ⟨(blk_cell B0.out 0).trans rfl,(blk_cell B0.out 1).trans rfl⟩ (λhHeld=>?_);refine with_tabW lsa_Links.tab4 lsa_Links.bits4 (λHT_ HW_=>?_);generalize ws.drew=wt at B0 HB hHeld |-;refine pV 0 14 mk_35_1 ?_;refine tV 1 (some 15) mk_35_2 (hy:=Or.inl ⟨by rfl,by rintro w' ⟨s0,s1⟩;go_simp;with_reducible rfl⟩) (h:=?_);refine oV 2 (some 16) mk_35_3 (h:=λK hK=>?_);refine gV Try.func37 #[.int .i64 ((rd_T109 l0 x2).f0)] (h:=?_)
       with_reducible refine(lsa_Router.calls ((rd_T109 l0 x2).f0) false _ A6.out).mono ?_
       rintro e w' ⟨rfl,⟨nd,rfl⟩⟩;refine⟨_,rfl,?_⟩;refine hK.out _ _ ⟨(blk_cell B0.out 0).trans rfl,(blk_cell B0.out 1).trans rfl⟩ (λhHeld=>?_);clear hK K;refine nV 16 (h:=?_);refine pV 3 17 mk_35_4 ?_;refine pV 4 18 mk_35_5 ?_;refine pU 5 19 mk_35_6 ?_;refine pU 6 20 mk_35_7 ?_;refine pU 7 21 mk_35_8 ?_;refine pU 8 22 mk_35_9 ?_;refine pV 9 23 mk_35_10 ?_;refine pV 10 24 mk_35_11 ?_;refine pU 11 25 mk_35_12 ?_;refine pU 12 26 mk_35_13 ?_;refine pU 13 27 mk_35_14 ?_;refine pV 14 28 mk_35_15 ?_;refine pV 15 29 mk_35_16 ?_;refine pU 16 30 mk_35_17 ?_;refine pU 17 31 mk_35_18 ?_;refine pU 18 32 mk_35_19 ?_;refine pV 19 33 mk_35_20 ?_;refine pV 20 34 mk_35_21 ?_;refine pU 21 35 mk_35_22 ?_;refine pU 22 36 mk_35_23 ?_;refine pU 23 37 mk_35_24 ?_;refine pU 24 38 mk_35_25 ?_;refine pU 25 39 mk_35_26 ?_;refine pU 26 40 mk_35_27 ?_;refine pU 27 41 mk_35_28 ?_;refine pU 28 42 mk_35_29 ?_;refine pU 29 43 mk_35_30 ?_;refine pU 30 44 mk_35_31 ?_;refine pU 31 45 mk_35_32 ?_;refine pU 32 46 mk_35_33 ?_;refine pU 33 47 mk_35_34 ?_;refine pV 34 48 mk_35_35 ?_
       refine done_ (done_of HT_.out mAD) ?_;(try go_wp2);go_ret;exact⟨by first|rfl|(simp[errW_none,errW_some] <;> rfl)|(simp[*,errW_none,errW_some] <;> rfl),by repeat (first|(with_reducible first|exact HB.out|apply below_alloc|apply pw_below_drewN|apply below_drew1|refine below_set ?_ G1.out)|exact HB.out)⟩
     ·rw[if_neg c5]at H
      exact absurd H mAM
    ·rw[if_neg c4]at H
     exact absurd H mAM
   ·rw[if_neg c3]at H
    have c6:=decide_eq_false c3;clear c3;obtain rfl:=Option.some.inj H;go_wp2;go_ret;exact⟨by first|rfl|(simp[errW_none,errW_some] <;> rfl)|(simp[*,errW_none,errW_some] <;> rfl),by repeat (first|(with_reducible first|exact HB.out|apply below_alloc|apply pw_below_drewN|apply below_drew1)|exact HB.out)⟩
def lsa_May.f (k:Nat) (a0_0:Int) (a0_1:Int) (a0_2:Int) (l0_3:List (S109)):Option (Bool):=(lsa_Router.f a0_0).bind λt151=>(if t151=true then((lsa_Serial.f a0_1).bind λt152=>(if t152=true then((lsa_Age.f a0_2).bind λt153=>(if t153=true then((lsa_Links.f k l0_3 a0_0).bind λt154=>(some t154))else(some false)))else(some false)))else(some false))
theorem lsa_May.mono:∀a0 a1 a2 a3 k,LeO (lsa_May.f k a0 a1 a2 a3) (lsa_May.f (k+1) a0 a1 a2 a3):=by
 intro a0 a1 a2 a3 k;unfold lsa_May.f
 repeat' (with_reducible first|exact lsa_Links.mono _ _ _|exact LeO.refl _|exact LeO.none _|refine LeO.ite ?_ ?_ |refine LeO.bind ?_ (λ_=>?_))
set_option maxHeartbeats 8000000 in
set_option maxRecDepth 100000 in
theorem lsa_May.calls (k:Nat) (a0_0:Int) (a0_1:Int) (a0_2:Int) (A0_3:Option Addr) (c0_3:Nat) (l0_3:List (S109)) (r:Bool) (w:World) (hr0_3:Kd.C k109 w A0_3 l0_3.length l0_3) (hc0_3:l0_3.length<=c0_3) (h:lsa_May.f k a0_0 a0_1 a0_2 l0_3=some r):
  Calls Try.prog 75 #[.agg #[.int .i64 a0_0,.int .i64 a0_1,.int .i64 a0_2,.slice A0_3 l0_3.length c0_3]] w λe w'=>e= .returned (.bool r)/\Below w.heap.size w w':=by
 have hu45:=Try.underlying45;have R0:=Aside0.mk hr0_3;have K0:=Aside0.mk hc0_3;clear hr0_3 hc0_3;have HB:=Aside0.mk (Below.refl w.heap.size w);have H:((lsa_Router.f a0_0).bind λt0=>(if t0=true then((lsa_Serial.f a0_1).bind λt1=>(if t1=true then((lsa_Age.f a0_2).bind λt2=>(if t2=true then((lsa_Links.f k l0_3 a0_0).bind λt3=>(some t3))else(some false)))else(some false)))else(some false)))=some r:=h;clear h;obtain⟨t0,A0,H⟩:=bsE H;(try dsimp only at H);have A2:=Aside0.mk A0;clear A0
 by_cases c3:t0=true
 ·subst c3
  rw[if_pos rfl]at H;obtain⟨t1,A3,H⟩:=bsE H;(try dsimp only at H);have A4:=Aside0.mk A3;clear A3
  by_cases c5:t1=true
  ·subst c5
   rw[if_pos rfl]at H;obtain⟨t2,A5,H⟩:=bsE H;(try dsimp only at H);have A6:=Aside0.mk A5;clear A5
   by_cases c7:t2=true
   ·subst c7
    rw[if_pos rfl]at H;obtain⟨t3,A7,H⟩:=bsE H;(try dsimp only at H);have A8:=Aside0.mk A7;clear A7;obtain rfl:=Option.some.inj H
    go_enter Try.func75,Try.ntmps75
    go_wp2_with (first|((with_reducible refine gate_dst (N:=1) rfl ?_);refine bxV (N:=1) (cs:=#[.int .i64 a0_0,.int .i64 a0_1,.int .i64 a0_2,.slice A0_3 l0_3.length c0_3]) (t:=45) (h:=?_);intro g0 hg w9 hbox hb;have B0:=Aside0.mk (hbox);have G0:=Aside0.mk ((mJ:w.heap.size<=g0));have G1:=Aside0.mk ((mJ:w.heap.size<=g0));replace HB:=Aside0.mk (below_step mA hb);clear hb hbox hg;obtain⟨z0,z1,z2,z3⟩:=bc4 B0.out;have z4:=blk_frozen B0.out)|((with_reducible refine gate_callee (f:=37) rfl ?_);refine cLV (some 5) Try.func37 #[.int .i64 a0_0] (h:=?_);(with_reducible refine(lsa_Router.calls a0_0 true _ A2.out).mono ?_);rintro e w' ⟨rfl,⟨nd,rfl⟩⟩;refine⟨_,rfl,?_⟩)|(go_at_call 79;(with_reducible refine(lsa_Serial.calls a0_1 true _ A4.out).mono ?_);rintro e w' ⟨rfl,⟨nd,rfl⟩⟩)|(go_at_call 80;(with_reducible refine(lsa_Age.calls a0_2 true _ A6.out).mono ?_);rintro e w' ⟨rfl,⟨nd,rfl⟩⟩)|(go_at_call 81;(with_reducible refine(lsa_Links.calls k _ _ l0_3 a0_0 t3 _ ?side1 ?side2 A8.out).mono ?_);(case side1=>repeat (first|exact(Kd.C_below R0.out mC)|(with_reducible refine Kd.C_alloc ?_ _)|(with_reducible refine Kd.C_drewN ?_ _)|(with_reducible refine Kd.C_drew ?_)));(case side2=>exact K0.out);rintro e w1 ⟨rfl,hb⟩;replace B0:=Aside0.mk (blk_below mB hb);replace HB:=Aside0.mk (below_step mC hb);(try clear hb);(try clear hb2);(try clear hk);(try clear hi)))
    go_ret;exact⟨by first|rfl|(simp[errW_none,errW_some] <;> rfl)|(simp[*,errW_none,errW_some] <;> rfl),by repeat (first|(with_reducible first|exact HB.out|apply below_alloc|apply pw_below_drewN|apply below_drew1|refine below_set ?_ G1.out)|exact HB.out)⟩
   ·replace c7:=Bool.eq_false_iff.mpr c7
    subst c7;rw[if_neg (show ¬(false=true)by decide)]at H;obtain rfl:=Option.some.inj H
    go_enter Try.func75,Try.ntmps75
    go_wp2_with (first|((with_reducible refine gate_dst (N:=1) rfl ?_);refine bxV (N:=1) (cs:=#[.int .i64 a0_0,.int .i64 a0_1,.int .i64 a0_2,.slice A0_3 l0_3.length c0_3]) (t:=45) (h:=?_);intro g0 hg w2 hbox hb;have B0:=Aside0.mk (hbox);have G0:=Aside0.mk ((mJ:w.heap.size<=g0));have G1:=Aside0.mk ((mJ:w.heap.size<=g0));replace HB:=Aside0.mk (below_step mA hb);clear hb hbox hg;obtain⟨z5,z6,z7,z8⟩:=bc4 B0.out;have z9:=blk_frozen B0.out)|((with_reducible refine gate_callee (f:=37) rfl ?_);refine cLV (some 5) Try.func37 #[.int .i64 a0_0] (h:=?_);(with_reducible refine(lsa_Router.calls a0_0 true _ A2.out).mono ?_);rintro e w' ⟨rfl,⟨nd,rfl⟩⟩;refine⟨_,rfl,?_⟩)|(go_at_call 79;(with_reducible refine(lsa_Serial.calls a0_1 true _ A4.out).mono ?_);rintro e w' ⟨rfl,⟨nd,rfl⟩⟩)|(go_at_call 80;(with_reducible refine(lsa_Age.calls a0_2 false _ A6.out).mono ?_);rintro e w' ⟨rfl,⟨nd,rfl⟩⟩))
    go_ret;exact⟨by first|rfl|(simp[errW_none,errW_some] <;> rfl)|(simp[*,errW_none,errW_some] <;> rfl),by repeat (first|(with_reducible first|exact HB.out|apply below_alloc|apply pw_below_drewN|apply below_drew1|refine below_set ?_ G1.out)|exact HB.out)⟩
  ·replace c5:=Bool.eq_false_iff.mpr c5
   subst c5;rw[if_neg (show ¬(false=true)by decide)]at H;obtain rfl:=Option.some.inj H
   go_enter Try.func75,Try.ntmps75
   go_wp2_with (first|((with_reducible refine gate_dst (N:=1) rfl ?_);refine bxV (N:=1) (cs:=#[.int .i64 a0_0,.int .i64 a0_1,.int .i64 a0_2,.slice A0_3 l0_3.length c0_3]) (t:=45) (h:=?_);intro g0 hg w3 hbox hb;have B0:=Aside0.mk (hbox);have G0:=Aside0.mk ((mJ:w.heap.size<=g0));have G1:=Aside0.mk ((mJ:w.heap.size<=g0));replace HB:=Aside0.mk (below_step mA hb);clear hb hbox hg;obtain⟨za,zb,zc,zd⟩:=bc4 B0.out;have ze:=blk_frozen B0.out)|((with_reducible refine gate_callee (f:=37) rfl ?_);refine cLV (some 5) Try.func37 #[.int .i64 a0_0] (h:=?_);(with_reducible refine(lsa_Router.calls a0_0 true _ A2.out).mono ?_);rintro e w' ⟨rfl,⟨nd,rfl⟩⟩;refine⟨_,rfl,?_⟩)|(go_at_call 79;(with_reducible refine(lsa_Serial.calls a0_1 false _ A4.out).mono ?_);rintro e w' ⟨rfl,⟨nd,rfl⟩⟩))
   go_ret;exact⟨by first|rfl|(simp[errW_none,errW_some] <;> rfl)|(simp[*,errW_none,errW_some] <;> rfl),by repeat (first|(with_reducible first|exact HB.out|apply below_alloc|apply pw_below_drewN|apply below_drew1|refine below_set ?_ G1.out)|exact HB.out)⟩
 ·replace c3:=Bool.eq_false_iff.mpr c3
  subst c3;rw[if_neg (show ¬(false=true)by decide)]at H;obtain rfl:=Option.some.inj H
  go_enter Try.func75,Try.ntmps75
  go_wp2_with (first|((with_reducible refine gate_dst (N:=1) rfl ?_);refine bxV (N:=1) (cs:=#[.int .i64 a0_0,.int .i64 a0_1,.int .i64 a0_2,.slice A0_3 l0_3.length c0_3]) (t:=45) (h:=?_);intro g0 hg w4 hbox hb;have B0:=Aside0.mk (hbox);have G0:=Aside0.mk ((mJ:w.heap.size<=g0));have G1:=Aside0.mk ((mJ:w.heap.size<=g0));replace HB:=Aside0.mk (below_step mA hb);clear hb hbox hg;obtain⟨zf,zg,zh,zi⟩:=bc4 B0.out;have zj:=blk_frozen B0.out)|((with_reducible refine gate_callee (f:=37) rfl ?_);refine cLV (some 5) Try.func37 #[.int .i64 a0_0] (h:=?_);(with_reducible refine(lsa_Router.calls a0_0 false _ A2.out).mono ?_);rintro e w' ⟨rfl,⟨nd,rfl⟩⟩;refine⟨_,rfl,?_⟩))
  go_ret;exact⟨by first|rfl|(simp[errW_none,errW_some] <;> rfl)|(simp[*,errW_none,errW_some] <;> rfl),by repeat (first|(with_reducible first|exact HB.out|apply below_alloc|apply pw_below_drewN|apply below_drew1|refine below_set ?_ G1.out)|exact HB.out)⟩
def update_May.l0:Nat->List (S45)->List (S45)->Int->Int->Option (Bool)
 |0,_,_,_,_=>none
 |k+1,x0,x5,x6,x7=>if x7<x6 then(if 0<=x7 then(if x7<(x5.length:Int)then((lsa_May.f k ((rd_T45 x5 x7).f0) ((rd_T45 x5 x7).f1) ((rd_T45 x5 x7).f2) ((rd_T45 x5 x7).f3)).bind λt157=>(if t157=true then(if x7>0 then(if 0<=(wrap64 (x7-1))then(if(wrap64 (x7-1))<(x0.length:Int)then(if((rd_T45 x0 (wrap64 (x7-1))).f0)>=((rd_T45 x5 x7).f0)then(some false)else(update_May.l0 k x0 x5 x6 (wrap64 (x7+1))))else(none))else(none))else(update_May.l0 k x0 x5 x6 (wrap64 (x7+1))))else(some false)))else(none))else(none))else(some true)
def update_May.f (k:Nat) (l0:List (S45)):Option (Bool):=update_May.l0 k l0 l0 (l0.length:Int) 0
theorem update_May.mono_l:∀k,(∀y0 y1 y2 y3,LeO (update_May.l0 k y0 y1 y2 y3) (update_May.l0 (k+1) y0 y1 y2 y3))
 |0=>λ_ _ _ _ r h=>by simp[update_May.l0]at h
 |k+1=>by
  have ih0:=update_May.mono_l k
  ·intro y0 y1 y2 y3
   unfold update_May.l0
   repeat' (with_reducible first|exact ih0 _ _ _ _|exact lsa_May.mono _ _ _ _ _|exact LeO.refl _|exact LeO.none _|refine LeO.ite ?_ ?_ |refine LeO.bind ?_ (λ_=>?_))
theorem update_May.mono:∀a0 k,LeO (update_May.f k a0) (update_May.f (k+1) a0):=by
 intro a0 k;have ih0:=update_May.mono_l k;unfold update_May.f
 repeat' (with_reducible first|exact ih0 _ _ _ _|exact lsa_May.mono _ _ _ _ _|exact LeO.refl _|exact LeO.none _|refine LeO.ite ?_ ?_ |refine LeO.bind ?_ (λ_=>?_))
def update_May.T4:Bool × List (List Nat × List Nat):=(true,[([],[]),([0],[0]),([1],[1]),([2,1],[2]),([3],[3]),([4,3],[3,4]),([5,3,3],[3,5]),([6],[6]),([6],[6]),([8,6],[6,8]),([7,9,6],[6,7,9]),([10,6],[6,10]),([11,6],[6,11]),([6],[6]),([13,6],[6,13]),([12,14,6],[6,12,14]),([6,15,3],[3,6,15]),([3,16],[3,16])])
def update_May.B4:List Nat:=[0,1,3,7,15,31,63,127,127,383,1023,2047,4095,127,8319,32767,65535,131071]
theorem update_May.tab4:rtab .any (opsOf Try.f68 4)=update_May.T4:=by kernel_rfl
theorem update_May.bits4:waitsOk update_May.T4.2 update_May.B4=true:=by kernel_rfl
set_option maxHeartbeats 8000000 in
set_option maxRecDepth 100000 in
theorem update_May.calls (k:Nat) (A0:Option Addr) (c0:Nat) (l0:List (S45)) (r:Bool) (w:World) (hr0:Kd.C k45 w A0 l0.length l0) (hc0:l0.length<=c0) (h:update_May.f k l0=some r):
  Calls Try.prog 68 #[.slice A0 l0.length c0] w λe w'=>e= .returned (.bool r)/\Below w.heap.size w w':=by
 have hu45:=Try.underlying45;have R0:=Aside0.mk hr0;have K0:=Aside0.mk hc0;clear hr0 hc0;have HB:=Aside0.mk (Below.refl w.heap.size w);have H:(update_May.l0 k l0 l0 (l0.length:Int) 0)=some r:=h;clear h;have H':=Aside0.mk H;clear H
 go_enter Try.func68,Try.ntmps68
 go_wp2
 go_loopg [7] k (λkq v7 w'=>∃(x1:Int),v7= .int .i64 x1/\Aside0 (update_May.l0 kq l0 l0 (l0.length:Int) x1=some r)/\Aside0 (kq<=k)/\Aside0 (Below w.heap.size w w'))
 case atStart=>exact⟨(0),mK,H',⟨Nat.le_refl _⟩,⟨by repeat (first|(with_reducible first|exact HB.out|apply below_alloc|apply pw_below_drewN|apply below_drew1)|exact HB.out)⟩⟩
 case round=>
  clear H';obtain⟨x1,rfl,HA,HK1,HB⟩:=hrel;cases gk with
  |zero=>exact absurd HA.out (by simp[update_May.l0])
  |succ k1=>
   have H:=HA.out;clear HA;simp only[update_May.l0]at H
   by_cases c2:x1<(l0.length:Int)
   ·rw[if_pos c2]at H
    have c5:=decide_eq_true c2;clear c2
    by_cases c3:0<=x1
    ·rw[if_pos c3]at H
     have cd:=decide_eq_true c3;clear c3
     by_cases c4:x1<(l0.length:Int)
     ·rw[if_pos c4]at H
      have ci:=decide_eq_true c4;clear c4;obtain⟨t0,A1,H⟩:=bsE H;(try dsimp only at H);have A5:=Aside0.mk A1;clear A1
      by_cases c6:t0=true
      ·subst c6
       rw[if_pos rfl]at H
       by_cases c7:x1>0
       ·rw[if_pos c7]at H
        have cp:decide (0<x1)=true:=decide_eq_true c7;clear c7;obtain⟨j0,j1⟩:∃j_:Int,(wrap64 (x1-1))=j_:=⟨_,rfl⟩
        replace H:(if 0<=(j0)then(if(j0)<(l0.length:Int)then(if((rd_T45 l0 (j0)).f0)>=((rd_T45 l0 x1).f0)then(some false)else(update_May.l0 k1 l0 l0 (l0.length:Int) (wrap64 (x1+1))))else(none))else(none))=some r:=by first|(rw[j1]at H;exact H)|(simp only[j1]at H |-;exact H)
        (try rw[j1]at A5)
        have j2:(IntKind.i64.wrap (x1-1))=j0:=(i64_w _).trans j1
        by_cases c9:0<=(j0)
        ·rw[if_pos c9]at H
         have cv:=decide_eq_true c9;clear c9
         by_cases cy:(j0)<(l0.length:Int)
         ·rw[if_pos cy]at H
          have cz:=decide_eq_true cy;clear cy
          by_cases c11:((rd_T45 l0 (j0)).f0)>=((rd_T45 l0 x1).f0)
          ·rw[if_pos c11]at H
           have c02:decide (((rd_T45 l0 x1).f0)<=((rd_T45 l0 (j0)).f0))=true:=decide_eq_true c11;clear c11;obtain rfl:=Option.some.inj H;have p0:0<=(x1:Int):=of_decide_eq_true mE;have q0:x1<(l0.length:Int):=of_decide_eq_true mE;obtain⟨d0,A4,s8,e0,h0,h1,h2,h3,i0,i1⟩:=at_T45 R0.out x1 p0 q0;cases e0;replace h0:=hB HB h0;replace h1:=hB HB h1;replace h2:=hB HB h2;replace h3:=hB HB h3;have R1:=Aside0.mk i1;have K1:=Aside0.mk i0;clear i1 i0;replace p0:=eq_true p0;replace q0:=eq_true q0;(try go_wp2_with (first|((with_reducible refine gate_dst (N:=4) rfl ?_);refine bxV (N:=4) (cs:=#[.int .i64 0,.int .i64 0,.int .i64 0,.slice none 0 0]) (t:=45) (h:=?_);intro g0 hg w0 hbox hb;have B0:=Aside0.mk (hbox);have G0:=Aside0.mk ((mJ:w.heap.size<=g0));have G1:=Aside0.mk ((mJ:w.heap.size<=g0));replace HB:=Aside0.mk (below_step mA hb);clear hb hbox hg;obtain⟨z0,z1,z2,z3⟩:=bc4 B0.out;have z4:=blk_frozen B0.out)|((with_reducible refine gate_store (t:=45) (p:=4) rfl ?_);refine stV (t:=45) (p:=4) (w1:=((((w0.setCell ⟨g0,0,none⟩ (.int .i64 ((rd_T45 l0 x1).f0))).setCell ⟨g0,1,none⟩ (.int .i64 ((rd_T45 l0 x1).f1))).setCell ⟨g0,2,none⟩ (.int .i64 ((rd_T45 l0 x1).f2))).setCell ⟨g0,3,none⟩ (.slice A4 ((rd_T45 l0 x1).f3).length s8))) (h:=?_);intro w2 hw;replace B0:Aside0 (w2.heap[g0]? =some (.cells #[.int .i64 ((rd_T45 l0 x1).f0),.int .i64 ((rd_T45 l0 x1).f1),.int .i64 ((rd_T45 l0 x1).f2),.slice A4 ((rd_T45 l0 x1).f3).length s8] 45 (0,0))):=⟨mO⟩;replace HB:Aside0 (Below w.heap.size w w2):=⟨mBI⟩;clear hw)));replace B0:=Aside0.mk (blk_drew B0.out);replace HB:=Aside0.mk (below_drew1 HB.out);have p1:0<=((j0):Int):=of_decide_eq_true mE;have q1:(j0)<(l0.length:Int):=of_decide_eq_true mE;obtain⟨d1,A6,s9,e1,h4,h5,h6,h7,i2,i3⟩:=at_T45 R0.out (j0) p1 q1;have hw158_3:=h7;have hw158_2:=h6;have hw158_1:=h5;have hw158_0:=h4;obtain rfl:d0=d1:=mBR;replace h4:=hB HB h4;replace h5:=hB HB h5;replace h6:=hB HB h6;replace h7:=hB HB h7;have R2:=Aside0.mk i3;have K2:=Aside0.mk i2;clear i3 i2;replace p1:=eq_true p1;replace q1:=eq_true q1;refine start_ (n:=18) (S:=λw'=>w'.cell? ⟨g0,0,none⟩=some (.int .i64 ((rd_T45 l0 x1).f0))/\w'.cell? ⟨g0,1,none⟩=some (.int .i64 ((rd_T45 l0 x1).f1))/\w'.cell? ⟨g0,2,none⟩=some (.int .i64 ((rd_T45 l0 x1).f2))/\w'.cell? ⟨g0,3,none⟩=some (.slice A4 ((rd_T45 l0 x1).f3).length s8)/\w'.cell? (d0.add (((j0)).toNat *4))=some (.int .i64 ((rd_T45 l0 (j0)).f0))/\w'.cell? ⟨(d0.add (((j0)).toNat *4)).block,(d0.add (((j0)).toNat *4)).off +1,none⟩=some (.int .i64 ((rd_T45 l0 (j0)).f1))/\w'.cell? ⟨(d0.add (((j0)).toNat *4)).block,(d0.add (((j0)).toNat *4)).off +2,none⟩=some (.int .i64 ((rd_T45 l0 (j0)).f2))/\w'.cell? ⟨(d0.add (((j0)).toNat *4)).block,(d0.add (((j0)).toNat *4)).off +3,none⟩=some (.slice A6 ((rd_T45 l0 (j0)).f3).length s9)) (ds:=[]) mk_18_0 mAD rfl rfl ⟨(blk_cell B0.out 0).trans rfl,(blk_cell B0.out 1).trans rfl,(blk_cell B0.out 2).trans rfl,(blk_cell B0.out 3).trans rfl,((HB.out.cell (World.block_lt_of_cell? w _ hw158_0)).trans hw158_0),((HB.out.cell (World.block_lt_of_cell? w _ hw158_1)).trans hw158_1),((HB.out.cell (World.block_lt_of_cell? w _ hw158_2)).trans hw158_2),((HB.out.cell (World.block_lt_of_cell? w _ hw158_3)).trans hw158_3)⟩ (λhHeld=>?_);refine with_tabW update_May.tab4 update_May.bits4 (λHT_ HW_=>?_);generalize w2.drew=w3 at B0 HB R2 h4 h5 h6 h7 hHeld |-;refine tV 0 (some 12) mk_18_1 (hy:=Or.inl ⟨by rfl,by rintro w' ⟨s0,s1,s2,s3,s4,s5,s6,s7⟩;go_simp;with_reducible rfl⟩) (h:=?_);refine oV 1 (some 13) mk_18_2 (h:=λK hK=>?_)
           refine gV Try.func75 #[.agg #[.int .i64 ((rd_T45 l0 x1).f0),.int .i64 ((rd_T45 l0 x1).f1),.int .i64 ((rd_T45 l0 x1).f2),.slice A4 ((rd_T45 l0 x1).f3).length s8]] (h:=?_)
           with_reducible refine(lsa_May.calls k1 ((rd_T45 l0 x1).f0) ((rd_T45 l0 x1).f1) ((rd_T45 l0 x1).f2) _ _ ((rd_T45 l0 x1).f3) true _ ?side1 ?side2 A5.out).mono ?_
           (case side1=>repeat (first|exact(Kd.C_below R1.out HB.out)|(with_reducible refine Kd.C_alloc ?_ _)|(with_reducible refine Kd.C_drewN ?_ _)|(with_reducible refine Kd.C_drew ?_)))
           (case side2=>exact K1.out)
           rintro e w4 ⟨rfl,hb⟩;refine⟨_,rfl,?_⟩;replace B0:=Aside0.mk (blk_below mB hb);replace HB:=Aside0.mk (below_step mC hb);(try clear hb);(try clear hb2);(try clear hk);(try clear hi);refine hK.out _ _ ⟨(blk_cell B0.out 0).trans rfl,(blk_cell B0.out 1).trans rfl,(blk_cell B0.out 2).trans rfl,(blk_cell B0.out 3).trans rfl,((HB.out.cell (World.block_lt_of_cell? w _ hw158_0)).trans hw158_0),((HB.out.cell (World.block_lt_of_cell? w _ hw158_1)).trans hw158_1),((HB.out.cell (World.block_lt_of_cell? w _ hw158_2)).trans hw158_2),((HB.out.cell (World.block_lt_of_cell? w _ hw158_3)).trans hw158_3)⟩ (λhHeld=>?_);clear hK K;refine nV 13 (h:=?_);refine pV 2 14 mk_18_3 ?_;refine pV 3 15 mk_18_4 ?_;refine pV 4 16 mk_18_5 ?_;refine pV 5 17 mk_18_6 ?_;refine pV 6 18 mk_18_7 ?_;refine pV 7 19 mk_18_8 ?_;refine pV 8 20 mk_18_9 ?_;refine pV 9 21 mk_18_10 ?_;refine pV 10 22 mk_18_11 ?_;refine pV 11 23 mk_18_12 ?_;refine pV 13 25 #[true,true,true,true,true,true,true,true,true,true,true,true,false,true,false,false,false,false] ?_;refine tV 12 (some 24) mk_18_14 (hy:=Or.inl ⟨by rfl,by rintro w' ⟨s0,s1,s2,s3,s4,s5,s6,s7⟩;go_simp;with_reducible rfl⟩) (h:=?_);refine tV 14 (some 26) mk_18_15 (hy:=Or.inl ⟨by rfl,by rintro w' ⟨s0,s1,s2,s3,s4,s5,s6,s7⟩;go_simp;with_reducible rfl⟩) (h:=?_);refine pV 15 27 mk_18_16 ?_;refine pV 16 28 mk_18_17 ?_;refine pV 17 29 mk_18_18 ?_;refine done_ (done_of HT_.out mAD) ?_;(try go_wp2);go_ret;exact⟨by first|rfl|(simp[errW_none,errW_some] <;> rfl)|(simp only[<-j1];first|rfl|(simp[errW_none,errW_some] <;> rfl))|(simp[*,errW_none,errW_some] <;> rfl),by repeat (first|(with_reducible first|exact HB.out|apply below_alloc|apply pw_below_drewN|apply below_drew1|refine below_set ?_ G1.out)|exact HB.out)⟩
          ·rw[if_neg c11]at H
           have c02:decide (((rd_T45 l0 x1).f0)<=((rd_T45 l0 (j0)).f0))=false:=decide_eq_false c11;clear c11;have H':=Aside0.mk H;clear H;have p0:0<=(x1:Int):=of_decide_eq_true mE;have q0:x1<(l0.length:Int):=of_decide_eq_true mE;obtain⟨d0,A4,s8,e0,h0,h1,h2,h3,i0,i1⟩:=at_T45 R0.out x1 p0 q0;cases e0;replace h0:=hB HB h0;replace h1:=hB HB h1;replace h2:=hB HB h2;replace h3:=hB HB h3;have R1:=Aside0.mk i1;have K1:=Aside0.mk i0;clear i1 i0;replace p0:=eq_true p0;replace q0:=eq_true q0;(try go_wp2_with (first|((with_reducible refine gate_dst (N:=4) rfl ?_);refine bxV (N:=4) (cs:=#[.int .i64 0,.int .i64 0,.int .i64 0,.slice none 0 0]) (t:=45) (h:=?_);intro g0 hg w5 hbox hb;have B0:=Aside0.mk (hbox);have G0:=Aside0.mk ((mJ:w.heap.size<=g0));have G1:=Aside0.mk ((mJ:w.heap.size<=g0));replace HB:=Aside0.mk (below_step mA hb);clear hb hbox hg;obtain⟨z5,z6,z7,z8⟩:=bc4 B0.out;have z9:=blk_frozen B0.out)|((with_reducible refine gate_store (t:=45) (p:=4) rfl ?_);refine stV (t:=45) (p:=4) (w1:=((((w5.setCell ⟨g0,0,none⟩ (.int .i64 ((rd_T45 l0 x1).f0))).setCell ⟨g0,1,none⟩ (.int .i64 ((rd_T45 l0 x1).f1))).setCell ⟨g0,2,none⟩ (.int .i64 ((rd_T45 l0 x1).f2))).setCell ⟨g0,3,none⟩ (.slice A4 ((rd_T45 l0 x1).f3).length s8))) (h:=?_);intro w7 hw;replace B0:Aside0 (w7.heap[g0]? =some (.cells #[.int .i64 ((rd_T45 l0 x1).f0),.int .i64 ((rd_T45 l0 x1).f1),.int .i64 ((rd_T45 l0 x1).f2),.slice A4 ((rd_T45 l0 x1).f3).length s8] 45 (0,0))):=⟨mO⟩;replace HB:Aside0 (Below w.heap.size w w7):=⟨mBI⟩;clear hw)));replace B0:=Aside0.mk (blk_drew B0.out);replace HB:=Aside0.mk (below_drew1 HB.out);have p1:0<=((j0):Int):=of_decide_eq_true mE;have q1:(j0)<(l0.length:Int):=of_decide_eq_true mE;obtain⟨d1,A6,s9,e1,h4,h5,h6,h7,i2,i3⟩:=at_T45 R0.out (j0) p1 q1;have hw158_3:=h7;have hw158_2:=h6;have hw158_1:=h5;have hw158_0:=h4;obtain rfl:d0=d1:=mBR;replace h4:=hB HB h4;replace h5:=hB HB h5;replace h6:=hB HB h6;replace h7:=hB HB h7;have R2:=Aside0.mk i3;have K2:=Aside0.mk i2;clear i3 i2;replace p1:=eq_true p1;replace q1:=eq_true q1;refine start_ (n:=18) (S:=λw'=>w'.cell? ⟨g0,0,none⟩=some (.int .i64 ((rd_T45 l0 x1).f0))/\w'.cell? ⟨g0,1,none⟩=some (.int .i64 ((rd_T45 l0 x1).f1))/\w'.cell? ⟨g0,2,none⟩=some (.int .i64 ((rd_T45 l0 x1).f2))/\w'.cell? ⟨g0,3,none⟩=some (.slice A4 ((rd_T45 l0 x1).f3).length s8)/\w'.cell? (d0.add (((j0)).toNat *4))=some (.int .i64 ((rd_T45 l0 (j0)).f0))/\w'.cell? ⟨(d0.add (((j0)).toNat *4)).block,(d0.add (((j0)).toNat *4)).off +1,none⟩=some (.int .i64 ((rd_T45 l0 (j0)).f1))/\w'.cell? ⟨(d0.add (((j0)).toNat *4)).block,(d0.add (((j0)).toNat *4)).off +2,none⟩=some (.int .i64 ((rd_T45 l0 (j0)).f2))/\w'.cell? ⟨(d0.add (((j0)).toNat *4)).block,(d0.add (((j0)).toNat *4)).off +3,none⟩=some (.slice A6 ((rd_T45 l0 (j0)).f3).length s9)) (ds:=[]) mk_18_0 mAD rfl rfl ⟨(blk_cell B0.out 0).trans rfl,(blk_cell B0.out 1).trans rfl,(blk_cell B0.out 2).trans rfl,(blk_cell B0.out 3).trans rfl,((HB.out.cell (World.block_lt_of_cell? w _ hw158_0)).trans hw158_0),((HB.out.cell (World.block_lt_of_cell? w _ hw158_1)).trans hw158_1),((HB.out.cell (World.block_lt_of_cell? w _ hw158_2)).trans hw158_2),((HB.out.cell (World.block_lt_of_cell? w _ hw158_3)).trans hw158_3)⟩ (λhHeld=>?_);refine with_tabW update_May.tab4 update_May.bits4 (λHT_ HW_=>?_);generalize w7.drew=w8 at B0 HB R2 h4 h5 h6 h7 hHeld |-;refine tV 0 (some 12) mk_18_1 (hy:=Or.inl ⟨by rfl,by rintro w' ⟨s0,s1,s2,s3,s4,s5,s6,s7⟩;go_simp;with_reducible rfl⟩) (h:=?_);refine oV 1 (some 13) mk_18_2 (h:=λK hK=>?_)
           refine gV Try.func75 #[.agg #[.int .i64 ((rd_T45 l0 x1).f0),.int .i64 ((rd_T45 l0 x1).f1),.int .i64 ((rd_T45 l0 x1).f2),.slice A4 ((rd_T45 l0 x1).f3).length s8]] (h:=?_)
           with_reducible refine(lsa_May.calls k1 ((rd_T45 l0 x1).f0) ((rd_T45 l0 x1).f1) ((rd_T45 l0 x1).f2) _ _ ((rd_T45 l0 x1).f3) true _ ?side1 ?side2 A5.out).mono ?_
           (case side1=>repeat (first|exact(Kd.C_below R1.out HB.out)|(with_reducible refine Kd.C_alloc ?_ _)|(with_reducible refine Kd.C_drewN ?_ _)|(with_reducible refine Kd.C_drew ?_)))
           (case side2=>exact K1.out)
           rintro e w9 ⟨rfl,hb⟩;refine⟨_,rfl,?_⟩;replace B0:=Aside0.mk (blk_below mB hb);replace HB:=Aside0.mk (below_step mC hb);(try clear hb);(try clear hb2);(try clear hk);(try clear hi);refine hK.out _ _ ⟨(blk_cell B0.out 0).trans rfl,(blk_cell B0.out 1).trans rfl,(blk_cell B0.out 2).trans rfl,(blk_cell B0.out 3).trans rfl,((HB.out.cell (World.block_lt_of_cell? w _ hw158_0)).trans hw158_0),((HB.out.cell (World.block_lt_of_cell? w _ hw158_1)).trans hw158_1),((HB.out.cell (World.block_lt_of_cell? w _ hw158_2)).trans hw158_2),((HB.out.cell (World.block_lt_of_cell? w _ hw158_3)).trans hw158_3)⟩ (λhHeld=>?_);clear hK K;refine nV 13 (h:=?_);refine pV 2 14 mk_18_3 ?_;refine pV 3 15 mk_18_4 ?_;refine pV 4 16 mk_18_5 ?_;refine pV 5 17 mk_18_6 ?_;refine pV 6 18 mk_18_7 ?_;refine pV 7 19 mk_18_8 ?_;refine pV 8 20 mk_18_9 ?_;refine pV 9 21 mk_18_10 ?_;refine pV 10 22 mk_18_11 ?_;refine pV 11 23 mk_18_12 ?_;refine pV 13 25 #[true,true,true,true,true,true,true,true,true,true,true,true,false,true,false,false,false,false] ?_;refine tV 12 (some 24) mk_18_14 (hy:=Or.inl ⟨by rfl,by rintro w' ⟨s0,s1,s2,s3,s4,s5,s6,s7⟩;go_simp;with_reducible rfl⟩) (h:=?_);refine tV 14 (some 26) mk_18_15 (hy:=Or.inl ⟨by rfl,by rintro w' ⟨s0,s1,s2,s3,s4,s5,s6,s7⟩;go_simp;with_reducible rfl⟩) (h:=?_);refine pV 15 27 mk_18_16 ?_;refine pV 16 28 mk_18_17 ?_;refine pV 17 29 mk_18_18 ?_;refine done_ (done_of HT_.out mAD) ?_;(try go_wp2)
           go_roundg k1
           case measure=>have:=HK1.out;omega
           case rel=>exact⟨(wrap64 (x1+1)),mK,H',⟨by have:=HK1.out;omega⟩,⟨by repeat (first|(with_reducible first|exact HB.out|apply below_alloc|apply pw_below_drewN|apply below_drew1|refine below_set ?_ G1.out)|exact HB.out)⟩⟩
         ·rw[if_neg cy]at H
          exact absurd H mAM
        ·rw[if_neg c9]at H
         exact absurd H mAM
       ·rw[if_neg c7]at H
        have cp:decide (0<x1)=false:=decide_eq_false c7;clear c7;have H':=Aside0.mk H;clear H;have p0:0<=(x1:Int):=of_decide_eq_true mE;have q0:x1<(l0.length:Int):=of_decide_eq_true mE;obtain⟨d0,A4,s8,e0,h0,h1,h2,h3,i0,i1⟩:=at_T45 R0.out x1 p0 q0;cases e0;replace h0:=hB HB h0;replace h1:=hB HB h1;replace h2:=hB HB h2;replace h3:=hB HB h3;have R1:=Aside0.mk i1;have K1:=Aside0.mk i0;clear i1 i0;replace p0:=eq_true p0;replace q0:=eq_true q0;(try go_wp2_with (first|((with_reducible refine gate_dst (N:=4) rfl ?_);refine bxV (N:=4) (cs:=#[.int .i64 0,.int .i64 0,.int .i64 0,.slice none 0 0]) (t:=45) (h:=?_);intro g0 hg wa hbox hb;have B0:=Aside0.mk (hbox);have G0:=Aside0.mk ((mJ:w.heap.size<=g0));have G1:=Aside0.mk ((mJ:w.heap.size<=g0));replace HB:=Aside0.mk (below_step mA hb);clear hb hbox hg;obtain⟨za,zb,zc,zd⟩:=bc4 B0.out;have ze:=blk_frozen B0.out)|((with_reducible refine gate_store (t:=45) (p:=4) rfl ?_);refine stV (t:=45) (p:=4) (w1:=((((wa.setCell ⟨g0,0,none⟩ (.int .i64 ((rd_T45 l0 x1).f0))).setCell ⟨g0,1,none⟩ (.int .i64 ((rd_T45 l0 x1).f1))).setCell ⟨g0,2,none⟩ (.int .i64 ((rd_T45 l0 x1).f2))).setCell ⟨g0,3,none⟩ (.slice A4 ((rd_T45 l0 x1).f3).length s8))) (h:=?_);intro wc hw;replace B0:Aside0 (wc.heap[g0]? =some (.cells #[.int .i64 ((rd_T45 l0 x1).f0),.int .i64 ((rd_T45 l0 x1).f1),.int .i64 ((rd_T45 l0 x1).f2),.slice A4 ((rd_T45 l0 x1).f3).length s8] 45 (0,0))):=⟨mO⟩;replace HB:Aside0 (Below w.heap.size w wc):=⟨mBI⟩;clear hw)));replace B0:=Aside0.mk (blk_drew B0.out);replace HB:=Aside0.mk (below_drew1 HB.out);refine start_ (n:=18) (S:=λw'=>w'.cell? ⟨g0,0,none⟩=some (.int .i64 ((rd_T45 l0 x1).f0))/\w'.cell? ⟨g0,1,none⟩=some (.int .i64 ((rd_T45 l0 x1).f1))/\w'.cell? ⟨g0,2,none⟩=some (.int .i64 ((rd_T45 l0 x1).f2))/\w'.cell? ⟨g0,3,none⟩=some (.slice A4 ((rd_T45 l0 x1).f3).length s8)) (ds:=[]) mk_18_0 mAD rfl rfl ⟨(blk_cell B0.out 0).trans rfl,(blk_cell B0.out 1).trans rfl,(blk_cell B0.out 2).trans rfl,(blk_cell B0.out 3).trans rfl⟩ (λhHeld=>?_);refine with_tabW update_May.tab4 update_May.bits4 (λHT_ HW_=>?_);generalize wc.drew=wd at B0 HB hHeld |-;refine tV 0 (some 12) mk_18_1 (hy:=Or.inl ⟨by rfl,by rintro w' ⟨s0,s1,s2,s3⟩;go_simp;with_reducible rfl⟩) (h:=?_);refine oV 1 (some 13) mk_18_2 (h:=λK hK=>?_);refine gV Try.func75 #[.agg #[.int .i64 ((rd_T45 l0 x1).f0),.int .i64 ((rd_T45 l0 x1).f1),.int .i64 ((rd_T45 l0 x1).f2),.slice A4 ((rd_T45 l0 x1).f3).length s8]] (h:=?_)
        with_reducible refine(lsa_May.calls k1 ((rd_T45 l0 x1).f0) ((rd_T45 l0 x1).f1) ((rd_T45 l0 x1).f2) _ _ ((rd_T45 l0 x1).f3) true _ ?side1 ?side2 A5.out).mono ?_
        (case side1=>repeat (first|exact(Kd.C_below R1.out HB.out)|(with_reducible refine Kd.C_alloc ?_ _)|(with_reducible refine Kd.C_drewN ?_ _)|(with_reducible refine Kd.C_drew ?_)))
        (case side2=>exact K1.out)
        rintro e we ⟨rfl,hb⟩;refine⟨_,rfl,?_⟩;replace B0:=Aside0.mk (blk_below mB hb);replace HB:=Aside0.mk (below_step mC hb);(try clear hb);(try clear hb2);(try clear hk);(try clear hi);refine hK.out _ _ ⟨(blk_cell B0.out 0).trans rfl,(blk_cell B0.out 1).trans rfl,(blk_cell B0.out 2).trans rfl,(blk_cell B0.out 3).trans rfl⟩ (λhHeld=>?_);clear hK K;refine nV 13 (h:=?_);refine pV 2 14 mk_18_3 ?_;refine pV 3 15 mk_18_4 ?_;refine pV 4 16 mk_18_5 ?_;refine pV 5 17 mk_18_6 ?_;refine pV 6 18 mk_18_7 ?_;refine pU 7 19 mk_18_8 ?_;refine pU 8 20 mk_18_9 ?_;refine pU 9 21 mk_18_10 ?_;refine pU 10 22 mk_18_11 ?_;refine pU 11 23 mk_18_12 ?_;refine pU 12 24 mk_18_13 ?_;refine pU 13 25 mk_18_14 ?_;refine pU 14 26 mk_18_15 ?_;refine pU 15 27 mk_18_16 ?_;refine pV 16 28 mk_18_17 ?_;refine pV 17 29 mk_18_18 ?_;refine done_ (done_of HT_.out mAD) ?_;(try go_wp2)
        go_roundg k1
        case measure=>have:=HK1.out;omega
        case rel=>exact⟨(wrap64 (x1+1)),mK,H',⟨by have:=HK1.out;omega⟩,⟨by repeat (first|(with_reducible first|exact HB.out|apply below_alloc|apply pw_below_drewN|apply below_drew1|refine below_set ?_ G1.out)|exact HB.out)⟩⟩
      ·replace c6:=Bool.eq_false_iff.mpr c6
       subst c6;rw[if_neg (show ¬(false=true)by decide)]at H;obtain rfl:=Option.some.inj H;have p0:0<=(x1:Int):=of_decide_eq_true mE;have q0:x1<(l0.length:Int):=of_decide_eq_true mE;obtain⟨d0,A4,s8,e0,h0,h1,h2,h3,i0,i1⟩:=at_T45 R0.out x1 p0 q0;cases e0;replace h0:=hB HB h0;replace h1:=hB HB h1;replace h2:=hB HB h2;replace h3:=hB HB h3;have R1:=Aside0.mk i1;have K1:=Aside0.mk i0;clear i1 i0;replace p0:=eq_true p0;replace q0:=eq_true q0;(try go_wp2_with (first|((with_reducible refine gate_dst (N:=4) rfl ?_);refine bxV (N:=4) (cs:=#[.int .i64 0,.int .i64 0,.int .i64 0,.slice none 0 0]) (t:=45) (h:=?_);intro g0 hg wf hbox hb;have B0:=Aside0.mk (hbox);have G0:=Aside0.mk ((mJ:w.heap.size<=g0));have G1:=Aside0.mk ((mJ:w.heap.size<=g0));replace HB:=Aside0.mk (below_step mA hb);clear hb hbox hg;obtain⟨zf,zg,zh,zi⟩:=bc4 B0.out;have zj:=blk_frozen B0.out)|((with_reducible refine gate_store (t:=45) (p:=4) rfl ?_);refine stV (t:=45) (p:=4) (w1:=((((wf.setCell ⟨g0,0,none⟩ (.int .i64 ((rd_T45 l0 x1).f0))).setCell ⟨g0,1,none⟩ (.int .i64 ((rd_T45 l0 x1).f1))).setCell ⟨g0,2,none⟩ (.int .i64 ((rd_T45 l0 x1).f2))).setCell ⟨g0,3,none⟩ (.slice A4 ((rd_T45 l0 x1).f3).length s8))) (h:=?_);intro wh hw;replace B0:Aside0 (wh.heap[g0]? =some (.cells #[.int .i64 ((rd_T45 l0 x1).f0),.int .i64 ((rd_T45 l0 x1).f1),.int .i64 ((rd_T45 l0 x1).f2),.slice A4 ((rd_T45 l0 x1).f3).length s8] 45 (0,0))):=⟨mO⟩;replace HB:Aside0 (Below w.heap.size w wh):=⟨mBI⟩;clear hw)));replace B0:=Aside0.mk (blk_drew B0.out);replace HB:=Aside0.mk (below_drew1 HB.out);refine start_ (n:=18) (S:=λw'=>w'.cell? ⟨g0,0,none⟩=some (.int .i64 ((rd_T45 l0 x1).f0))/\w'.cell? ⟨g0,1,none⟩=some (.int .i64 ((rd_T45 l0 x1).f1))/\w'.cell? ⟨g0,2,none⟩=some (.int .i64 ((rd_T45 l0 x1).f2))/\w'.cell? ⟨g0,3,none⟩=some (.slice A4 ((rd_T45 l0 x1).f3).length s8)) (ds:=[]) mk_18_0 mAD rfl rfl ⟨(blk_cell B0.out 0).trans rfl,(blk_cell B0.out 1).trans rfl,(blk_cell B0.out 2).trans rfl,(blk_cell B0.out 3).trans rfl⟩ (λhHeld=>?_);refine with_tabW update_May.tab4 update_May.bits4 (λHT_ HW_=>?_);generalize wh.drew=wi at B0 HB hHeld |-;refine tV 0 (some 12) mk_18_1 (hy:=Or.inl ⟨by rfl,by rintro w' ⟨s0,s1,s2,s3⟩;go_simp;with_reducible rfl⟩) (h:=?_);refine oV 1 (some 13) mk_18_2 (h:=λK hK=>?_);refine gV Try.func75 #[.agg #[.int .i64 ((rd_T45 l0 x1).f0),.int .i64 ((rd_T45 l0 x1).f1),.int .i64 ((rd_T45 l0 x1).f2),.slice A4 ((rd_T45 l0 x1).f3).length s8]] (h:=?_)
       with_reducible refine(lsa_May.calls k1 ((rd_T45 l0 x1).f0) ((rd_T45 l0 x1).f1) ((rd_T45 l0 x1).f2) _ _ ((rd_T45 l0 x1).f3) false _ ?side1 ?side2 A5.out).mono ?_
       (case side1=>repeat (first|exact(Kd.C_below R1.out HB.out)|(with_reducible refine Kd.C_alloc ?_ _)|(with_reducible refine Kd.C_drewN ?_ _)|(with_reducible refine Kd.C_drew ?_)))
       (case side2=>exact K1.out)
       rintro e wj ⟨rfl,hb⟩;refine⟨_,rfl,?_⟩;replace B0:=Aside0.mk (blk_below mB hb);replace HB:=Aside0.mk (below_step mC hb);(try clear hb);(try clear hb2);(try clear hk);(try clear hi);refine hK.out _ _ ⟨(blk_cell B0.out 0).trans rfl,(blk_cell B0.out 1).trans rfl,(blk_cell B0.out 2).trans rfl,(blk_cell B0.out 3).trans rfl⟩ (λhHeld=>?_);clear hK K;refine nV 13 (h:=?_);refine pV 2 14 mk_18_3 ?_;refine pV 3 15 mk_18_4 ?_;refine pU 4 16 mk_18_5 ?_;refine pU 5 17 mk_18_6 ?_;refine pU 6 18 mk_18_7 ?_;refine pU 7 19 mk_18_8 ?_;refine pU 8 20 mk_18_9 ?_;refine pU 9 21 mk_18_10 ?_;refine pU 10 22 mk_18_11 ?_;refine pU 11 23 mk_18_12 ?_;refine pU 12 24 mk_18_13 ?_;refine pU 13 25 mk_18_14 ?_;refine pU 14 26 mk_18_15 ?_;refine pU 15 27 mk_18_16 ?_;refine pU 16 28 mk_18_17 ?_;refine pV 17 29 mk_18_18 ?_;refine done_ (done_of HT_.out mAD) ?_;(try go_wp2);go_ret;exact⟨by first|rfl|(simp[errW_none,errW_some] <;> rfl)|(simp[*,errW_none,errW_some] <;> rfl),by repeat (first|(with_reducible first|exact HB.out|apply below_alloc|apply pw_below_drewN|apply below_drew1|refine below_set ?_ G1.out)|exact HB.out)⟩
     ·rw[if_neg c4]at H
      exact absurd H mAM
    ·rw[if_neg c3]at H
     exact absurd H mAM
   ·rw[if_neg c2]at H
    have c5:=decide_eq_false c2;clear c2;obtain rfl:=Option.some.inj H;go_wp2;go_ret;exact⟨by first|rfl|(simp[errW_none,errW_some] <;> rfl)|(simp[*,errW_none,errW_some] <;> rfl),by repeat (first|(with_reducible first|exact HB.out|apply below_alloc|apply pw_below_drewN|apply below_drew1)|exact HB.out)⟩
def lsa_Two.f (a0:Int):Option (ByteArray):=some (strOfNums (([(a0/256) % 256,(a0) % 256]:List Int)))
set_option maxHeartbeats 8000000 in
set_option maxRecDepth 100000 in
theorem lsa_Two.calls (a0:Int) (r:ByteArray) (w:World) (h:lsa_Two.f a0=some r):
  Calls Try.prog 51 #[.int .i64 a0] w λe w'=>e= .returned (.string r)/\Below w.heap.size w w':=by
 have HB:=Aside0.mk (Below.refl w.heap.size w);have H:(some (strOfNums (([(a0/256) % 256,(a0) % 256]:List Int))))=some r:=h;clear h;obtain⟨y0,Y0⟩:∃y_:List Int,y_=(([(a0/256) % 256,(a0) % 256]:List Int)):=⟨_,rfl⟩
 replace H:(some (strOfNums y0))=some r:=by first|(rw[Y0];with_reducible exact H)|(have H2_:=(Option.bind_some _ _).symm.trans H;rw[Y0];with_reducible exact H2_)|(have H2_:=(Option.bind_some _ _).symm.trans H;with_reducible exact H2_)|with_reducible exact H|(rw[Y0];exact H)|exact H
 have Y1:=Aside0.mk Y0;clear Y0;obtain rfl:=Option.some.inj H
 go_enter Try.func51,Try.ntmps51
 go_wp2_with (first|((with_reducible refine gate_dst (N:=8) rfl ?_);refine Kd.R_lit (Kd.int .u8) _ 5 ?hg (N:=8) ?hd (xs:=([(a0/256) % 256,(a0) % 256]:List Int)) (inner:=[.int .u8 ((a0/256) % 256),.int .u8 ((a0) % 256)]) (ok:=λ_=>True) (okp:=λ_=>True) ?hr ?hp (λ_ hk=>hk) trivial (Below.refl _ _) (Nat.le_refl _) mAM ?_;(case hd=>rfl);(case hg=>rfl);(case hr=>first|(go_simp;done)|(go_simp;rfl));(case hp=>exact(Reps.one (show Kd.M (Kd.int .u8) _ _ _ ((a0/256) % 256) [.int .u8 ((a0/256) % 256)]from rfl) (Reps.one (show Kd.M (Kd.int .u8) _ _ _ ((a0) % 256) [.int .u8 ((a0) % 256)]from rfl) (Reps.none _ _))));intro v160 w2 ho3 hb hg_ hnew_;clear hg_ hnew_;(first|rw[<-Y1.out]at ho3|(simp only[Int.reduceToNat]at ho3;rw[<-Y1.out]at ho3));have O0:=Aside0.mk (Kd.R_lower ho3 (below_size mA));replace HB:=Aside0.mk (below_step mA hb);clear hb ho3;have hcv4:=own_string (P:=Try.prog) Try.underlying93 Try.underlying5 Try.underlying9 (Kd.own_of_R O0.out)))
 go_ret;exact⟨by first|rfl|(simp[errW_none,errW_some] <;> rfl)|(simp[*,errW_none,errW_some] <;> rfl),by repeat (first|(with_reducible first|exact HB.out|apply below_alloc|apply pw_below_drewN|apply below_drew1)|exact HB.out)⟩
def lsa_Four.f (a0:Int):Option (ByteArray):=(lsa_Two.f (a0/65536)).bind λt162=>((lsa_Two.f a0).bind λt163=>(if t162.size+t163.size<=9223372036854775807 then(some (t162++t163))else(none)))
set_option maxHeartbeats 8000000 in
set_option maxRecDepth 100000 in
theorem lsa_Four.calls (a0:Int) (r:ByteArray) (w:World) (h:lsa_Four.f a0=some r):
  Calls Try.prog 52 #[.int .i64 a0] w λe w'=>e= .returned (.string r)/\Below w.heap.size w w':=by
 have HB:=Aside0.mk (Below.refl w.heap.size w);have H:((lsa_Two.f (a0/65536)).bind λt0=>((lsa_Two.f a0).bind λt1=>(if t0.size+t1.size<=9223372036854775807 then(some (t0++t1))else(none))))=some r:=h;clear h;obtain⟨t0,A0,H⟩:=bsE H;(try dsimp only at H);have A2:=Aside0.mk A0;clear A0;obtain⟨t1,A4,H⟩:=bsE H;(try dsimp only at H);have A3:=Aside0.mk A4;clear A4
 by_cases c4:t0.size+t1.size<=9223372036854775807
 ·rw[if_pos c4]at H
  have c2:=eq_true c4;have c5:=decide_eq_true c4;(try have c7:(9223372036854775807<t0.size+t1.size)=False:=eq_false (Nat.not_lt.2 c4));obtain rfl:=Option.some.inj H
  go_enter Try.func52,Try.ntmps52
  go_wp2_with (first|((with_reducible refine gate_callee (f:=51) rfl ?_);refine cLV (some 5) Try.func51 #[.int .i64 (a0/65536)] (h:=?_);(with_reducible refine(lsa_Two.calls (a0/65536) t0 _ A2.out).mono ?_);rintro e w5 ⟨rfl,hb⟩;refine⟨_,rfl,?_⟩;replace HB:=Aside0.mk (below_step mA hb);(try clear hb))|((with_reducible refine gate_callee (f:=51) rfl ?_);refine cLV (some 7) Try.func51 #[.int .i64 a0] (h:=?_);(with_reducible refine(lsa_Two.calls a0 t1 _ A3.out).mono ?_);rintro e w6 ⟨rfl,hb⟩;refine⟨_,rfl,?_⟩;replace HB:=Aside0.mk (below_step mA hb);(try clear hb)))
  go_ret;exact⟨by first|rfl|(simp[errW_none,errW_some] <;> rfl)|(simp[*,errW_none,errW_some] <;> rfl),by repeat (first|(with_reducible first|exact HB.out|apply below_alloc|apply pw_below_drewN|apply below_drew1)|exact HB.out)⟩
 ·rw[if_neg c4]at H
  exact absurd H mAM
def lsa_body.l0:Nat->ByteArray->List (S109)->Int->Int->Option (ByteArray)
 |0,_,_,_,_=>none
 |k+1,x3,x27,x28,x29=>if x29<x28 then(if 0<=x29 then(if x29<(x27.length:Int)then((lsa_One.f ((rd_T109 x27 x29).f0)).bind λt170=>((lsa_Two.f ((rd_T109 x27 x29).f1)).bind λt171=>(if t170.size+t171.size<=9223372036854775807 then(if x3.size+(t170++t171).size <=9223372036854775807 then(lsa_body.l0 k (x3++(t170++t171)) x27 x28 (wrap64 (x29+1)))else(none))else(none))))else(none))else(none))else(some x3)
def lsa_body.f (k:Nat) (a0_0:Int) (a0_1:Int) (a0_2:Int) (l0_3:List (S109)):Option (ByteArray):=(lsa_One.f a0_0).bind λt165=>((lsa_Four.f a0_1).bind λt166=>(if t165.size+t166.size<=9223372036854775807 then((lsa_One.f (l0_3.length:Int)).bind λt167=>(if(t165++t166).size +t167.size<=9223372036854775807 then(lsa_body.l0 k ((t165++t166)++t167) l0_3 (l0_3.length:Int) 0)else(none)))else(none)))
theorem lsa_body.mono_l:∀k,(∀y0 y1 y2 y3,LeO (lsa_body.l0 k y0 y1 y2 y3) (lsa_body.l0 (k+1) y0 y1 y2 y3))
 |0=>λ_ _ _ _ r h=>by simp[lsa_body.l0]at h
 |k+1=>by
  have ih0:=lsa_body.mono_l k
  ·intro y0 y1 y2 y3
   unfold lsa_body.l0
   repeat' (with_reducible first|exact ih0 _ _ _ _|exact LeO.refl _|exact LeO.none _|refine LeO.ite ?_ ?_ |refine LeO.bind ?_ (λ_=>?_))
theorem lsa_body.mono:∀a0 a1 a2 a3 k,LeO (lsa_body.f k a0 a1 a2 a3) (lsa_body.f (k+1) a0 a1 a2 a3):=by
 intro a0 a1 a2 a3 k;have ih0:=lsa_body.mono_l k;unfold lsa_body.f
 repeat' (with_reducible first|exact ih0 _ _ _ _|exact LeO.refl _|exact LeO.none _|refine LeO.ite ?_ ?_ |refine LeO.bind ?_ (λ_=>?_))
def lsa_body.T1:Bool × List (List Nat × List Nat):=(true,[([],[]),([0],[0]),([1],[1]),([2],[2]),([3],[3]),([],[]),([5],[5]),([6],[6]),([7],[7]),([8,4],[8]),([4,9],[4,9]),([],[]),([11],[11]),([12],[12]),([13],[13]),([14],[14]),([15,9],[15]),([10,16],[10,16]),([17,16,0,1,2,3,4,5,6,7,8,9,10,11,12,13,14,15,16,17],[17])])
def lsa_body.B1:List Nat:=[0,1,3,7,15,0,32,96,224,511,1023,0,2048,6144,14336,30720,64511,131071,262143]
theorem lsa_body.tab1:rtab .any (opsOf Try.f76 1)=lsa_body.T1:=by kernel_rfl
theorem lsa_body.bits1:waitsOk lsa_body.T1.2 lsa_body.B1=true:=by kernel_rfl
def lsa_body.T5:Bool × List (List Nat × List Nat):=(true,[([],[]),([],[]),([1],[1]),([2],[2]),([],[]),([4],[4]),([5,3],[5]),([3,6],[3,6]),([0,7],[0,7]),([8,6,0,1,2,3,4,5,6,7,8],[0,8])])
def lsa_body.B5:List Nat:=[0,0,2,6,0,16,62,126,255,511]
theorem lsa_body.tab5:rtab .any (opsOf Try.f76 5)=lsa_body.T5:=by kernel_rfl
theorem lsa_body.bits5:waitsOk lsa_body.T5.2 lsa_body.B5=true:=by kernel_rfl
set_option maxHeartbeats 8000000 in
set_option maxRecDepth 100000 in
theorem lsa_body.calls (k:Nat) (g0_:Nat) (a0_0:Int) (a0_1:Int) (a0_2:Int) (A0_3:Option Addr) (c0_3:Nat) (l0_3:List (S109)) (r:ByteArray) (w:World) (hb0:w.heap[g0_]? =some (.cells #[.int .i64 a0_0,.int .i64 a0_1,.int .i64 a0_2,.slice A0_3 l0_3.length c0_3] 45 (0,0))) (hr0_3:Kd.C k109 w A0_3 l0_3.length l0_3) (hc0_3:l0_3.length<=c0_3) (h:lsa_body.f k a0_0 a0_1 a0_2 l0_3=some r):
  Calls Try.prog 76 #[.pointer (some ⟨g0_,0,none⟩)] w λe w'=>e= .returned (.string r)/\Below w.heap.size w w':=by
 have hu109:=Try.underlying109;have R0:=Aside0.mk hr0_3;have K0:=Aside0.mk hc0_3;clear hr0_3 hc0_3;have B0:=Aside0.mk hb0;clear hb0;have HB:=Aside0.mk (Below.refl w.heap.size w);have H:((lsa_One.f a0_0).bind λt0=>((lsa_Four.f a0_1).bind λt1=>(if t0.size+t1.size<=9223372036854775807 then((lsa_One.f (l0_3.length:Int)).bind λt2=>(if(t0++t1).size +t2.size<=9223372036854775807 then(lsa_body.l0 k ((t0++t1)++t2) l0_3 (l0_3.length:Int) 0)else(none)))else(none))))=some r:=h;clear h;obtain⟨t0,A0,H⟩:=bsE H;(try dsimp only at H);have A2:=Aside0.mk A0;clear A0;obtain⟨t1,A4,H⟩:=bsE H;(try dsimp only at H);have A3:=Aside0.mk A4;clear A4
 by_cases c4:t0.size+t1.size<=9223372036854775807
 ·rw[if_pos c4]at H
  have c2:=eq_true c4;have c8:=decide_eq_true c4;(try have ca:(9223372036854775807<t0.size+t1.size)=False:=eq_false (Nat.not_lt.2 c4));obtain⟨t2,A7,H⟩:=bsE H;(try dsimp only at H);have A5:=Aside0.mk A7;clear A7
  by_cases c6:(t0++t1).size +t2.size<=9223372036854775807
  ·rw[if_pos c6]at H
   have ce:=eq_true c6;have cg:=decide_eq_true c6;(try have ci:(9223372036854775807<(t0++t1).size +t2.size)=False:=eq_false (Nat.not_lt.2 c6));(try have ck:(9223372036854775807<t0.size+t1.size+t2.size)=False:=eq_false mDA);have H':=Aside0.mk H;clear H
   go_enter Try.func76,Try.ntmps76
   try go_wp2
   replace B0:=Aside0.mk (blk_drew B0.out);replace HB:=Aside0.mk (below_drew1 HB.out);refine start_ (n:=19) (S:=λw'=>w'.cell? ⟨g0_,0,none⟩=some (.int .i64 a0_0)/\w'.cell? ⟨g0_,1,none⟩=some (.int .i64 a0_1)/\w'.cell? ⟨g0_,2,none⟩=some (.int .i64 a0_2)/\w'.cell? ⟨g0_,3,none⟩=some (.slice A0_3 l0_3.length c0_3)) (ds:=[]) mk_19_0 mAD rfl rfl ⟨(blk_cell B0.out 0).trans rfl,(blk_cell B0.out 1).trans rfl,(blk_cell B0.out 2).trans rfl,(blk_cell B0.out 3).trans rfl⟩ (λhHeld=>?_);refine with_tabW lsa_body.tab1 lsa_body.bits1 (λHT_ HW_=>?_);generalize w.drew=w7 at B0 HB hHeld |-;refine pV 0 6 mk_19_1 ?_;refine pV 1 7 mk_19_2 ?_;refine pV 2 8 mk_19_3 ?_;refine pV 5 11 #[true,true,true,false,false,true,false,false,false,false,false,false,false,false,false,false,false,false,false] ?_;refine pV 6 12 #[true,true,true,false,false,true,true,false,false,false,false,false,false,false,false,false,false,false,false] ?_;refine pV 7 13 #[true,true,true,false,false,true,true,true,false,false,false,false,false,false,false,false,false,false,false] ?_;refine pV 11 17 #[true,true,true,false,false,true,true,true,false,false,false,true,false,false,false,false,false,false,false] ?_;refine pV 12 18 #[true,true,true,false,false,true,true,true,false,false,false,true,true,false,false,false,false,false,false] ?_;refine pV 13 19 #[true,true,true,false,false,true,true,true,false,false,false,true,true,true,false,false,false,false,false] ?_;refine tV 3 (some 9) #[true,true,true,true,false,true,true,true,false,false,false,true,true,true,false,false,false,false,false] (hy:=Or.inl ⟨by rfl,by rintro w' ⟨s0,s1,s2,s3⟩;go_simp;with_reducible rfl⟩) (h:=?_);refine tV 8 (some 14) #[true,true,true,true,false,true,true,true,true,false,false,true,true,true,false,false,false,false,false] (hy:=Or.inl ⟨by rfl,by rintro w' ⟨s0,s1,s2,s3⟩;go_simp;with_reducible rfl⟩) (h:=?_);refine tV 14 (some 20) #[true,true,true,true,false,true,true,true,true,false,false,true,true,true,true,false,false,false,false] (hy:=Or.inl ⟨by rfl,by rintro w' ⟨s0,s1,s2,s3⟩;go_simp;with_reducible rfl⟩) (h:=?_);refine pV 15 21 #[true,true,true,true,false,true,true,true,true,false,false,true,true,true,true,true,false,false,false] ?_;refine oV 4 (some 10) #[true,true,true,true,true,true,true,true,true,false,false,true,true,true,true,true,false,false,false] (h:=λK hK=>?_);refine gV Try.func50 #[.int .i64 a0_0] (h:=?_)
   with_reducible refine(lsa_One.calls a0_0 t0 _ A2.out).mono ?_
   rintro e w8 ⟨rfl,hb⟩;refine⟨_,rfl,?_⟩;replace B0:=Aside0.mk (blk_below (g:=g0_) (o:= .cells #[.int .i64 a0_0,.int .i64 a0_1,.int .i64 a0_2,.slice A0_3 l0_3.length c0_3] 45 (0,0)) mB hb);replace HB:=Aside0.mk (below_step mR hb);(try clear hb);(try clear hb2);(try clear hk);(try clear hi);refine hK.out _ _ ⟨(blk_cell B0.out 0).trans rfl,(blk_cell B0.out 1).trans rfl,(blk_cell B0.out 2).trans rfl,(blk_cell B0.out 3).trans rfl⟩ (λhHeld=>?_);clear hK K;refine nV 10 (h:=?_);refine oV 9 (some 15) #[true,true,true,true,true,true,true,true,true,true,false,true,true,true,true,true,false,false,false] (h:=λK hK=>?_);refine gV Try.func52 #[.int .i64 a0_1] (h:=?_)
   with_reducible refine(lsa_Four.calls a0_1 t1 _ A3.out).mono ?_
   rintro e w9 ⟨rfl,hb⟩;refine⟨_,rfl,?_⟩;replace B0:=Aside0.mk (blk_below (g:=g0_) (o:= .cells #[.int .i64 a0_0,.int .i64 a0_1,.int .i64 a0_2,.slice A0_3 l0_3.length c0_3] 45 (0,0)) mB hb);replace HB:=Aside0.mk (below_step mR hb);(try clear hb);(try clear hb2);(try clear hk);(try clear hi);refine hK.out _ _ ⟨(blk_cell B0.out 0).trans rfl,(blk_cell B0.out 1).trans rfl,(blk_cell B0.out 2).trans rfl,(blk_cell B0.out 3).trans rfl⟩ (λhHeld=>?_);clear hK K;refine nV 15 (h:=?_);refine pV 10 16 mk_19_16 ?_;refine oV 16 (some 22) mk_19_17 (h:=λK hK=>?_);refine gV Try.func50 #[.int .i64 (l0_3.length:Int)] (h:=?_)
   with_reducible refine(lsa_One.calls (l0_3.length:Int) t2 _ A5.out).mono ?_
   rintro e w4 ⟨rfl,hb⟩;refine⟨_,rfl,?_⟩;replace B0:=Aside0.mk (blk_below (g:=g0_) (o:= .cells #[.int .i64 a0_0,.int .i64 a0_1,.int .i64 a0_2,.slice A0_3 l0_3.length c0_3] 45 (0,0)) mB hb);replace HB:=Aside0.mk (below_step mR hb);(try clear hb);(try clear hb2);(try clear hk);(try clear hi);refine hK.out _ _ ⟨(blk_cell B0.out 0).trans rfl,(blk_cell B0.out 1).trans rfl,(blk_cell B0.out 2).trans rfl,(blk_cell B0.out 3).trans rfl⟩ (λhHeld=>?_);clear hK K;refine nV 22 (h:=?_);refine pV 17 23 mk_19_18 ?_;refine pV 18 3 mk_19_19 ?_;refine done_ (done_of HT_.out mAD) ?_;obtain⟨z0,z1,z2,z3⟩:=bc4 B0.out;have z4:=blk_frozen B0.out;(try go_wp2)
   go_loopg [3,29] k (λkq v3 v29 w'=>∃(x0:ByteArray) (x1:Int),v3= .string x0/\v29= .int .i64 x1/\Aside0 (lsa_body.l0 kq x0 l0_3 (l0_3.length:Int) x1=some r)/\Aside0 (kq<=k)/\Aside0 (w'.heap[g0_]? =some (.cells #[.int .i64 a0_0,.int .i64 a0_1,.int .i64 a0_2,(.slice A0_3 l0_3.length c0_3)] 45 (0,0)))/\Aside0 (Below w.heap.size w w'))
   case atStart=>exact⟨((t0++t1)++t2),(0),mK,mK,H',⟨Nat.le_refl _⟩,⟨by(with_reducible repeat (first|refine blk_drewN ?_ _|refine blk_drew ?_ |refine blk_alloc ?_ _));exact B0.out⟩,⟨by repeat (first|(with_reducible first|exact HB.out|apply below_alloc|apply pw_below_drewN|apply below_drew1|refine below_set ?_ G0.out)|exact HB.out)⟩⟩
   case round=>
    clear H';(try clear p2);(try clear c4);(try clear c2);(try clear c8);(try clear ca);(try clear c5);(try clear c6);(try clear ce);(try clear cg);(try clear ci);(try clear c7);(try clear z0);(try clear z1);(try clear z2);(try clear z3);(try clear z4);(try clear hfz11_1);(try clear hfz11_2);(try clear hfz11_3);obtain⟨x0,x1,rfl,rfl,HA,HK1,B0,HB⟩:=hrel;cases gk with
    |zero=>exact absurd HA.out (by simp[lsa_body.l0])
    |succ k1=>
     have H:=HA.out;clear HA;simp only[lsa_body.l0]at H
     by_cases co:x1<(l0_3.length:Int)
     ·rw[if_pos co]at H
      have cp:=decide_eq_true co;clear co
      by_cases cq:0<=x1
      ·rw[if_pos cq]at H
       have cr:=decide_eq_true cq;clear cq
       by_cases ct:x1<(l0_3.length:Int)
       ·rw[if_pos ct]at H
        have cu:=decide_eq_true ct;clear ct;obtain⟨t3,Ac,H⟩:=bsE H;(try dsimp only at H);have Ad:=Aside0.mk Ac;clear Ac;obtain⟨t4,Ae,H⟩:=bsE H;(try dsimp only at H);have Af:=Aside0.mk Ae;clear Ae
        by_cases cv:t3.size+t4.size<=9223372036854775807
        ·rw[if_pos cv]at H
         have cw:=eq_true cv;have cx:=decide_eq_true cv;(try have cy:(9223372036854775807<t3.size+t4.size)=False:=eq_false (Nat.not_lt.2 cv))
         by_cases cz:x0.size+(t3++t4).size <=9223372036854775807
         ·rw[if_pos cz]at H
          have c00:=eq_true cz;have c01:=decide_eq_true cz;(try have c02:(9223372036854775807<x0.size+(t3++t4).size)=False:=eq_false (Nat.not_lt.2 cz));(try have c03:(9223372036854775807<x0.size+(t3.size+t4.size))=False:=eq_false mCX);have H':=Aside0.mk H;clear H;have p0:0<=(x1:Int):=of_decide_eq_true mE;have q0:x1<(l0_3.length:Int):=of_decide_eq_true mE;obtain⟨d0,e0,h0,h1⟩:=at_T109 R0.out x1 p0 q0;cases e0;replace h0:=hB HB h0;replace h1:=hB HB h1;replace p0:=eq_true p0;replace q0:=eq_true q0;(try go_wp2_with (first|((with_reducible refine gate_dst (N:=5) rfl ?_);refine bxV (N:=5) (cs:=#[.int .i64 0,.int .i64 0]) (t:=109) (h:=?_);intro g0 hg w5 hbox hb;have B2:=Aside0.mk (hbox);have G1:=Aside0.mk ((by rw[hg];exact(below_size mR):w.heap.size<=g0));have G2:=Aside0.mk ((by rw[hg];exact(below_size mR):w.heap.size<=g0));replace HB:=Aside0.mk (below_step mR hb);have N0:=Aside0.mk ((by rw[hg];exact Nat.ne_of_lt (blk_lt (g:=g0_) (o:= .cells #[.int .i64 a0_0,.int .i64 a0_1,.int .i64 a0_2,.slice (some d0) l0_3.length c0_3] 45 (0,0)) mB):g0_≠g0));have N1:=Aside0.mk ((by rw[hg];exact Nat.ne_of_gt (blk_lt (g:=g0_) (o:= .cells #[.int .i64 a0_0,.int .i64 a0_1,.int .i64 a0_2,.slice (some d0) l0_3.length c0_3] 45 (0,0)) mB):g0≠g0_));replace B0:=Aside0.mk (blk_below (g:=g0_) (o:= .cells #[.int .i64 a0_0,.int .i64 a0_1,.int .i64 a0_2,.slice (some d0) l0_3.length c0_3] 45 (0,0)) mB hb);clear hb hbox hg;have n0:=N1.out;have n1:=N0.out;obtain⟨z5,z6⟩:=bc2 B2.out;have z7:=blk_frozen B2.out)|((with_reducible refine gate_store (t:=109) (p:=5) rfl ?_);refine stV (t:=109) (p:=5) (w1:=((w5.setCell ⟨g0,0,none⟩ (.int .i64 ((rd_T109 l0_3 x1).f0))).setCell ⟨g0,1,none⟩ (.int .i64 ((rd_T109 l0_3 x1).f1)))) (h:=?_);intro wa hw;replace B0:Aside0 (wa.heap[g0_]? =some (.cells #[.int .i64 a0_0,.int .i64 a0_1,.int .i64 a0_2,.slice (some d0) l0_3.length c0_3] 45 (0,0))):=⟨(by rw[hw];exact(by(with_reducible repeat (first|refine blk_drewN ?_ _|refine blk_drew ?_ |refine blk_alloc ?_ _));refine blk_far ?_ N0.out _;(with_reducible repeat (first|refine blk_drewN ?_ _|refine blk_drew ?_ |refine blk_alloc ?_ _));refine blk_far ?_ N0.out _;(with_reducible repeat (first|refine blk_drewN ?_ _|refine blk_drew ?_ |refine blk_alloc ?_ _));exact B0.out))⟩;replace B2:Aside0 (wa.heap[g0]? =some (.cells #[.int .i64 ((rd_T109 l0_3 x1).f0),.int .i64 ((rd_T109 l0_3 x1).f1)] 109 (0,0))):=⟨(by rw[hw];exact(by(with_reducible repeat (first|refine blk_drewN ?_ _|refine blk_drew ?_ |refine blk_alloc ?_ _));refine blk_put (cs:=#[.int .i64 ((rd_T109 l0_3 x1).f0),.int .i64 0]) ?_ 1 _ rfl;(with_reducible repeat (first|refine blk_drewN ?_ _|refine blk_drew ?_ |refine blk_alloc ?_ _));refine blk_put (cs:=#[.int .i64 0,.int .i64 0]) ?_ 0 _ rfl;(with_reducible repeat (first|refine blk_drewN ?_ _|refine blk_drew ?_ |refine blk_alloc ?_ _));exact B2.out))⟩;replace HB:Aside0 (Below w.heap.size w wa):=⟨(by rw[hw];exact mBP)⟩;clear hw)));replace B0:=Aside0.mk (blk_drew B0.out);replace B2:=Aside0.mk (blk_drew B2.out);replace HB:=Aside0.mk (below_drew1 HB.out);refine start_ (n:=10) (S:=λw'=>w'.cell? ⟨g0,0,none⟩=some (.int .i64 ((rd_T109 l0_3 x1).f0))/\w'.cell? ⟨g0,1,none⟩=some (.int .i64 ((rd_T109 l0_3 x1).f1))) (ds:=[]) mk_10_0 mAD rfl rfl ⟨(blk_cell B2.out 0).trans rfl,(blk_cell B2.out 1).trans rfl⟩ (λhHeld=>?_);refine with_tabW lsa_body.tab5 lsa_body.bits5 (λHT_ HW_=>?_);generalize wa.drew=wb at B0 B2 HB hHeld |-;refine pV 0 33 mk_10_1 ?_;refine pV 1 34 mk_10_2 ?_;refine pV 4 37 #[true,true,false,false,true,false,false,false,false,false] ?_;refine tV 2 (some 35) #[true,true,true,false,true,false,false,false,false,false] (hy:=Or.inl ⟨by rfl,by rintro w' ⟨s0,s1⟩;go_simp;with_reducible rfl⟩) (h:=?_);refine tV 5 (some 38) #[true,true,true,false,true,true,false,false,false,false] (hy:=Or.inl ⟨by rfl,by rintro w' ⟨s0,s1⟩;go_simp;with_reducible rfl⟩) (h:=?_)
          refine oV 3 (some 36) mk_10_6 (h:=λK hK=>?_);refine gV Try.func50 #[.int .i64 ((rd_T109 l0_3 x1).f0)] (h:=?_)
          with_reducible refine(lsa_One.calls ((rd_T109 l0_3 x1).f0) t3 _ Ad.out).mono ?_
          rintro e wc ⟨rfl,hb⟩;refine⟨_,rfl,?_⟩;replace B0:=Aside0.mk (blk_below (g:=g0_) (o:= .cells #[.int .i64 a0_0,.int .i64 a0_1,.int .i64 a0_2,.slice (some d0) l0_3.length c0_3] 45 (0,0)) mB hb);replace B2:=Aside0.mk (blk_below mS hb);replace HB:=Aside0.mk (below_step mBP hb);(try clear hb);(try clear hb2);(try clear hk);(try clear hi);refine hK.out _ _ ⟨(blk_cell B2.out 0).trans rfl,(blk_cell B2.out 1).trans rfl⟩ (λhHeld=>?_);clear hK K;refine nV 36 (h:=?_);refine oV 6 (some 39) mk_10_7 (h:=λK hK=>?_);refine gV Try.func51 #[.int .i64 ((rd_T109 l0_3 x1).f1)] (h:=?_)
          with_reducible refine(lsa_Two.calls ((rd_T109 l0_3 x1).f1) t4 _ Af.out).mono ?_
          rintro e wd ⟨rfl,hb⟩;refine⟨_,rfl,?_⟩;replace B0:=Aside0.mk (blk_below (g:=g0_) (o:= .cells #[.int .i64 a0_0,.int .i64 a0_1,.int .i64 a0_2,.slice (some d0) l0_3.length c0_3] 45 (0,0)) mB hb);replace B2:=Aside0.mk (blk_below mS hb);replace HB:=Aside0.mk (below_step mBP hb);(try clear hb);(try clear hb2);(try clear hk);(try clear hi);refine hK.out _ _ ⟨(blk_cell B2.out 0).trans rfl,(blk_cell B2.out 1).trans rfl⟩ (λhHeld=>?_);clear hK K;refine nV 39 (h:=?_);refine pV 7 40 mk_10_8 ?_;refine pV 8 41 mk_10_9 ?_;refine pV 9 3 mk_10_10 ?_;refine done_ (done_of HT_.out mAD) ?_;(try go_wp2)
          go_roundg k1
          case measure=>have:=HK1.out;omega
          case rel=>exact⟨(x0++(t3++t4)),(wrap64 (x1+1)),mK,mK,H',⟨by have:=HK1.out;omega⟩,⟨by(with_reducible repeat (first|refine blk_drewN ?_ _|refine blk_drew ?_ |refine blk_alloc ?_ _));exact B0.out⟩,⟨by repeat (first|(with_reducible first|exact HB.out|apply below_alloc|apply pw_below_drewN|apply below_drew1|refine below_set ?_ G0.out|refine below_set ?_ G2.out)|exact HB.out)⟩⟩
         ·rw[if_neg cz]at H
          exact absurd H mAM
        ·rw[if_neg cv]at H
         exact absurd H mAM
       ·rw[if_neg ct]at H
        exact absurd H mAM
      ·rw[if_neg cq]at H
       exact absurd H mAM
     ·rw[if_neg co]at H
      have cp:=decide_eq_false co;clear co;obtain rfl:=Option.some.inj H;go_wp2;go_ret;exact⟨by first|rfl|(simp[errW_none,errW_some] <;> rfl)|(simp[*,errW_none,errW_some] <;> rfl),by repeat (first|(with_reducible first|exact HB.out|apply below_alloc|apply pw_below_drewN|apply below_drew1|refine below_set ?_ G0.out)|exact HB.out)⟩
  ·rw[if_neg c6]at H
   exact absurd H mAM
 ·rw[if_neg c4]at H
  exact absurd H mAM
def fletch_Sum.l0:Nat->ByteArray->Int->Int->Int->Int->Option (Int)
 |0,_,_,_,_,_=>none
 |k+1,x0,x3,x4,x7,x8=>if x8<x7 then(if 0<=x8 then(if x8<(x0.size:Int)then(fletch_Sum.l0 k x0 (Int.tmod (wrap64 (x3+(wrap64 (bt x0 x8)))) 255) (Int.tmod (wrap64 (x4+(Int.tmod (wrap64 (x3+(wrap64 (bt x0 x8)))) 255))) 255) x7 (wrap64 (x8+1)))else(none))else(none))else(some (wrap64 ((wrap64 (256*x4))+x3)))
def fletch_Sum.f (k:Nat) (a0:ByteArray):Option (Int):=fletch_Sum.l0 k a0 0 0 (a0.size:Int) 0
theorem fletch_Sum.mono_l:∀k,(∀y0 y1 y2 y3 y4,LeO (fletch_Sum.l0 k y0 y1 y2 y3 y4) (fletch_Sum.l0 (k+1) y0 y1 y2 y3 y4))
 |0=>λ_ _ _ _ _ r h=>by simp[fletch_Sum.l0]at h
 |k+1=>by
  have ih0:=fletch_Sum.mono_l k
  ·intro y0 y1 y2 y3 y4
   unfold fletch_Sum.l0
   repeat' (with_reducible first|exact ih0 _ _ _ _ _|exact LeO.refl _|exact LeO.none _|refine LeO.ite ?_ ?_ |refine LeO.bind ?_ (λ_=>?_))
theorem fletch_Sum.mono:∀a0 k,LeO (fletch_Sum.f k a0) (fletch_Sum.f (k+1) a0):=by
 intro a0 k;have ih0:=fletch_Sum.mono_l k;unfold fletch_Sum.f
 repeat' (with_reducible first|exact ih0 _ _ _ _ _|exact LeO.refl _|exact LeO.none _|refine LeO.ite ?_ ?_ |refine LeO.bind ?_ (λ_=>?_))
set_option maxHeartbeats 8000000 in
set_option maxRecDepth 100000 in
theorem fletch_Sum.calls (k:Nat) (a0:ByteArray) (r:Int) (w:World) (h:fletch_Sum.f k a0=some r):
  Calls Try.prog 77 #[.string a0] w λe w'=>e= .returned (.int .i64 r)/\Drawn0 w w':=by
 have H:(fletch_Sum.l0 k a0 0 0 (a0.size:Int) 0)=some r:=h;clear h;have H':=Aside0.mk H;clear H
 go_enter Try.func77,Try.ntmps77
 go_wp2
 go_loopg [3,4,8] k (λkq v3 v4 v8 w'=>∃(x1:Int) (x2:Int) (x5:Int),v3= .int .i64 x1/\v4= .int .i64 x2/\v8= .int .i64 x5/\Aside0 (fletch_Sum.l0 kq a0 x1 x2 (a0.size:Int) x5=some r)/\Aside0 (kq<=k)/\Drawn0 w w')
 case atStart=>exact⟨(0),(0),(0),mK,mK,mK,H',⟨Nat.le_refl _⟩,by repeat (first|exact Drawn0.refl _|apply Drawn0.step)⟩
 case round=>
  clear H';obtain⟨x1,x2,x5,rfl,rfl,rfl,HA,HK1,⟨m1,rfl⟩⟩:=hrel;cases gk with
  |zero=>exact absurd HA.out (by simp[fletch_Sum.l0])
  |succ k1=>
   have H:=HA.out;clear HA;simp only[fletch_Sum.l0]at H
   by_cases c2:x5<(a0.size:Int)
   ·rw[if_pos c2]at H
    have c5:=decide_eq_true c2;clear c2
    by_cases c3:0<=x5
    ·rw[if_pos c3]at H
     have ca:=decide_eq_true c3;clear c3
     by_cases c4:x5<(a0.size:Int)
     ·rw[if_pos c4]at H
      have cf:=decide_eq_true c4;clear c4;have H':=Aside0.mk H;clear H;have p5:0<=(x5:Int):=of_decide_eq_true mE;have q5:x5<(a0.size:Int):=of_decide_eq_true mE;have hx5:=bt_at a0 x5;replace p5:=eq_true p5;replace q5:=eq_true q5;go_wp2
      go_roundg k1
      case measure=>have:=HK1.out;omega
      case rel=>exact⟨(Int.tmod (wrap64 (x1+(wrap64 (bt a0 x5)))) 255),(Int.tmod (wrap64 (x2+(Int.tmod (wrap64 (x1+(wrap64 (bt a0 x5)))) 255))) 255),(wrap64 (x5+1)),mK,mK,mK,H',⟨by have:=HK1.out;omega⟩,by repeat (first|exact Drawn0.refl _|apply Drawn0.step)⟩
     ·rw[if_neg c4]at H
      exact absurd H mAM
    ·rw[if_neg c3]at H
     exact absurd H mAM
   ·rw[if_neg c2]at H
    have c5:=decide_eq_false c2;clear c2;obtain rfl:=Option.some.inj H;go_wp2;go_ret;exact⟨by first|rfl|(simp;done)|(simp[*];done),by repeat (first|exact Drawn0.refl _|apply Drawn0.step)⟩
def lsa_Put.f (k:Nat) (a0_0:Int) (a0_1:Int) (a0_2:Int) (l0_3:List (S109)):Option (ByteArray × Int):=(lsa_May.f k a0_0 a0_1 a0_2 l0_3).bind λt173=>(if t173=true then((lsa_body.f k a0_0 a0_1 a0_2 l0_3).bind λt174=>((lsa_One.f a0_2).bind λt175=>(if t175.size+t174.size<=9223372036854775807 then((fletch_Sum.f k t174).bind λt176=>((lsa_Two.f t176).bind λt177=>(if(t175++t174).size +t177.size<=9223372036854775807 then(some ((t175++t174)++t177,0))else(none))))else(none))))else(some ((⟨#[]⟩:ByteArray),700)))
theorem lsa_Put.mono:∀a0 a1 a2 a3 k,LeO (lsa_Put.f k a0 a1 a2 a3) (lsa_Put.f (k+1) a0 a1 a2 a3):=by
 intro a0 a1 a2 a3 k;unfold lsa_Put.f
 repeat' (with_reducible first|exact fletch_Sum.mono _ _|exact lsa_May.mono _ _ _ _ _|exact lsa_body.mono _ _ _ _ _|exact LeO.refl _|exact LeO.none _|refine LeO.ite ?_ ?_ |refine LeO.bind ?_ (λ_=>?_))
set_option maxHeartbeats 8000000 in
set_option maxRecDepth 100000 in
theorem lsa_Put.calls (k:Nat) (a0_0:Int) (a0_1:Int) (a0_2:Int) (A0_3:Option Addr) (c0_3:Nat) (l0_3:List (S109)) (r1:ByteArray) (r2:Int) (w:World) (hr0_3:Kd.C k109 w A0_3 l0_3.length l0_3) (hc0_3:l0_3.length<=c0_3) (h:lsa_Put.f k a0_0 a0_1 a0_2 l0_3=some (r1,r2)):
  Calls Try.prog 69 #[.agg #[.int .i64 a0_0,.int .i64 a0_1,.int .i64 a0_2,.slice A0_3 l0_3.length c0_3]] w λe w'=>e= .returned (.tuple #[.string r1,.int .i64 r2])/\Below w.heap.size w w':=by
 have hu45:=Try.underlying45;have R0:=Aside0.mk hr0_3;have K0:=Aside0.mk hc0_3;clear hr0_3 hc0_3;have HB:=Aside0.mk (Below.refl w.heap.size w);have H:((lsa_May.f k a0_0 a0_1 a0_2 l0_3).bind λt0=>(if t0=true then((lsa_body.f k a0_0 a0_1 a0_2 l0_3).bind λt1=>((lsa_One.f a0_2).bind λt2=>(if t2.size+t1.size<=9223372036854775807 then((fletch_Sum.f k t1).bind λt3=>((lsa_Two.f t3).bind λt4=>(if(t2++t1).size +t4.size<=9223372036854775807 then(some ((t2++t1)++t4,0))else(none))))else(none))))else(some ((⟨#[]⟩:ByteArray),700))))=some (r1,r2):=h;clear h;obtain⟨t0,A0,H⟩:=bsE H;(try dsimp only at H);have A2:=Aside0.mk A0;clear A0
 by_cases c3:t0=true
 ·subst c3
  rw[if_pos rfl]at H;obtain⟨t1,A3,H⟩:=bsE H;(try dsimp only at H);have A4:=Aside0.mk A3;clear A3;obtain⟨t2,A6,H⟩:=bsE H;(try dsimp only at H);have A5:=Aside0.mk A6;clear A6
  by_cases c6:t2.size+t1.size<=9223372036854775807
  ·rw[if_pos c6]at H
   have c5:=eq_true c6;have c7:=decide_eq_true c6;(try have ca:(9223372036854775807<t2.size+t1.size)=False:=eq_false (Nat.not_lt.2 c6));obtain⟨t3,Aa,H⟩:=bsE H;(try dsimp only at H);have A7:=Aside0.mk Aa;clear Aa;obtain⟨t4,Ac,H⟩:=bsE H;(try dsimp only at H);have A8:=Aside0.mk Ac;clear Ac
   by_cases c9:(t2++t1).size +t4.size<=9223372036854775807
   ·rw[if_pos c9]at H
    have ce:=eq_true c9;have cg:=decide_eq_true c9;(try have ci:(9223372036854775807<(t2++t1).size +t4.size)=False:=eq_false (Nat.not_lt.2 c9));(try have ck:(9223372036854775807<t2.size+t1.size+t4.size)=False:=eq_false mCZ);simp only[Option.some.injEq,Prod.mk.injEq]at H;obtain⟨rfl,rfl⟩:=H
    go_enter Try.func69,Try.ntmps69
    go_wp2_with (first|((with_reducible refine gate_dst (N:=1) rfl ?_);refine bxV (N:=1) (cs:=#[.int .i64 a0_0,.int .i64 a0_1,.int .i64 a0_2,.slice A0_3 l0_3.length c0_3]) (t:=45) (h:=?_);intro g0 hg w0 hbox hb;have B0:=Aside0.mk (hbox);have G0:=Aside0.mk ((mJ:w.heap.size<=g0));have G1:=Aside0.mk ((mJ:w.heap.size<=g0));replace HB:=Aside0.mk (below_step mA hb);clear hb hbox hg;obtain⟨z0,z1,z2,z3⟩:=bc4 B0.out;have z4:=blk_frozen B0.out)|((with_reducible refine gate_callee (f:=75) rfl ?_);refine cLV (some 6) Try.func75 #[.agg #[.int .i64 a0_0,.int .i64 a0_1,.int .i64 a0_2,.slice A0_3 l0_3.length c0_3]] (h:=?_);(with_reducible refine(lsa_May.calls k a0_0 a0_1 a0_2 _ _ l0_3 true _ ?side1 ?side2 A2.out).mono ?_);(case side1=>repeat (first|exact(Kd.C_below R0.out HB.out)|(with_reducible refine Kd.C_alloc ?_ _)|(with_reducible refine Kd.C_drewN ?_ _)|(with_reducible refine Kd.C_drew ?_)));(case side2=>exact K0.out);rintro e w1 ⟨rfl,hb⟩;refine⟨_,rfl,?_⟩;replace B0:=Aside0.mk (blk_below mB hb);replace HB:=Aside0.mk (below_step mC hb);(try clear hb))|((with_reducible refine gate_callee (f:=76) rfl ?_);refine cLV (some 8) Try.func76 #[.pointer (some ⟨g0,0,none⟩)] (h:=?_);(with_reducible refine(lsa_body.calls k g0 a0_0 a0_1 a0_2 A0_3 c0_3 l0_3 t1 _ ?side1 ?side2 ?side3 A4.out).mono ?_);(case side1=>exact mB);(case side2=>repeat (first|exact(Kd.C_below R0.out HB.out)|(with_reducible refine Kd.C_alloc ?_ _)|(with_reducible refine Kd.C_drewN ?_ _)|(with_reducible refine Kd.C_drew ?_)));(case side3=>exact K0.out);rintro e w2 ⟨rfl,hb⟩;refine⟨_,rfl,?_⟩;replace B0:=Aside0.mk (blk_below mB hb);replace HB:=Aside0.mk (below_step mC hb);(try clear hb);obtain⟨z5,z6,z7,z8⟩:=bc4 B0.out;have z9:=blk_frozen B0.out)|((with_reducible refine gate_callee (f:=50) rfl ?_);refine cLV (some 11) Try.func50 #[.int .i64 a0_2] (h:=?_);(with_reducible refine(lsa_One.calls a0_2 t2 _ A5.out).mono ?_);rintro e w3 ⟨rfl,hb⟩;refine⟨_,rfl,?_⟩;replace B0:=Aside0.mk (blk_below mB hb);replace HB:=Aside0.mk (below_step mC hb);(try clear hb))|((with_reducible refine gate_callee (f:=77) rfl ?_);refine cLV (some 15) Try.func77 #[.string t1] (h:=?_);(with_reducible refine(fletch_Sum.calls k t1 t3 _ A7.out).mono ?_);rintro e w' ⟨rfl,⟨nd,rfl⟩⟩;refine⟨_,rfl,?_⟩)|((with_reducible refine gate_callee (f:=51) rfl ?_);refine cLV (some 16) Try.func51 #[.int .i64 t3] (h:=?_);(with_reducible refine(lsa_Two.calls t3 t4 _ A8.out).mono ?_);rintro e w4 ⟨rfl,hb⟩;refine⟨_,rfl,?_⟩;replace B0:=Aside0.mk (blk_below mB hb);replace HB:=Aside0.mk (below_step mC hb);(try clear hb)))
    go_ret2
    exact⟨by first|rfl|(simp[errW_none,errW_some] <;> rfl)|(simp[*,errW_none,errW_some] <;> rfl),by repeat (first|(with_reducible first|exact HB.out|apply below_alloc|apply pw_below_drewN|apply below_drew1|refine below_set ?_ G1.out)|exact HB.out)⟩
   ·rw[if_neg c9]at H
    exact absurd H mAM
  ·rw[if_neg c6]at H
   exact absurd H mAM
 ·replace c3:=Bool.eq_false_iff.mpr c3
  subst c3;rw[if_neg (show ¬(false=true)by decide)]at H;simp only[Option.some.injEq,Prod.mk.injEq]at H;obtain⟨rfl,rfl⟩:=H
  go_enter Try.func69,Try.ntmps69
  go_wp2_with (first|((with_reducible refine gate_dst (N:=1) rfl ?_);refine bxV (N:=1) (cs:=#[.int .i64 a0_0,.int .i64 a0_1,.int .i64 a0_2,.slice A0_3 l0_3.length c0_3]) (t:=45) (h:=?_);intro g0 hg w5 hbox hb;have B0:=Aside0.mk (hbox);have G0:=Aside0.mk ((mJ:w.heap.size<=g0));have G1:=Aside0.mk ((mJ:w.heap.size<=g0));replace HB:=Aside0.mk (below_step mA hb);clear hb hbox hg;obtain⟨za,zb,zc,zd⟩:=bc4 B0.out;have ze:=blk_frozen B0.out)|((with_reducible refine gate_callee (f:=75) rfl ?_);refine cLV (some 6) Try.func75 #[.agg #[.int .i64 a0_0,.int .i64 a0_1,.int .i64 a0_2,.slice A0_3 l0_3.length c0_3]] (h:=?_);(with_reducible refine(lsa_May.calls k a0_0 a0_1 a0_2 _ _ l0_3 false _ ?side1 ?side2 A2.out).mono ?_);(case side1=>repeat (first|exact(Kd.C_below R0.out HB.out)|(with_reducible refine Kd.C_alloc ?_ _)|(with_reducible refine Kd.C_drewN ?_ _)|(with_reducible refine Kd.C_drew ?_)));(case side2=>exact K0.out);rintro e w6 ⟨rfl,hb⟩;refine⟨_,rfl,?_⟩;replace B0:=Aside0.mk (blk_below mB hb);replace HB:=Aside0.mk (below_step mC hb);(try clear hb)))
  go_ret2
  exact⟨by first|rfl|(simp[errW_none,errW_some] <;> rfl)|(simp[*,errW_none,errW_some] <;> rfl),by repeat (first|(with_reducible first|exact HB.out|apply below_alloc|apply pw_below_drewN|apply below_drew1|refine below_set ?_ G1.out)|exact HB.out)⟩
end Go.Proofs.Ytbajimbccbckkaa.Q12k
