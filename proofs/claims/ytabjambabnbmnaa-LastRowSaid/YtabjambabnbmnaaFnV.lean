/- A call through a function value that is known: as a call of that function. -/
import Derived.Test.YtabjambabnbmnaaWLast
import Derived.Test.YtabjambabnbmnaaWMore
namespace Go.Proofs.YtabjambabnbmnaaW.PrintWords
open Go.RowKit Go.Proofs.YtabjambabnbmnaaW.PrintLast Go.Proofs.YtabjambabnbmnaaW.PrintMore
set_option linter.unusedVariables false
set_option linter.unusedSimpArgs false
section
variable {P : Program} {ops : Array Oper} {Q : Exit → Act → World → Prop}
theorem runV_ {oi : Oper} {a : Act} {w : World} {f : FuncId} {fn : Func} {as : Array Operand} {ts : Array TypeId} (hf : P.funcs[f]? = some fn) (hname : (fn.name == "runtime.NumGoroutine") = false) (hb : fn.body.isSome = true) (args : Array Value) {x : Operand}
    (hop : oi.op = .call { callee := .value x, args := as, argTypes := ts }) (hx : a.eval x = .func (.func f) #[] #[]) (hargs : as.map a.eval = args) : (execOp a.eval oi).run P w = .ok (.enter f args) w := by
  have he := enters_ hf hname hb args w
  unfold execOp
  simp [hop, resolve, hx, Deferred.ofValue, invoke, hargs, he]
theorem goesV_ {oi : Oper} {N : Option Tmp} {a : Act} {w : World} {K : Act → World → Prop} {f : FuncId} {fn : Func} {as : Array Operand} {ts : Array TypeId} (hf : P.funcs[f]? = some fn) (hname : (fn.name == "runtime.NumGoroutine") = false) (hb : fn.body.isSome = true) (args : Array Value)
    (hw : Region.wanted oi (yielded ops a.tmps) = true) (hN : oi.dst = N) {x : Operand} (hop : oi.op = .call { callee := .value x, args := as, argTypes := ts }) (hx : a.eval x = .func (.func f) #[] #[]) (hargs : as.map a.eval = args)
    (h : Calls P f args w fun e w' => ∃ v, e = .returned v ∧ K (a.put N v) w') : if Region.wanted oi (yielded ops a.tmps) = true then Oper.wp P oi a w K Q else K (a.put N undef) w :=
  call_ f args hw hN (runV_ hf hname hb args hop hx hargs) h
theorem goesVL_ {rest : List Oper} {oi : Oper} {a : Act} {w : World} (N : Option Tmp) (hd : oi.dst = N) (hg : oi.guard = none) {f : FuncId} {fn : Func} {as : Array Operand} {ts : Array TypeId} (hf : P.funcs[f]? = some fn) (hname : (fn.name == "runtime.NumGoroutine") = false) (hb : fn.body.isSome = true) (args : Array Value) {x : Operand}
    (hop : oi.op = .call { callee := .value x, args := as, argTypes := ts }) (hx : a.eval x = .func (.func f) #[] #[]) (hargs : as.map a.eval = args)
    (h : Calls P f args w fun e w' => ∃ v, e = .returned v ∧ wpList P ops Q rest (a.put N v) w') : wpList P ops Q (oi :: rest) a w := by
  refine wpList_plain hg fun K hK => ?_
  have hrun := runV_ (w := w) hf hname hb args hop hx hargs
  unfold Oper.wp
  rw [hrun, Oper.upon_enter]
  refine h.mono fun e w'' hh => ?_
  obtain ⟨v, rfl, hk⟩ := hh
  subst hd
  exact hK _ _ hk
end
namespace Kd
theorem R_inserted {α : Type} {d : Kd α} {e base : Nat} {ok okp : Nat → Prop} {W w1 : World} {v v1 : Value} {xs : List α} {p : α} {inner cs : List Value} {i : Nat} (hi : i ≤ xs.length) (h0 : ∀ k, v.ownBlock = some k → ok k) (hr : Reps (d.M W base (fun k => ok k ∧ some k ≠ v.ownBlock)) d.sz xs inner) (hp : d.M W base okp p cs) (hokp : ∀ k, okp k → ok k ∧ some k ≠ v.ownBlock) (hfresh : ∀ k, W.heap.size ≤ k → ok k)
    (hown : w1.ownsRow base e d.sz v1 (xs.length + 1) (inner.take (i * d.sz) ++ cs ++ inner.drop (i * d.sz))) (hg : W.grownBy w1 v.ownBlock) (hat : v1.ownBlock = v.ownBlock ∨ v1.ownBlock = some W.heap.size) : d.R e w1 base ok v1 (xs.take i ++ [p] ++ xs.drop i) := by
  have hat' : v1.ownBlock = v.ownBlock ∨ ∃ b, v1.ownBlock = some b ∧ W.heap.size ≤ b := hat.imp_right fun h => ⟨_, h, Nat.le_refl _⟩
  have hl : (xs.take i ++ [p] ++ xs.drop i).length = xs.length + 1 := by
    simp only [List.length_append, List.length_take, List.length_drop, List.length_singleton]; omega
  have hp' : d.M W base (fun k => ok k ∧ some k ≠ v.ownBlock) p cs := d.M_mono hokp hp
  refine ⟨fun k hk => ?_, _, by rw [hl]; exact hown, ?_⟩
  · rcases hat with hat | hat
    · exact h0 k (hat ▸ hk)
    · rw [hat] at hk; injection hk with hk; exact hfresh k (by omega)
  · refine Reps.imp_ (R := d.M W base (fun k => ok k ∧ some k ≠ v.ownBlock)) ?_ (fun _ _ h => M_after h hg hat')
    refine reps_append (reps_append (reps_take hr hi) ?_) (reps_drop hr)
    have := Reps.snoc (Reps.none (d.M W base (fun k => ok k ∧ some k ≠ v.ownBlock)) d.sz) hp' (d.K_len (d.K_of_M hp'))
    simpa using this
end Kd
end Go.Proofs.YtabjambabnbmnaaW.PrintWords
