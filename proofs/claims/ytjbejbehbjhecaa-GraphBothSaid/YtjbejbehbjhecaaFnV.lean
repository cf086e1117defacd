/- A call through a function value that is known: as a call of that function. -/
import Derived.Test.YtjbejbehbjhecaaWLast
import Derived.Test.YtjbejbehbjhecaaWMore
import Derived.Laws.CopyRow
import Derived.Lib.AppendZerosOnto
namespace Go.Proofs.YtjbejbehbjhecaaW.PrintWords
open Go.RowKit Go.Proofs.YtjbejbehbjhecaaW.PrintLast Go.Proofs.YtjbejbehbjhecaaW.PrintMore
set_option linter.unusedVariables false
set_option linter.unusedSimpArgs false
section
variable {P : Program} {ops : Array Oper} {Q : Exit → Act → World → Prop}
theorem runV_ {oi : Oper} {a : Act} {w : World} {f : FuncId} {fn : Func} {as : Array Operand} {ts : Array TypeId} (hf : P.funcs[f]? = some fn) (hname : (fn.name == "runtime.NumGoroutine") = false) (hb : fn.body.isSome = true) (args : Array Value) {x : Operand}
    (hop : oi.op = .call { callee := .value x, args := as, argTypes := ts }) (hx : a.eval x = .func (.func f) #[] #[]) (hargs : as.map a.eval = args) : (execOp a.eval oi).run P w = .ok (.enter f args) w := by
  have he := enters_ hf hname hb args w
  unfold execOp
  simp [hop, resolve, hx, Deferred.ofValue, invoke, hargs, he]
theorem goesV_ {oi : Oper} {N : Option Tmp} {a : Act} {w : World} {K : Act → World → Prop} {f : FuncId} {fn : Func} {as : Array Operand} {ts : Array TypeId} (hf : P.funcs[f]? = some fn) (hname : (fn.name == "runtime.NumGoroutine") = false) (hb : fn.body.isSome = true) (args : Array Value)
    (hw : Region.wanted oi (yielded ops a.tmps) = true) (hN : oi.dst = N) {x : Operand} (hop : oi.op = .call { callee := .value x, args := as, argTypes := ts }) (hx : a.eval x = .func (.func f) #[] #[]) (hargs : as.map a.eval = args)
    (h : Calls P f args w fun e w' => ∃ v, e = .returned v ∧ K (a.put N v) w') : if Region.wanted oi (yielded ops a.tmps) = true then Oper.wp P oi a w K Q else K (a.put N undef) w :=
  call_ f args hw hN (runV_ hf hname hb args hop hx hargs) h
theorem goesVL_ {rest : List Oper} {oi : Oper} {a : Act} {w : World} (N : Option Tmp) (hd : oi.dst = N) (hg : oi.guard = none) {f : FuncId} {fn : Func} {as : Array Operand} {ts : Array TypeId} (hf : P.funcs[f]? = some fn) (hname : (fn.name == "runtime.NumGoroutine") = false) (hb : fn.body.isSome = true) (args : Array Value) {x : Operand}
    (hop : oi.op = .call { callee := .value x, args := as, argTypes := ts }) (hx : a.eval x = .func (.func f) #[] #[]) (hargs : as.map a.eval = args)
    (h : Calls P f args w fun e w' => ∃ v, e = .returned v ∧ wpList P ops Q rest (a.put N v) w') : wpList P ops Q (oi :: rest) a w := by
  refine wpList_plain hg fun K hK => ?_
  have hrun := runV_ (w := w) hf hname hb args hop hx hargs
  unfold Oper.wp
  rw [hrun, Oper.upon_enter]
  refine h.mono fun e w'' hh => ?_
  obtain ⟨v, rfl, hk⟩ := hh
  subst hd
  exact hK _ _ hk
end
namespace Kd
theorem R_inserted {α : Type} {d : Kd α} {e base : Nat} {ok okp : Nat → Prop} {W w1 : World} {v v1 : Value} {xs : List α} {p : α} {inner cs : List Value} {i : Nat} (hi : i ≤ xs.length) (h0 : ∀ k, v.ownBlock = some k → ok k) (hr : Reps (d.M W base (fun k => ok k ∧ some k ≠ v.ownBlock)) d.sz xs inner) (hp : d.M W base okp p cs) (hokp : ∀ k, okp k → ok k ∧ some k ≠ v.ownBlock) (hfresh : ∀ k, W.heap.size ≤ k → ok k)
    (hown : w1.ownsRow base e d.sz v1 (xs.length + 1) (inner.take (i * d.sz) ++ cs ++ inner.drop (i * d.sz))) (hg : W.grownBy w1 v.ownBlock) (hat : v1.ownBlock = v.ownBlock ∨ v1.ownBlock = some W.heap.size) : d.R e w1 base ok v1 (xs.take i ++ [p] ++ xs.drop i) := by
  have hat' : v1.ownBlock = v.ownBlock ∨ ∃ b, v1.ownBlock = some b ∧ W.heap.size ≤ b := hat.imp_right fun h => ⟨_, h, Nat.le_refl _⟩
  have hl : (xs.take i ++ [p] ++ xs.drop i).length = xs.length + 1 := by
    simp only [List.length_append, List.length_take, List.length_drop, List.length_singleton]; omega
  have hp' : d.M W base (fun k => ok k ∧ some k ≠ v.ownBlock) p cs := d.M_mono hokp hp
  refine ⟨fun k hk => ?_, _, by rw [hl]; exact hown, ?_⟩
  · rcases hat with hat | hat
    · exact h0 k (hat ▸ hk)
    · rw [hat] at hk; injection hk with hk; exact hfresh k (by omega)
  · refine Reps.imp_ (R := d.M W base (fun k => ok k ∧ some k ≠ v.ownBlock)) ?_ (fun _ _ h => M_after h hg hat')
    refine reps_append (reps_append (reps_take hr hi) ?_) (reps_drop hr)
    have := Reps.snoc (Reps.none (d.M W base (fun k => ok k ∧ some k ≠ v.ownBlock)) d.sz) hp' (d.K_len (d.K_of_M hp'))
    simpa using this
/-- 'clear(xs[i:])' over a row of the call's own: the row, cut to i, is as it was. -/
theorem R_clear {P : Program} {α : Type} {d : Kd α} {t e : TypeId} {base n c i : Nat} {ok : Nat → Prop} {W : World} {A : Option Addr} {xs : List α} (z : Value) (ht : P.underlying t = some (.slice e)) (hz : ∀ w, (zeroValue e).run P w = .ok z w) (hzs : z.cells.size = d.sz) (hs0 : 0 < d.sz) (hz1 : ∀ u ∈ z.cells.toList, u.oneCell' = true)
    (h : d.R e W base ok (.slice A n c) xs) (hi : i ≤ n) :
    ∃ w1, (∀ ty, (Builtin.clear_ #[t] ty #[.slice (if c = i then A else A.map (·.add (i * d.sz))) (n - i) (c - i)]).run P W = .ok (.tuple #[]) w1) ∧ W.grownBy w1 (Value.slice A n c).ownBlock ∧ d.R e w1 base ok (.slice A i c) (xs.take i) := by
  have hR := h
  obtain ⟨hok, inner, hown, hr⟩ := h
  have hn : n = xs.length := (R_reads' hR).1
  by_cases h0 : n - i = 0
  · have hin : i = n := by omega
    subst hin
    refine ⟨W, fun ty => ?_, ⟨rfl, rfl, rfl, Nat.le_refl _, fun _ _ _ => rfl⟩, ?_⟩
    · rw [h0]
      generalize (if c = i then A else A.map (·.add (i * d.sz))) = A'
      cases A' <;> simp [Builtin.clear_, run_underlying ht]
    · rw [List.take_of_length_le (by omega)]; exact hR
  · rcases hown.2 with ⟨he, he0⟩ | ⟨g, cap, cur, he, hbg, hg, hnc, hcm, hcs, htake⟩
    · injection he with h1 h2 h3; omega
    · injection he with h1 h2 h3
      subst h1; subst h3
      have hlz : (Builtin.zeroCells z.cells (n - i)).toList.length = (n - i) * d.sz := by rw [Array.length_toList, size_zeroCells, hzs]
      have hci : c ≠ i := by omega
      have hmul : i * d.sz + (n - i) * d.sz = n * d.sz := by rw [← Nat.add_mul]; congr 1; omega
      have hmc : n * d.sz ≤ c * d.sz := Nat.mul_le_mul_right _ (by omega)
      have hil : inner.length = n * d.sz := by rw [hown.1, hn]
      have hz1' : ∀ v ∈ (Builtin.zeroCells z.cells (n - i)).toList, v.oneCell' = true := by
        intro v hv
        have hv' : v ∈ Builtin.zeroCells z.cells (n - i) := by simpa using hv
        simp only [Builtin.zeroCells, Array.mem_map] at hv'
        obtain ⟨q, _, rfl⟩ := hv'
        have hlt : q % z.cells.size < z.cells.size := Nat.mod_lt _ (by rw [hzs]; exact hs0)
        rw [getElem!_pos z.cells _ hlt]
        exact hz1 _ (by simp)
      obtain ⟨X, hX⟩ : ∃ X : Array Value, X = (cur.toList.take (i * d.sz) ++ (Builtin.zeroCells z.cells (n - i)).toList ++ cur.toList.drop (i * d.sz + (Builtin.zeroCells z.cells (n - i)).toList.length)).toArray := ⟨_, rfl⟩
      have hst := run_storeCells_at P g (i * d.sz) e (Builtin.zeroCells z.cells (n - i)).toList 0 cur W hg (by rw [hlz, hcs]; omega) hz1'
      simp only [Nat.add_zero] at hst
      rw [← hX] at hst
      have hcl : cur.toList.length = c * d.sz := by simpa using hcs
      refine ⟨W.setRow g X, fun ty => ?_, ⟨rfl, rfl, rfl, by simp [World.setRow], fun k hk hne => setRow_other W g k X (fun e_ => hne (by rw [e_]; rfl))⟩, ?_⟩
      · rw [if_neg hci]
        obtain ⟨m, hm⟩ : ∃ m, n - i = m + 1 := ⟨n - i - 1, by omega⟩
        have ha : (⟨g, 0, none⟩ : Addr).add (i * d.sz) = ⟨g, i * d.sz, none⟩ := add_plain g _
        simp only [Option.map_some, ha]
        rw [hm] at hst ⊢
        simp [Builtin.clear_, run_underlying ht, hz, hst]
      · have hgr : W.grownBy (W.setRow g X) (some g) := ⟨rfl, rfl, rfl, by simp [World.setRow], fun k hk hne => setRow_other W g k X (fun e_ => hne (by rw [e_]))⟩
        have hti : (xs.take i).length = i := by rw [List.length_take]; omega
        refine ⟨hok, inner.take (i * d.sz), ⟨by rw [List.length_take, hil, hti]; omega, .inr ⟨g, c, X, by rw [hti], hbg, setRow_heap W g cur X e _ hg, by omega, hcm, ?_, ?_⟩⟩, ?_⟩
        · rw [hX]; simp only [List.size_toArray, List.length_append, List.length_take, List.length_drop, hcl, hlz]; omega
        · rw [hti, hX, List.toList_toArray, List.append_assoc, List.take_append_of_le_length (by rw [List.length_take, hcl]; omega), List.take_take, Nat.min_self, ← htake, List.take_take, Nat.min_eq_left (by rw [← hn]; omega)]
        · exact (reps_take hr (by omega)).imp_ (fun _ _ hq => M_grown hq hgr (fun k hk => hk.2))
end Kd
section
variable {P : Program} {ops : Array Oper} {Q : Exit → Act → World → Prop}
theorem clear_event {W w1 : World} {rest : List Oper} {o : Oper} {a : Act} (hgd : o.guard = none) (s : Operand) (t : TypeId) (ho : o.op = .call { callee := .builtin .clear, args := #[s], argTypes := #[t] }) (hN : o.dst = none) (v : Value) (hs : a.eval s = v) {u : Value}
    (hrun : (Builtin.clear_ #[t] o.type #[v]).run P W = .ok u w1) (h : ∀ w', w' = w1 → wpList P ops Q rest a w') : wpList P ops Q (o :: rest) a W :=
  wpList_plain hgd fun K hK => by
    unfold Oper.wp execOp
    simp only [ho, resolve, invoke, builtin, Sem.run_bind, Sem.run_pure, Result.andThen_ok, List.map_toArray, List.map_cons, List.map_nil, hs, hrun]
    have h1 := hK _ _ (h _ rfl)
    show K (a.put o.dst u) w1
    rw [hN]
    exact h1
end
end Go.Proofs.YtjbejbehbjhecaaW.PrintWords
