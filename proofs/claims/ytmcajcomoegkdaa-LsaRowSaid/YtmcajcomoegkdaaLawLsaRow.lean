/- The row of LsaRow, out of its plain statement (Pure.LsaRow) and the printed contract. -/
import Derived.Test.YtmcajcomoegkdaaRows
import Derived.Test.YtmcajcomoegkdaaQ7rx107
import Derived.Test.YtmcajcomoegkdaaO7r
import Derived.Test.YtmcajcomoegkdaaPureLsaRow
import Derived.WalkKit
import Derived.ProofKit
import Derived.OpenShut
import Derived.ShutString
import Derived.ChangeOld
import Derived.Below
import Derived.SizedLaws
namespace Go.Proofs.Ytmcajcomoegkdaa.lsaRow
open Go.ChangeShapes Go.WideShapes Go.ChangeAt Go.RowKit Go.Joins Go.Deep Go.Proofs.YtmcajcomoegkdaaW.PrintWords Go.Proofs.Ytmcajcomoegkdaa.Opn Go.Proofs.Ytmcajcomoegkdaa.O7r Go.Proofs.Ytmcajcomoegkdaa.Q7r
open Go.ChangeMaps (open_string shut_string)
set_option linter.unusedVariables false
theorem own : ownKnob Try.prog.godebug = none := by kernel_rfl
theorem laidOut : laidOutB Try.prog = true := by kernel_rfl
set_option maxRecDepth 100000 in
theorem lifted (os : Os) (started : os.Started) (H : Type) (enc : TypeId × Value → H) :
    ReturnsInHanded {} Try.checked os 7 .any (Rows.lsaRowSpec.pre6 enc Try.prog Try.f7 Rows.lsaRowRow.domain false) (Rows.lsaRowSpec.post enc Try.prog Try.f7 false true false false) := by
  refine returnsInHanded_of_change_sized (C := Try.checked) own started (by kernel_rfl) Try.func7
    (ChangeSpec.witness6 (enc := enc) (C := Try.checked) false ⟨#[], #[.slice none 0 0], []⟩ 12 (by kernel_rfl) (by kernel_rfl) (by kernel_rfl) (by kernel_rfl)) ?_
  intro W base args ds gs before hval0 hW hcnd hsz0 _
  have hsz : (DataW.weightsEach Try.prog (Try.f7.params.toList ++ Rows.lsaRowSpec.plain.varTypes Try.prog) (ds ++ gs)).all (· ≤ reachBytes) = true := hsz0
  have hval : ∀ (j : Nat) t v, Try.f7.params[j]? = some t → args[j]? = some v → Value.okWide Try.prog W .any base t v := hval0
  have hW' := hW
  obtain ⟨p, q, hA0, hV, rfl, hfz, hnd⟩ := hW
  have hA : DataW.TrodAll enc Try.prog W 0 (fun _ => true) true Try.f7.params.toList args.toList ds p := hA0
  rw [Try.params7] at hA hval hsz
  obtain ⟨v0, vs0, d0, ds0, p0, q0, hargs, rfl, rfl, h0, r0⟩ := trodAll_cons hA
  obtain ⟨rfl, rfl, rfl⟩ := trodAll_nil r0
  obtain rfl : args = #[v0] := by cases args; simp_all
  obtain ⟨rfl, rfl⟩ := trodVars_none hV
  have k0 := h0
  have lt0 : ∀ x ∈ p0, x.block < W.heap.size := by obtain ⟨m, hm⟩ := k0; exact DataW.trod_lt m _ _ _ hm
  obtain ⟨B0, n0, c0, rfl⟩ := okWide_slice Try.underlying52 (hval 0 52 v0 rfl rfl)
  obtain ⟨l0, w0, e0, hr0, hc0⟩ : ∃ l, (l.length * 48 ≤ 140737488351232 ∧ l.length ≤ maxLen ∧ ∀ y ∈ l, R24 y) ∧ n0 = l.length ∧ Kd.C k24 W B0 l.length l ∧ l.length ≤ c0 := by
    obtain ⟨fuel, hf⟩ := h0
    have hf' : DataW.trod enc Try.prog W 0 (fun _ => true) true fuel 52 [Value.slice B0 n0 c0] = some (d0, p0) := by simpa [Value.cells] using hf
    obtain ⟨l, ⟨A', c', e, lc, hC⟩, hR⟩ := (opn_slice (d := k24) (B := 48) Try.underlying52 (by kernel_rfl) (by kernel_rfl) opn24) hf' (wt_arg hsz (j := 0) (t := 52) rfl rfl)
    simp only [List.cons.injEq, Value.slice.injEq, and_true] at e
    obtain ⟨rfl, rfl, rfl⟩ := e
    exact ⟨l, hR, rfl, hC, lc⟩
  subst e0
  clear hA0 hval0 hsz0 hsz
  obtain ⟨k, hP⟩ := Pure.LsaRow l0 w0
  refine (Q7r.watchwordlaw7_LsaRow.calls k B0 c0 l0 true W hr0 hc0 hP rfl).mono fun e W' ⟨he, bel0⟩ => ?_
  have bel : Below W.heap.size W W' := bel0
  subst he
  exact ⟨_, rfl, _, _, _, [], _, [], hW', trodAll_mk1 (shut_bool Try.underlying4 _), (trodAll_cons_mk (Below.trod laidOut (by kernel_rfl) (of_decide_eq_true (by kernel_rfl)) k0 bel lt0) trodAll_mk0), rfl, bel.frame _, fun h => by cases h⟩
theorem over : Rows.lsaRowRow.holds Try.pinned (OpenSpec.ofChange Rows.lsaRowSpec) :=
  OpenClaim.holds_of_wide 7 Try.f7 rfl rfl rfl rfl rfl rfl rfl ⟨rfl, rfl, rfl, rfl, rfl⟩ rfl rfl rfl rfl rfl (by kernel_rfl) Try.func7 (by kernel_rfl)
    (of_decide_eq_true (by kernel_rfl)) (by unfold Func.isWrapper; first | (rw [if_pos (by decide +kernel)]; kernel_rfl) | (rw [if_neg (by decide +kernel)]; exact ⟨rfl, rfl⟩))
    (fun os started H enc _ => lifted os started H enc)
theorem proved : Rows.LsaRowSaid := over
#print axioms proved
end Go.Proofs.Ytmcajcomoegkdaa.lsaRow
namespace Go.Proofs.Ytmcajcomoegkdaa
/-- The row, under a short name, for the claim. -/
theorem lsaRow_holds : Rows.LsaRowSaid := lsaRow.proved
end Go.Proofs.Ytmcajcomoegkdaa
