/- The row of Lsas, out of its plain statement (Pure.Lsas) and the printed contract. -/
import Derived.Test.YtmcajcomoegkdaaRows
import Derived.Test.YtmcajcomoegkdaaQ7x103
import Derived.Test.YtmcajcomoegkdaaZ7x0
import Derived.Test.YtmcajcomoegkdaaPureLsas
import Derived.WalkKit
import Derived.ProofKit
import Derived.OpenShut
import Derived.ShutString
import Derived.ChangeOld
import Derived.Below
import Derived.SizedLaws
namespace Go.Proofs.Ytmcajcomoegkdaa.lsas
open Go.ChangeShapes Go.WideShapes Go.ChangeAt Go.RowKit Go.Joins Go.Deep Go.Proofs.YtmcajcomoegkdaaW.PrintWords Go.Proofs.Ytmcajcomoegkdaa.Opn Go.Proofs.Ytmcajcomoegkdaa.O7 Go.Proofs.Ytmcajcomoegkdaa.Q7
open Go.ChangeMaps (open_string shut_string)
set_option linter.unusedVariables false
theorem own : ownKnob Try.prog.godebug = none := by kernel_rfl
theorem laidOut : laidOutB Try.prog = true := by kernel_rfl
set_option maxRecDepth 100000 in
theorem lifted (os : Os) (started : os.Started) (H : Type) (enc : TypeId × Value → H) :
    ReturnsInHanded {} Try.checked os 3 .any (Rows.lsasSpec.pre6 enc Try.prog Try.f3 Rows.lsasRow.domain false) (Rows.lsasSpec.post enc Try.prog Try.f3 false true false false) := by
  refine returnsInHanded_of_change_sized (C := Try.checked) own started (by kernel_rfl) Try.func3
    (ChangeSpec.witness6 (enc := enc) (C := Try.checked) false ⟨#[], #[.agg #[.int .i64 0, .int .i64 0, .int .i64 0, .slice none 0 0], .string ByteArray.empty, .int .i64 0], []⟩ 12 (by kernel_rfl) (by kernel_rfl) (by kernel_rfl) (by kernel_rfl)) ?_
  intro W base args ds gs before hval0 hW hcnd hsz0 _
  have hsz : (DataW.weightsEach Try.prog (Try.f3.params.toList ++ Rows.lsasSpec.plain.varTypes Try.prog) (ds ++ gs)).all (· ≤ reachBytes) = true := hsz0
  have hval : ∀ (j : Nat) t v, Try.f3.params[j]? = some t → args[j]? = some v → Value.okWide Try.prog W .any base t v := hval0
  have hW' := hW
  obtain ⟨p, q, hA0, hV, rfl, hfz, hnd⟩ := hW
  have hA : DataW.TrodAll enc Try.prog W 0 (fun _ => true) true Try.f3.params.toList args.toList ds p := hA0
  rw [Try.params3] at hA hval hsz
  obtain ⟨v0, vs0, d0, ds0, p0, q0, hargs, rfl, rfl, h0, r0⟩ := trodAll_cons hA
  obtain ⟨v1, vs1, d1, ds1, p1, q1, rfl, rfl, rfl, h1, r1⟩ := trodAll_cons r0
  obtain ⟨v2, vs2, d2, ds2, p2, q2, rfl, rfl, rfl, h2, r2⟩ := trodAll_cons r1
  obtain ⟨rfl, rfl, rfl⟩ := trodAll_nil r2
  obtain rfl : args = #[v0, v1, v2] := by cases args; simp_all
  obtain ⟨rfl, rfl⟩ := trodVars_none hV
  have k0 := h0
  have lt0 : ∀ x ∈ p0, x.block < W.heap.size := by obtain ⟨m, hm⟩ := k0; exact DataW.trod_lt m _ _ _ hm
  obtain ⟨v0_0, v0_1, v0_2, v0_3, y0_0, y0_1, y0_2, y0_3, m0, rfl, rfl, rfl, g0_0, g0_1, g0_2, g0_3⟩ := open_agg4 Try.underlying24 (by kernel_rfl) (by kernel_rfl) (hval 0 24 v0 rfl rfl) h0
  obtain ⟨a0_0, e0_0, w0_0⟩ := (opn_int Try.underlying3) g0_0 (wt_field (j := 0) (f := 3) Try.underlying24 (wt_arg hsz (j := 0) (t := 24) rfl rfl) rfl rfl)
  obtain rfl : v0_0 = Value.int .i64 a0_0 := by have z : [v0_0] = [Value.int .i64 a0_0] := e0_0; simpa using z
  obtain ⟨a0_1, e0_1, w0_1⟩ := (opn_int Try.underlying3) g0_1 (wt_field (j := 1) (f := 3) Try.underlying24 (wt_arg hsz (j := 0) (t := 24) rfl rfl) rfl rfl)
  obtain rfl : v0_1 = Value.int .i64 a0_1 := by have z : [v0_1] = [Value.int .i64 a0_1] := e0_1; simpa using z
  obtain ⟨a0_2, e0_2, w0_2⟩ := (opn_int Try.underlying3) g0_2 (wt_field (j := 2) (f := 3) Try.underlying24 (wt_arg hsz (j := 0) (t := 24) rfl rfl) rfl rfl)
  obtain rfl : v0_2 = Value.int .i64 a0_2 := by have z : [v0_2] = [Value.int .i64 a0_2] := e0_2; simpa using z
  obtain ⟨l0_3, ⟨A0_3, c0_3, e0_3, hc0_3, hr0_3⟩, w0_3⟩ := (opn_slice (d := k49) (B := 16) Try.underlying22 (by kernel_rfl) (by kernel_rfl) opn49) g0_3 (wt_field (j := 3) (f := 22) Try.underlying24 (wt_arg hsz (j := 0) (t := 24) rfl rfl) rfl rfl)
  obtain rfl : v0_3 = Value.slice A0_3 l0_3.length c0_3 := by simpa using e0_3
  obtain ⟨a1, rfl, rfl, rfl, y1⟩ := open_string Try.underlying9 (hval 1 9 v1 rfl rfl) h1
  have w1 : a1.size ≤ 140737488351232 := by
    have z := sized_string hsz (j := 1) (t := 9) rfl rfl
    rw [Array.length_toList] at z
    exact z
  obtain ⟨a2, rfl, rfl, rfl, w2⟩ := open_int Try.underlying3 (hval 2 3 v2 rfl rfl) h2
  clear hA0 hval0 hsz0 hsz
  obtain ⟨k, hP⟩ := Pure.Lsas a0_0 a0_1 a0_2 l0_3 a1 a2 w0_0 w0_1 w0_2 w0_3 w1 w2
  refine (Q7.watchwordlaw7_Lsas.calls k a0_0 a0_1 a0_2 A0_3 c0_3 l0_3 a1 a2 true W hr0_3 hc0_3 hP rfl).mono fun e W' ⟨he, bel0⟩ => ?_
  have bel : Below W.heap.size W W' := bel0
  subst he
  exact ⟨_, rfl, _, _, _, [], _, [], hW', trodAll_mk1 (shut_bool Try.underlying4 _), (trodAll_cons_mk (Below.trod laidOut (by kernel_rfl) (of_decide_eq_true (by kernel_rfl)) k0 bel lt0) (trodAll_cons_mk (shut_string Try.underlying9 y1) (trodAll_cons_mk (shut_int Try.underlying3 w2) trodAll_mk0))), rfl, bel.frame _, fun h => by cases h⟩
theorem over : Rows.lsasRow.holds Try.pinned (OpenSpec.ofChange Rows.lsasSpec) :=
  OpenClaim.holds_of_wide 3 Try.f3 rfl rfl rfl rfl rfl rfl rfl ⟨rfl, rfl, rfl, rfl, rfl⟩ rfl rfl rfl rfl rfl (by kernel_rfl) Try.func3 (by kernel_rfl)
    (of_decide_eq_true (by kernel_rfl)) (by unfold Func.isWrapper; first | (rw [if_pos (by decide +kernel)]; kernel_rfl) | (rw [if_neg (by decide +kernel)]; exact ⟨rfl, rfl⟩))
    (fun os started H enc _ => lifted os started H enc)
theorem proved : Rows.LsasSaid := over
#print axioms proved
end Go.Proofs.Ytmcajcomoegkdaa.lsas
namespace Go.Proofs.Ytmcajcomoegkdaa
/-- The row, under a short name, for the claim. -/
theorem lsas_holds : Rows.LsasSaid := lsas.proved
end Go.Proofs.Ytmcajcomoegkdaa
