/- The row of Hellos for arguments of a small bulk, out of its plain statement (Pure.Hellos) and the printed contract. -/
import Derived.Test.YtkfnbnfdcfcfpaaRows
import Derived.Test.YtkfnbnfdcfcfpaaQ9ax107
import Derived.Test.YtkfnbnfdcfcfpaaO9a
import Derived.Test.YtkfnbnfdcfcfpaaPureHellos
import Derived.WalkKit
import Derived.ProofKit
import Derived.OpenShut
import Derived.ShutString
import Derived.ChangeOld
import Derived.Below
import Derived.SizedLaws
import Derived.JoinedCond
import Derived.Deep.CondSized
namespace Go.Proofs.Ytkfnbnfdcfcfpaa.hellos
open Go.ChangeShapes Go.WideShapes Go.ChangeAt Go.RowKit Go.Joins Go.Deep Go.Proofs.YtkfnbnfdcfcfpaaW.PrintWords Go.Proofs.Ytkfnbnfdcfcfpaa.Opn Go.Proofs.Ytkfnbnfdcfcfpaa.O9a Go.Proofs.Ytkfnbnfdcfcfpaa.Q9a
open Go.ChangeMaps (open_string shut_string)
set_option linter.unusedVariables false
theorem own : ownKnob Try.prog.godebug = none := by kernel_rfl
theorem laidOut : laidOutB Try.prog = true := by kernel_rfl
theorem bulk_part {H : Type} {d : DataW H} {l : List (DataW H)} (h : d ∈ l) : Rows.uptoBulk d ≤ Rows.uptoBulkAll l := by
  induction l with
  | nil => cases h
  | cons x r ih =>
    simp only [Rows.uptoBulkAll]
    cases List.mem_cons.1 h with
    | inl e => subst e; omega
    | inr e => have := ih e; omega
theorem bulk_one {H : Type} (d : DataW H) : 1 ≤ Rows.uptoBulk d := by
  cases d with
  | lit l => cases l <;> simp [Rows.uptoBulk]
  | nil => simp [Rows.uptoBulk]
  | ptr d => simp [Rows.uptoBulk]
  | slice elems spare => simp [Rows.uptoBulk]
  | agg parts => simp [Rows.uptoBulk]
  | iface t d => simp [Rows.uptoBulk]
  | map entries => simp [Rows.uptoBulk]
  | held h => simp [Rows.uptoBulk]
theorem bulk_length {H : Type} (l : List (DataW H)) : l.length ≤ Rows.uptoBulkAll l := by
  induction l with
  | nil => simp [Rows.uptoBulkAll]
  | cons x r ih => have := bulk_one x; simp only [Rows.uptoBulkAll, List.length_cons]; omega
theorem bulk_slice {H : Type} (d : DataW H) : sliceLen d ≤ Rows.uptoBulk d := by
  cases d <;> simp only [sliceLen, Rows.uptoBulk] <;> first | omega | (rename_i e s; have := bulk_length e; omega)
set_option maxRecDepth 100000 in
theorem lifted (os : Os) (started : os.Started) (H : Type) (enc : TypeId × Value → H) (F : Stop.Interp) :
    ReturnsInHanded {} Try.checked os 7 .any ((Rows.OpenSpec.upto Rows.hellosSpec).pre6 enc Try.prog Try.f7 Rows.hellosUptoRow.domain false) (((Rows.OpenSpec.upto Rows.hellosSpec).at F).post enc Try.prog Try.f7 false true false false) := by
  refine returnsInHanded_of_cond_sized (C := Try.checked) (s := (Rows.OpenSpec.upto Rows.hellosSpec)) (k := Rows.uptoSmall) rfl own started (by kernel_rfl) Try.func7
    (OpenSpec.witness (enc := enc) (C := Try.checked) (s := (Rows.OpenSpec.upto Rows.hellosSpec)) (k := Rows.uptoSmall) rfl false ⟨#[], #[.slice none 0 0, .string ByteArray.empty], []⟩ 12 (by kernel_rfl) (by kernel_rfl) (by kernel_rfl) (x := ([.nil, .lit (.string [])], [], [])) (by kernel_rfl) rfl (by kernel_rfl)) ?_
  intro W base args ds gs before hval0 hW hcnd hk0 hsz0 _
  have hk1 : Rows.uptoSmall H (ds ++ gs) = true := hk0
  have hk : Rows.uptoBulkAll (ds ++ gs) ≤ 1048576 := by
    simp only [Rows.uptoSmall, decide_eq_true_eq] at hk1
    exact hk1
  have hsz : (DataW.weightsEach Try.prog (Try.f7.params.toList ++ (Rows.OpenSpec.upto Rows.hellosSpec).bare.plain.varTypes Try.prog) (ds ++ gs)).all (· ≤ reachBytes) = true := hsz0
  have hval : ∀ (j : Nat) t v, Try.f7.params[j]? = some t → args[j]? = some v → Value.okWide Try.prog W .any base t v := hval0
  have hW' := hW
  obtain ⟨p, q, hA0, hV, rfl, hfz, hnd⟩ := hW
  have hA : DataW.TrodAll enc Try.prog W 0 (fun _ => true) true Try.f7.params.toList args.toList ds p := hA0
  rw [Try.params7] at hA hval hsz
  obtain ⟨v0, vs0, d0, ds0, p0, q0, hargs, rfl, rfl, h0, r0⟩ := trodAll_cons hA
  obtain ⟨v1, vs1, d1, ds1, p1, q1, rfl, rfl, rfl, h1, r1⟩ := trodAll_cons r0
  obtain ⟨rfl, rfl, rfl⟩ := trodAll_nil r1
  obtain rfl : args = #[v0, v1] := by cases args; simp_all
  obtain ⟨rfl, rfl⟩ := trodVars_none hV
  have k0 := h0
  have lt0 : ∀ x ∈ p0, x.block < W.heap.size := by obtain ⟨m, hm⟩ := k0; exact DataW.trod_lt m _ _ _ hm
  have sl0 := fun a l c (e : v0 = Value.slice a l c) => sliceLen_Trod (len := l) (a := a) (cap := c) Try.underlying34 (e ▸ h0)
  obtain ⟨B0, n0, c0, rfl⟩ := okWide_slice Try.underlying34 (hval 0 34 v0 rfl rfl)
  obtain ⟨l0, w0, e0, hr0, hc0⟩ : ∃ l, (l.length * 8 ≤ 140737488351232 ∧ l.length ≤ maxLen ∧ ∀ y ∈ l, (Lit.int .i64 y).wf = true) ∧ n0 = l.length ∧ Kd.C (Kd.int .i64) W B0 l.length l ∧ l.length ≤ c0 := by
    obtain ⟨fuel, hf⟩ := h0
    have hf' : DataW.trod enc Try.prog W 0 (fun _ => true) true fuel 34 [Value.slice B0 n0 c0] = some (d0, p0) := by simpa [Value.cells] using hf
    obtain ⟨l, ⟨A', c', e, lc, hC⟩, hR⟩ := (opn_slice (d := (Kd.int .i64)) (B := 8) Try.underlying34 (by kernel_rfl) (by kernel_rfl) (opn_int Try.underlying3)) hf' (wt_arg hsz (j := 0) (t := 34) rfl rfl)
    simp only [List.cons.injEq, Value.slice.injEq, and_true] at e
    obtain ⟨rfl, rfl, rfl⟩ := e
    exact ⟨l, hR, rfl, hC, lc⟩
  subst e0
  have u0 : l0.length ≤ 1048576 := by
    have z := Nat.le_trans (bulk_part (l := _ ++ _) (List.mem_append_left _ (List.mem_of_getElem? (i := 0) rfl) : d0 ∈ _)) hk
    have z2 := bulk_slice d0
    rw [sl0 _ _ _ rfl] at z2
    omega
  obtain ⟨a1, rfl, rfl, rfl, y1⟩ := open_string Try.underlying9 (hval 1 9 v1 rfl rfl) h1
  have w1 : a1.size ≤ 140737488351232 := by
    have z := sized_string hsz (j := 1) (t := 9) rfl rfl
    rw [Array.length_toList] at z
    exact z
  have u1 : a1.size ≤ 1048576 := by
    have z := Nat.le_trans (bulk_part (l := _ ++ _) (List.mem_append_left _ (List.mem_of_getElem? (i := 1) rfl) : (DataW.lit (.string a1.data.toList) : DataW H) ∈ _)) hk
    simp only [Rows.uptoBulk, Array.length_toList] at z
    have e : a1.size = a1.data.size := rfl
    omega
  clear hA0 hval0 hsz0 hsz
  obtain ⟨k, hP⟩ := Pure.Hellos l0 a1 w0 u0 w1 u1
  refine (Q9a.watchwordlaw9_Hellos.calls k B0 c0 l0 a1 true W hr0 hc0 hP rfl).mono fun e W' ⟨he, bel0⟩ => ?_
  have bel : Below W.heap.size W W' := bel0
  subst he
  exact ⟨_, rfl, _, _, _, [], _, [], hW', trodAll_mk1 (shut_bool Try.underlying4 _), (trodAll_cons_mk (Below.trod laidOut (by kernel_rfl) (of_decide_eq_true (by kernel_rfl)) k0 bel lt0) (trodAll_cons_mk (shut_string Try.underlying9 y1) trodAll_mk0)), rfl, bel.frame _, fun h => by cases h⟩
theorem over : Rows.hellosUptoRow.holds Try.pinned (Rows.OpenSpec.upto Rows.hellosSpec) :=
  OpenClaim.holds_of_cond 7 Try.f7 rfl rfl rfl rfl rfl rfl rfl ⟨rfl, rfl, rfl, rfl, rfl⟩ rfl rfl rfl rfl rfl (by kernel_rfl) Try.func7 (by kernel_rfl)
    (of_decide_eq_true (by kernel_rfl)) (by unfold Func.isWrapper; first | (rw [if_pos (by decide +kernel)]; kernel_rfl) | (rw [if_neg (by decide +kernel)]; exact ⟨rfl, rfl⟩))
    (fun os started H enc _ F => lifted os started H enc F)
theorem proved : Rows.HellosUptoSaid := over
#print axioms proved
end Go.Proofs.Ytkfnbnfdcfcfpaa.hellos
namespace Go.Proofs.Ytkfnbnfdcfcfpaa
/-- The row, under a short name, for the claim. -/
theorem hellos_holds : Rows.HellosUptoSaid := hellos.proved
end Go.Proofs.Ytkfnbnfdcfcfpaa
