/- The row of PacketUnlike, out of its plain statement (Pure.PacketUnlike) and the printed contract. -/
import Derived.Test.YtbajimbccbckkaaRows
import Derived.Test.YtbajimbccbckkaaQ12x106
import Derived.Test.YtbajimbccbckkaaZ12x4
import Derived.Test.YtbajimbccbckkaaPurePacketUnlike
import Derived.WalkKit
import Derived.ProofKit
import Derived.OpenShut
import Derived.ShutString
import Derived.ChangeOld
import Derived.Below
import Derived.SizedLaws
namespace Go.Proofs.Ytbajimbccbckkaa.packetUnlike
open Go.ChangeShapes Go.WideShapes Go.ChangeAt Go.RowKit Go.Joins Go.Deep Go.Proofs.YtbajimbccbckkaaW.PrintWords Go.Proofs.Ytbajimbccbckkaa.Opn Go.Proofs.Ytbajimbccbckkaa.O12 Go.Proofs.Ytbajimbccbckkaa.Q12
open Go.ChangeMaps (open_string shut_string)
set_option linter.unusedVariables false
theorem own : ownKnob Try.prog.godebug = none := by kernel_rfl
theorem laidOut : laidOutB Try.prog = true := by kernel_rfl
set_option maxRecDepth 100000 in
theorem lifted (os : Os) (started : os.Started) (H : Type) (enc : TypeId × Value → H) :
    ReturnsInHanded {} Try.checked os 6 .any (Rows.packetUnlikeSpec.pre6 enc Try.prog Try.f6 Rows.packetUnlikeRow.domain false) (Rows.packetUnlikeSpec.post enc Try.prog Try.f6 false true false false) := by
  refine returnsInHanded_of_change_sized (C := Try.checked) own started (by kernel_rfl) Try.func6
    (ChangeSpec.witness6 (enc := enc) (C := Try.checked) false ⟨#[], #[.agg #[.int .i64 0, .int .i64 0, .slice none 0 0, .slice none 0 0, .slice none 0 0], .agg #[.int .i64 0, .int .i64 0, .slice none 0 0, .slice none 0 0, .slice none 0 0]], []⟩ 12 (by kernel_rfl) (by kernel_rfl) (by kernel_rfl) (by kernel_rfl)) ?_
  intro W base args ds gs before hval0 hW hcnd hsz0 _
  have hsz : (DataW.weightsEach Try.prog (Try.f6.params.toList ++ Rows.packetUnlikeSpec.plain.varTypes Try.prog) (ds ++ gs)).all (· ≤ reachBytes) = true := hsz0
  have hval : ∀ (j : Nat) t v, Try.f6.params[j]? = some t → args[j]? = some v → Value.okWide Try.prog W .any base t v := hval0
  have hW' := hW
  obtain ⟨p, q, hA0, hV, rfl, hfz, hnd⟩ := hW
  have hA : DataW.TrodAll enc Try.prog W 0 (fun _ => true) true Try.f6.params.toList args.toList ds p := hA0
  rw [Try.params6] at hA hval hsz
  obtain ⟨v0, vs0, d0, ds0, p0, q0, hargs, rfl, rfl, h0, r0⟩ := trodAll_cons hA
  obtain ⟨v1, vs1, d1, ds1, p1, q1, rfl, rfl, rfl, h1, r1⟩ := trodAll_cons r0
  obtain ⟨rfl, rfl, rfl⟩ := trodAll_nil r1
  obtain rfl : args = #[v0, v1] := by cases args; simp_all
  obtain ⟨rfl, rfl⟩ := trodVars_none hV
  have k0 := h0
  have lt0 : ∀ x ∈ p0, x.block < W.heap.size := by obtain ⟨m, hm⟩ := k0; exact DataW.trod_lt m _ _ _ hm
  obtain ⟨v0_0, v0_1, v0_2, v0_3, v0_4, y0_0, y0_1, y0_2, y0_3, y0_4, m0, rfl, rfl, rfl, g0_0, g0_1, g0_2, g0_3, g0_4⟩ := open_agg5 Try.underlying26 (by kernel_rfl) (by kernel_rfl) (hval 0 26 v0 rfl rfl) h0
  obtain ⟨a0_0, e0_0, w0_0⟩ := (opn_int Try.underlying3) g0_0 (wt_field (j := 0) (f := 3) Try.underlying26 (wt_arg hsz (j := 0) (t := 26) rfl rfl) rfl rfl)
  obtain rfl : v0_0 = Value.int .i64 a0_0 := by have z : [v0_0] = [Value.int .i64 a0_0] := e0_0; simpa using z
  obtain ⟨a0_1, e0_1, w0_1⟩ := (opn_int Try.underlying3) g0_1 (wt_field (j := 1) (f := 3) Try.underlying26 (wt_arg hsz (j := 0) (t := 26) rfl rfl) rfl rfl)
  obtain rfl : v0_1 = Value.int .i64 a0_1 := by have z : [v0_1] = [Value.int .i64 a0_1] := e0_1; simpa using z
  obtain ⟨l0_2, ⟨A0_2, c0_2, e0_2, hc0_2, hr0_2⟩, w0_2⟩ := (opn_slice (d := (Kd.int .i64)) (B := 8) Try.underlying22 (by kernel_rfl) (by kernel_rfl) (opn_int Try.underlying3)) g0_2 (wt_field (j := 2) (f := 22) Try.underlying26 (wt_arg hsz (j := 0) (t := 26) rfl rfl) rfl rfl)
  obtain rfl : v0_2 = Value.slice A0_2 l0_2.length c0_2 := by simpa using e0_2
  obtain ⟨l0_3, ⟨A0_3, c0_3, e0_3, hc0_3, hr0_3⟩, w0_3⟩ := (opn_slice (d := k45) (B := 48) Try.underlying23 (by kernel_rfl) (by kernel_rfl) opn45) g0_3 (wt_field (j := 3) (f := 23) Try.underlying26 (wt_arg hsz (j := 0) (t := 26) rfl rfl) rfl rfl)
  obtain rfl : v0_3 = Value.slice A0_3 l0_3.length c0_3 := by simpa using e0_3
  obtain ⟨l0_4, ⟨A0_4, c0_4, e0_4, hc0_4, hr0_4⟩, w0_4⟩ := (opn_slice (d := k47) (B := 32) Try.underlying24 (by kernel_rfl) (by kernel_rfl) opn47) g0_4 (wt_field (j := 4) (f := 24) Try.underlying26 (wt_arg hsz (j := 0) (t := 26) rfl rfl) rfl rfl)
  obtain rfl : v0_4 = Value.slice A0_4 l0_4.length c0_4 := by simpa using e0_4
  have k1 := h1
  have lt1 : ∀ x ∈ p1, x.block < W.heap.size := by obtain ⟨m, hm⟩ := k1; exact DataW.trod_lt m _ _ _ hm
  obtain ⟨v1_0, v1_1, v1_2, v1_3, v1_4, y1_0, y1_1, y1_2, y1_3, y1_4, m1, rfl, rfl, rfl, g1_0, g1_1, g1_2, g1_3, g1_4⟩ := open_agg5 Try.underlying26 (by kernel_rfl) (by kernel_rfl) (hval 1 26 v1 rfl rfl) h1
  obtain ⟨a1_0, e1_0, w1_0⟩ := (opn_int Try.underlying3) g1_0 (wt_field (j := 0) (f := 3) Try.underlying26 (wt_arg hsz (j := 1) (t := 26) rfl rfl) rfl rfl)
  obtain rfl : v1_0 = Value.int .i64 a1_0 := by have z : [v1_0] = [Value.int .i64 a1_0] := e1_0; simpa using z
  obtain ⟨a1_1, e1_1, w1_1⟩ := (opn_int Try.underlying3) g1_1 (wt_field (j := 1) (f := 3) Try.underlying26 (wt_arg hsz (j := 1) (t := 26) rfl rfl) rfl rfl)
  obtain rfl : v1_1 = Value.int .i64 a1_1 := by have z : [v1_1] = [Value.int .i64 a1_1] := e1_1; simpa using z
  obtain ⟨l1_2, ⟨A1_2, c1_2, e1_2, hc1_2, hr1_2⟩, w1_2⟩ := (opn_slice (d := (Kd.int .i64)) (B := 8) Try.underlying22 (by kernel_rfl) (by kernel_rfl) (opn_int Try.underlying3)) g1_2 (wt_field (j := 2) (f := 22) Try.underlying26 (wt_arg hsz (j := 1) (t := 26) rfl rfl) rfl rfl)
  obtain rfl : v1_2 = Value.slice A1_2 l1_2.length c1_2 := by simpa using e1_2
  obtain ⟨l1_3, ⟨A1_3, c1_3, e1_3, hc1_3, hr1_3⟩, w1_3⟩ := (opn_slice (d := k45) (B := 48) Try.underlying23 (by kernel_rfl) (by kernel_rfl) opn45) g1_3 (wt_field (j := 3) (f := 23) Try.underlying26 (wt_arg hsz (j := 1) (t := 26) rfl rfl) rfl rfl)
  obtain rfl : v1_3 = Value.slice A1_3 l1_3.length c1_3 := by simpa using e1_3
  obtain ⟨l1_4, ⟨A1_4, c1_4, e1_4, hc1_4, hr1_4⟩, w1_4⟩ := (opn_slice (d := k47) (B := 32) Try.underlying24 (by kernel_rfl) (by kernel_rfl) opn47) g1_4 (wt_field (j := 4) (f := 24) Try.underlying26 (wt_arg hsz (j := 1) (t := 26) rfl rfl) rfl rfl)
  obtain rfl : v1_4 = Value.slice A1_4 l1_4.length c1_4 := by simpa using e1_4
  clear hA0 hval0 hsz0 hsz
  obtain ⟨k, hP⟩ := Pure.PacketUnlike a0_0 a0_1 l0_2 l0_3 l0_4 a1_0 a1_1 l1_2 l1_3 l1_4 w0_0 w0_1 w0_2 w0_3 w0_4 w1_0 w1_1 w1_2 w1_3 w1_4
  refine (Q12.watchwordlaw12_PacketUnlike.calls k a0_0 a0_1 A0_2 c0_2 l0_2 A0_3 c0_3 l0_3 A0_4 c0_4 l0_4 a1_0 a1_1 A1_2 c1_2 l1_2 A1_3 c1_3 l1_3 A1_4 c1_4 l1_4 true W hr0_2 hc0_2 hr0_3 hc0_3 hr0_4 hc0_4 hr1_2 hc1_2 hr1_3 hc1_3 hr1_4 hc1_4 hP rfl).mono fun e W' ⟨he, bel0⟩ => ?_
  have bel : Below W.heap.size W W' := bel0
  subst he
  exact ⟨_, rfl, _, _, _, [], _, [], hW', trodAll_mk1 (shut_bool Try.underlying4 _), (trodAll_cons_mk (Below.trod laidOut (by kernel_rfl) (of_decide_eq_true (by kernel_rfl)) k0 bel lt0) (trodAll_cons_mk (Below.trod laidOut (by kernel_rfl) (of_decide_eq_true (by kernel_rfl)) k1 bel lt1) trodAll_mk0)), rfl, bel.frame _, fun h => by cases h⟩
theorem over : Rows.packetUnlikeRow.holds Try.pinned (OpenSpec.ofChange Rows.packetUnlikeSpec) :=
  OpenClaim.holds_of_wide 6 Try.f6 rfl rfl rfl rfl rfl rfl rfl ⟨rfl, rfl, rfl, rfl, rfl⟩ rfl rfl rfl rfl rfl (by kernel_rfl) Try.func6 (by kernel_rfl)
    (of_decide_eq_true (by kernel_rfl)) (by unfold Func.isWrapper; first | (rw [if_pos (by decide +kernel)]; kernel_rfl) | (rw [if_neg (by decide +kernel)]; exact ⟨rfl, rfl⟩))
    (fun os started H enc _ => lifted os started H enc)
theorem proved : Rows.PacketUnlikeSaid := over
#print axioms proved
end Go.Proofs.Ytbajimbccbckkaa.packetUnlike
namespace Go.Proofs.Ytbajimbccbckkaa
/-- The row, under a short name, for the claim. -/
theorem packetUnlike_holds : Rows.PacketUnlikeSaid := packetUnlike.proved
end Go.Proofs.Ytbajimbccbckkaa
