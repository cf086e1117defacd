/- AckForms: for all two numbers, a head that may not be is refused by ack.Put with no bytes and by ack.May, and each of the texts that are none by ack.Get; no condition beyond the row's own. -/
import Derived.Test.YtdmnfmkeifjmlaaQ11x6
import Derived.Test.YtdmnfmkeifjmlaaL11
namespace Go.Proofs.Ytdmnfmkeifjmlaa.Pure
open Go.RowKit Go.Proofs.YtdmnfmkeifjmlaaW.PrintWords Go.Proofs.YtdmnfmkeifjmlaaW.PrintLast Go.Proofs.YtdmnfmkeifjmlaaW.PrintMore Go.Proofs.Ytdmnfmkeifjmlaa.Base Go.Proofs.Ytdmnfmkeifjmlaa.Q11 Go.Proofs.Ytdmnfmkeifjmlaa.L11
set_option linter.unusedVariables false

def af_good : ByteArray := strOfNums (ackBytes [(⟨2, 5, 3, 7⟩ : S40)])
theorem af_size : af_good.size = 9 := by decide +kernel
def af_texts : List ByteArray := [(⟨#[]⟩ : ByteArray), af_good.extract 0 8, af_good ++ (⟨#[120]⟩ : ByteArray), (⟨#[0]⟩ : ByteArray) ++ (af_good.extract 1 af_good.size), (⟨#[2]⟩ : ByteArray) ++ (af_good.extract 1 af_good.size), (⟨#[1, 0]⟩ : ByteArray) ++ (af_good.extract 2 af_good.size), (⟨#[1, 5]⟩ : ByteArray) ++ (af_good.extract 2 af_good.size), (⟨#[1, 2, 61]⟩ : ByteArray) ++ (af_good.extract 3 af_good.size), ((af_good.extract 0 3) ++ (⟨#[128]⟩ : ByteArray)) ++ (af_good.extract 4 af_good.size), ((af_good.extract 0 3) ++ (⟨#[0, 0, 0, 0]⟩ : ByteArray)) ++ (af_good.extract 7 af_good.size), ((⟨#[2]⟩ : ByteArray) ++ (af_good.extract 1 af_good.size)) ++ (af_good.extract 1 af_good.size)]
theorem af_none : ∀ b : Fin 11, (getAck (B (rdOf ByteArray.empty af_texts (b.val : Int)))).2 = 1100 ∧ (rdOf ByteArray.empty af_texts (b.val : Int)).size ≤ 100 := by decide +kernel
theorem af_zero : getAck (B (⟨#[0]⟩ : ByteArray)) = ([], 0) := by decide +kernel
theorem af_mod (a : Int) (m : Int) (hm : 1 ≤ m ∧ m ≤ 100) : 0 ≤ wrap64 (Int.tmod (IntKind.u64.wrap a) m) ∧ wrap64 (Int.tmod (IntKind.u64.wrap a) m) < m := by
  have hw : IntKind.u64.wrap a = a % 18446744073709551616 := by simp [IntKind.wrap, IntKind.bits, IntKind.signed]
  have h1 := Int.emod_nonneg (a % 18446744073709551616) (show m ≠ 0 by omega)
  have h2 := Int.emod_lt_of_pos (a % 18446744073709551616) (show 0 < m by omega)
  rw [hw, Int.tmod_eq_emod_of_nonneg (by omega), wrap_id (by omega) (by omega)]
  exact ⟨h1, h2⟩
theorem af_bad {r s g m : Int} (h : ¬ AckOk r s g m) : heads 0 [(⟨r, s, g, m⟩ : S40)] = false := by
  unfold heads; rw [if_neg (fun hh => h hh.1)]
theorem af_two : heads 0 [(⟨2, 5, 3, 7⟩ : S40), (⟨2, 5, 3, 7⟩ : S40)] = false := by decide +kernel
theorem af_one : heads 0 [(⟨2, 5, 3, 7⟩ : S40)] = true := by decide +kernel
theorem af_j0 (k : Nat) (hk : 30 ≤ k) (a : Int) {r s g m : Int} (h : ¬ AckOk r s g m) : watchwordlaw11_AckForms.j0 (k + 2) a 2 5 3 7 r s g m = some true := by
  have hs := af_size
  have l1 : (⟨#[120]⟩ : ByteArray).size = 1 := rfl
  have l4 : (⟨#[0, 0, 0, 0]⟩ : ByteArray).size = 4 := rfl
  have l1b : (⟨#[2]⟩ : ByteArray).size = 1 := rfl
  have l1c : (⟨#[128]⟩ : ByteArray).size = 1 := rfl
  simp only [watchwordlaw11_AckForms.j0]
  rw [ack_Put_f (by simp only [List.length_cons, List.length_nil]; omega) (by simp only [List.length_cons, List.length_nil]; omega), ack_Put_f (by simp only [List.length_cons, List.length_nil]; omega) (by simp only [List.length_cons, List.length_nil]; omega), af_bad h, af_one]
  simp only [Option.bind_some, watchwordlaw0_Num.f, if_true, Bool.false_eq_true, if_false]
  rw [show strOfNums (ackBytes [(⟨2, 5, 3, 7⟩ : S40)]) = af_good from rfl, show ((af_good.size : Int) != 9) = false by rw [hs]; decide]
  simp only [watchwordlaw11_AckForms.j1]
  rw [if_neg (by decide)]
  repeat rw [if_pos (by first | omega | decide | (simp only [ByteArray.size_append, ByteArray.size_extract, hs, l1, l4, l1b, l1c]; omega))]
  simp only [Option.bind_some]
  have m1 := af_mod a 11 (by omega)
  generalize wrap64 (Int.tmod (IntKind.u64.wrap a) 11) = j at m1 ⊢
  rw [if_pos m1.1]
  change (if j < (af_texts.length : Int) then (ack_Get.f k (rdOf ByteArray.empty af_texts j)).bind _ else none) = some true
  rw [if_pos (show j < (af_texts.length : Int) from m1.2)]
  obtain ⟨h7, h8⟩ := af_none ⟨j.toNat, by omega⟩
  rw [show (((⟨j.toNat, by omega⟩ : Fin 11).val : Nat) : Int) = j from by simp; omega] at h7 h8
  rw [ack_Get_f (s := rdOf ByteArray.empty af_texts j) (by omega) hk, Option.bind_some, ack_Get_f (show (⟨#[0]⟩ : ByteArray).size ≤ 140737488351232 from by decide) hk, af_zero]
  rw [ack_May_f (by simp only [List.length_cons, List.length_nil]; omega) (by simp only [List.length_cons, List.length_nil]; omega), ack_May_f (by simp only [List.length_cons, List.length_nil]; omega) (by simp only [List.length_cons, List.length_nil]; omega), af_bad h, af_two]
  simp only [Option.bind_some, h7, Bool.false_eq_true, if_false, if_true, watchwordlaw0_Num.f]
  rw [if_pos empty_list]
  rfl
theorem AckForms : watchwordlaw11_AckForms.Pure := by
  intro a0 a1 h0 h1
  refine ⟨102, ?_⟩
  simp only [watchwordlaw11_AckForms.f, awake_ok (show 100 ≤ 102 by decide), Option.bind_some, if_true, and1023]
  obtain ⟨d, hd, d0, d1⟩ : ∃ d, d = 1 + a1 % 1024 ∧ 1 ≤ d ∧ d ≤ 1024 := ⟨_, rfl, by omega, by omega⟩
  rw [wrap_id (x := 1 + a1 % 1024) (by omega) (by omega), ← hd, wrap_id (x := -d) (by omega) (by omega), wrap_id (x := 1 - d) (by omega) (by omega), wrap_id (x := 4 + d) (by omega) (by omega), wrap_id (x := 2147483647 + d) (by omega) (by omega), wrap_id (x := 60 + d) (by omega) (by omega), wrap_id (x := 65535 + d) (by omega) (by omega)]
  generalize Int.tmod (IntKind.u64.wrap a0) 9 = i
  by_cases c0 : i = 0
  · rw [if_pos c0]; exact af_j0 100 (by decide) a0 (by unfold AckOk; omega)
  rw [if_neg c0]
  by_cases c1 : i = 1
  · rw [if_pos c1]; exact af_j0 100 (by decide) a0 (by unfold AckOk; omega)
  rw [if_neg c1]
  by_cases c2 : i = 2
  · rw [if_pos c2]; exact af_j0 100 (by decide) a0 (by unfold AckOk; omega)
  rw [if_neg c2]
  by_cases c3 : i = 3
  · rw [if_pos c3]; exact af_j0 100 (by decide) a0 (by unfold AckOk; omega)
  rw [if_neg c3]
  by_cases c4 : i = 4
  · rw [if_pos c4]; exact af_j0 100 (by decide) a0 (by unfold AckOk; omega)
  rw [if_neg c4]
  by_cases c5 : i = 5
  · rw [if_pos c5]; exact af_j0 100 (by decide) a0 (by unfold AckOk; omega)
  rw [if_neg c5]
  by_cases c6 : i = 6
  · rw [if_pos c6]; exact af_j0 100 (by decide) a0 (by unfold AckOk; omega)
  rw [if_neg c6]
  by_cases c7 : i = 7
  · rw [if_pos c7]; exact af_j0 100 (by decide) a0 (by unfold AckOk; omega)
  rw [if_neg c7]
  exact af_j0 100 (by decide) a0 (by unfold AckOk; omega)

end Go.Proofs.Ytdmnfmkeifjmlaa.Pure
