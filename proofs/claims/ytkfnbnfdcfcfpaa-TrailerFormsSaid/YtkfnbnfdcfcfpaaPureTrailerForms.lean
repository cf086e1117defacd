/- TrailerForms: for all two numbers, each of the trailers that may not be is refused by trailer.Put with no bytes and by trailer.May, and each of the texts that are none by trailer.Get; no condition beyond the row's own. -/
import Derived.Test.YtkfnbnfdcfcfpaaQ13x9
import Derived.Test.YtkfnbnfdcfcfpaaL13
namespace Go.Proofs.Ytkfnbnfdcfcfpaa.Pure
open Go.RowKit Go.Proofs.YtkfnbnfdcfcfpaaW.PrintWords Go.Proofs.YtkfnbnfdcfcfpaaW.PrintLast Go.Proofs.YtkfnbnfdcfcfpaaW.PrintMore Go.Proofs.Ytkfnbnfdcfcfpaa.Base Go.Proofs.Ytkfnbnfdcfcfpaa.Q13 Go.Proofs.Ytkfnbnfdcfcfpaa.L13
set_option linter.unusedVariables false

theorem tf_mod (a : Int) (m : Int) (hm : 1 ≤ m ∧ m ≤ 100) : 0 ≤ wrap64 (Int.tmod (IntKind.u64.wrap a) m) ∧ wrap64 (Int.tmod (IntKind.u64.wrap a) m) < m := by
  have hw : IntKind.u64.wrap a = a % 18446744073709551616 := by simp [IntKind.wrap, IntKind.bits, IntKind.signed]
  have h1 := Int.emod_nonneg (a % 18446744073709551616) (show m ≠ 0 by omega)
  have h2 := Int.emod_lt_of_pos (a % 18446744073709551616) (show 0 < m by omega)
  rw [hw, Int.tmod_eq_emod_of_nonneg (by omega), wrap_id (by omega) (by omega)]
  exact ⟨h1, h2⟩
def tf_tag : ByteArray := strOfNums (List.replicate 32 0)
theorem tf_size : tf_tag.size = 32 := by unfold tf_tag; rw [strOf_size]; rfl
def tf_good : ByteArray := (putTrailer 7 1 1 tf_tag).1
theorem tf_good_put : putTrailer 7 1 1 tf_tag = (tf_good, 0) := by
  have h : TrailOk 7 1 1 tf_tag := ⟨by decide, by decide, by decide, by decide, by decide, by decide, tf_size⟩
  unfold tf_good putTrailer; rw [if_pos h]
theorem tf_good_size : tf_good.size = 44 := by decide +kernel
theorem tf_j0 (k : Nat) (a : Int) (x208000 x208001 x208002 : Int) (x208003 : ByteArray) (i : Int) (hi : wrap64 (Int.tmod (IntKind.u64.wrap a) 7) = i) (h : ¬ TrailOk x208000 x208001 x208002 x208003) (b : Fin 7) (hb : (b.val : Int) = i) (hk : 8 ≤ k) :
    watchwordlaw13_TrailerForms.j0 (k + 1) a (⟨#[]⟩ : ByteArray) 1300 tf_good false x208000 x208001 x208002 x208003 =
    (if (getTrailer (rdOf ByteArray.empty [(⟨#[]⟩ : ByteArray), tf_good.extract 0 43, tf_good ++ (⟨#[120]⟩ : ByteArray), ((tf_good.extract 0 1) ++ (⟨#[1]⟩ : ByteArray)) ++ (tf_good.extract 2 tf_good.size), ((tf_good.extract 0 3) ++ (⟨#[1]⟩ : ByteArray)) ++ (tf_good.extract 4 tf_good.size), ((tf_good.extract 0 7) ++ (⟨#[0]⟩ : ByteArray)) ++ (tf_good.extract 8 tf_good.size), ((tf_good.extract 0 11) ++ (⟨#[0]⟩ : ByteArray)) ++ (tf_good.extract 12 tf_good.size)] i)).2.2.2.2 = 1300 then some true else some false) := by
  have hs := tf_good_size
  have l1 : (⟨#[1]⟩ : ByteArray).size = 1 := rfl
  have l0 : (⟨#[0]⟩ : ByteArray).size = 1 := rfl
  have hd : decide (TrailOk x208000 x208001 x208002 x208003) = false := decide_eq_false h
  have hlt := b.isLt
  simp only [watchwordlaw13_TrailerForms.j0, hi, trailer_Get_f hk, trailer_May_f, hd, watchwordlaw0_Num.f, Option.bind_some, ByteArray.size_append, ByteArray.size_extract, hs, l1, l0, List.length_cons, List.length_nil, if_neg (show ¬ (false = true) by decide)]
  rw [if_pos (by decide), if_pos (by decide), if_pos (by decide), if_pos (by decide), if_pos (by decide), if_pos (by decide), if_pos (by decide), if_pos (by decide), if_pos (by decide), if_pos (by decide), if_pos (by decide), if_pos (by decide), if_pos (by decide), if_pos (by decide), if_pos (by decide), if_pos (by decide), if_pos (by decide), if_pos (by decide), if_pos (by decide), if_pos (by decide), if_pos (by decide), if_pos (by decide), if_pos (by decide), if_pos (by omega), if_pos (by omega), if_pos empty_list, if_pos trivial]
  by_cases e : (getTrailer (rdOf ByteArray.empty [(⟨#[]⟩ : ByteArray), tf_good.extract 0 43, tf_good ++ (⟨#[120]⟩ : ByteArray), ((tf_good.extract 0 1) ++ (⟨#[1]⟩ : ByteArray)) ++ (tf_good.extract 2 44), ((tf_good.extract 0 3) ++ (⟨#[1]⟩ : ByteArray)) ++ (tf_good.extract 4 44), ((tf_good.extract 0 7) ++ (⟨#[0]⟩ : ByteArray)) ++ (tf_good.extract 8 44), ((tf_good.extract 0 11) ++ (⟨#[0]⟩ : ByteArray)) ++ (tf_good.extract 12 44)] i)).2.2.2.2 = 1300
  · rw [if_pos e, e]; rfl
  · rw [if_neg e, beq_eq_false_iff_ne.mpr e]

def tf_texts : List ByteArray := [(⟨#[]⟩ : ByteArray), tf_good.extract 0 43, tf_good ++ (⟨#[120]⟩ : ByteArray), ((tf_good.extract 0 1) ++ (⟨#[1]⟩ : ByteArray)) ++ (tf_good.extract 2 tf_good.size), ((tf_good.extract 0 3) ++ (⟨#[1]⟩ : ByteArray)) ++ (tf_good.extract 4 tf_good.size), ((tf_good.extract 0 7) ++ (⟨#[0]⟩ : ByteArray)) ++ (tf_good.extract 8 tf_good.size), ((tf_good.extract 0 11) ++ (⟨#[0]⟩ : ByteArray)) ++ (tf_good.extract 12 tf_good.size)]
theorem tf_none : ∀ b : Fin 7, (getTrailer (rdOf ByteArray.empty tf_texts (b.val : Int))).2.2.2.2 = 1300 := by decide +kernel
theorem tf_bad (d i : Int) (hd : 1 ≤ d ∧ d ≤ 1024) (hi : 0 ≤ i ∧ i < 9) : ∀ x, x = rd_T53 [(⟨-d, 1, 1, tf_tag⟩ : S53), (⟨255 + d, 1, 1, tf_tag⟩ : S53), (⟨0, 0, 1, tf_tag⟩ : S53), (⟨0, 4294967295 + d, 1, tf_tag⟩ : S53), (⟨0, 1, 0, tf_tag⟩ : S53), (⟨0, 1, 4294967295 + d, tf_tag⟩ : S53), (⟨0, 1, 1, tf_tag.extract 1 tf_tag.size⟩ : S53), (⟨0, 1, 1, tf_tag ++ (⟨#[120]⟩ : ByteArray)⟩ : S53), (⟨0, -d, 1, tf_tag⟩ : S53)] i → ¬ TrailOk x.f0 x.f1 x.f2 x.f3 := by
  intro x hx
  have h1 : (tf_tag.extract 1 tf_tag.size).size = 31 := by rw [ByteArray.size_extract, tf_size]; decide
  have h2 : (tf_tag ++ (⟨#[120]⟩ : ByteArray)).size = 33 := by rw [ByteArray.size_append, tf_size]; rfl
  have : i = 0 ∨ i = 1 ∨ i = 2 ∨ i = 3 ∨ i = 4 ∨ i = 5 ∨ i = 6 ∨ i = 7 ∨ i = 8 := by omega
  unfold TrailOk
  rcases this with rfl | rfl | rfl | rfl | rfl | rfl | rfl | rfl | rfl <;> (simp [rd_T53] at hx; subst hx) <;> (try simp only [h1, h2]) <;> omega
theorem TrailerForms : watchwordlaw13_TrailerForms.Pure := by
  intro a0 a1 h0 h1
  refine ⟨101, ?_⟩
  have m0 := tf_mod a0 9 (by omega)
  have m1 := tf_mod a0 7 (by omega)
  simp only [watchwordlaw13_TrailerForms.f, awake_ok (show 100 ≤ 101 by decide), watchwordlaw0_Num.f, Option.bind_some, if_true, and1023, trailer_Put_f]
  generalize hj : wrap64 (Int.tmod (IntKind.u64.wrap a0) 7) = j at m1
  generalize wrap64 (Int.tmod (IntKind.u64.wrap a0) 9) = i at m0 ⊢
  obtain ⟨d, hd, d0, d1⟩ : ∃ d, d = 1 + a1 % 1024 ∧ 1 ≤ d ∧ d ≤ 1024 := ⟨_, rfl, by omega, by omega⟩
  rw [wrap_id (x := 1 + a1 % 1024) (by omega) (by omega), ← hd, wrap_id (x := -d) (by omega) (by omega), wrap_id (x := 255 + d) (by omega) (by omega), wrap_id (x := 4294967295 + d) (by omega) (by omega)]
  have hb := tf_bad d i ⟨d0, d1⟩ m0 _ rfl
  unfold tf_tag at hb
  rw [if_pos (by decide)]
  have hts : (strOfNums (List.replicate 32 0)).size = 32 := tf_size
  rw [if_pos (by rw [hts]; decide), if_pos (by rw [hts]; decide)]
  simp only [List.length_cons, List.length_nil]
  rw [if_pos (by omega), if_pos (by omega)]
  generalize rd_T53 _ i = z at hb ⊢
  have hp : putTrailer z.f0 z.f1 z.f2 z.f3 = (⟨#[]⟩, 1300) := by unfold putTrailer; rw [if_neg hb]
  have hg : putTrailer 7 1 1 (strOfNums (List.replicate 32 0)) = (tf_good, 0) := tf_good_put
  have hs : ((tf_good.size : Int) != 44) = false := by rw [tf_good_size]; decide
  rw [hp, hg]
  simp only [if_true, hs]
  have h7 := tf_none ⟨j.toNat, by omega⟩
  rw [show (((⟨j.toNat, by omega⟩ : Fin 7).val : Nat) : Int) = j from by simp; omega] at h7
  rw [tf_j0 100 a0 z.f0 z.f1 z.f2 z.f3 j hj hb ⟨j.toNat, by omega⟩ (by simp; omega) (by decide)]
  exact if_pos h7

end Go.Proofs.Ytkfnbnfdcfcfpaa.Pure
