/- LsaBack: an Lsa comes back from its place behind any text; with another age its bytes differ in the first alone, and its head's sum does not; no condition beyond the row's own. -/
import Derived.Test.YtmcajcomoegkdaaQ7x104
import Derived.Test.YtmcajcomoegkdaaL7
import Derived.Test.YtmcajcomoegkdaaO7
namespace Go.Proofs.Ytmcajcomoegkdaa.Pure
open Go.RowKit Go.Proofs.YtmcajcomoegkdaaW.PrintWords Go.Proofs.YtmcajcomoegkdaaW.PrintLast Go.Proofs.YtmcajcomoegkdaaW.PrintMore Go.Proofs.Ytmcajcomoegkdaa.Base Go.Proofs.Ytmcajcomoegkdaa.Q7 Go.Proofs.Ytmcajcomoegkdaa.L7 Go.Proofs.Ytmcajcomoegkdaa.O7
set_option linter.unusedVariables false

theorem lb_get {a : ByteArray} (ha : a.size ≤ 140737488351232) {r s g : Int} {l : List S49} (h : LsaOk r s g l) {k : Nat} (hk : 600 ≤ k) :
    lsa_Get.f k (a ++ strOfNums (putB r s g l)) (a.size : Int) = some (r, s, g, l, (a.size : Int) + ((9 + 3 * l.length : Nat) : Int), 0) := by
  have h4 := links_len h.2.2.2.2.2.2
  have hz : (strOfNums (putB r s g l)).size = 9 + 3 * l.length := by rw [strOf_size, putB_len]
  have hd : (B (a ++ strOfNums (putB r s g l))).drop a.size = putB r s g l ++ [] := by
    rw [B_append, B_strOf (putB_byt r s g l), List.append_nil, ← B_len a, List.drop_left]
  rw [lsa_Get_f (by rw [ByteArray.size_append, hz]; omega) (by omega) hk, if_pos (Int.natCast_nonneg _), Int.toNat_natCast, hd, get_put h []]
  rfl
theorem lb_copy {r s g : Int} {l : List S49} (hl : l.length < 8796093022208) : watchwordlaw0_CopyLsa.f r s g l = some (r, s, g, l) := by
  simp only [watchwordlaw0_CopyLsa.f, Option.bind_some, List.length_nil, List.nil_append]
  rw [if_pos (by omega)]
theorem lb_mod (a : Int) (m : Int) (hm : 1 ≤ m ∧ m ≤ 100) : 0 ≤ wrap64 (Int.tmod (IntKind.u64.wrap a) m) ∧ wrap64 (Int.tmod (IntKind.u64.wrap a) m) < m := by
  have hw : IntKind.u64.wrap a = a % 18446744073709551616 := by simp [IntKind.wrap, IntKind.bits, IntKind.signed]
  have h1 := Int.emod_nonneg (a % 18446744073709551616) (show m ≠ 0 by omega)
  have h2 := Int.emod_lt_of_pos (a % 18446744073709551616) (show 0 < m by omega)
  rw [hw, Int.tmod_eq_emod_of_nonneg (by omega), wrap_id (by omega) (by omega)]
  exact ⟨h1, h2⟩
theorem lb_drop (r s g : Int) (l : List S49) : (putB r s g l).drop 1 = bodyB r s l ++ e2 (flSum (bodyB r s l)) := by
  unfold putB; rw [List.append_assoc]; rfl
theorem lb_num (x : Int) : watchwordlaw0_Num.f x = some x := rfl
theorem lb_j0 {a : ByteArray} (ha : a.size ≤ 140737488351232) {r s g : Int} {l : List S49} (h : LsaOk r s g l) (y : Int) {k : Nat} (hk : 600 ≤ k) :
    watchwordlaw7_LsaBack.j0 (k + 1) a y (strOfNums (putB r s g l)) false r s g l = some true := by
  have h4 := links_len h.2.2.2.2.2.2
  have hm := lb_mod y 61 (by omega)
  generalize hage : wrap64 (Int.tmod (IntKind.u64.wrap y) 61) = g' at hm
  have h' : LsaOk r s g' l := ⟨h.1, h.2.1, h.2.2.1, h.2.2.2.1, hm.1, by omega, h.2.2.2.2.2.2⟩
  have hz : ∀ g, (strOfNums (putB r s g l)).size = 9 + 3 * l.length := fun g => by rw [strOf_size, putB_len]
  simp only [watchwordlaw7_LsaBack.j0, Bool.false_eq_true, if_false, hage, lb_get ha h hk, lb_copy (show l.length < 8796093022208 by omega),
    lsa_Put_f (show l.length ≤ 9223372036854775807 by omega) (show l.length < k by omega) (show 20 ≤ k by omega), lsa_Head_f (show l.length ≤ 9223372036854775807 by omega) (show l.length < k by omega) (show 20 ≤ k by omega), if_pos h, if_pos h', lb_num,
    SameLsa_f (show l.length ≤ 9223372036854775807 by omega) (show l.length < k by omega), Option.bind_some, hz, and_self, decide_true, if_true]
  have hw : (a.size : Int) + ((9 + 3 * l.length : Nat) : Int) = wrap64 ((a.size : Int) + ((9 + 3 * l.length : Nat) : Int)) := (wrap_id (by omega) (by omega)).symm
  have ht : ∀ g, B ((strOfNums (putB r s g l)).extract 1 (9 + 3 * l.length)) = bodyB r s l ++ e2 (flSum (bodyB r s l)) := fun g => by
    have := B_tail (strOfNums (putB r s g l)) 1
    rw [hz g] at this
    rw [this, B_strOf (putB_byt r s g l), lb_drop]
  rw [if_pos (by omega), if_pos hw, if_pos (by omega), if_pos (by omega), if_pos (by rw [toList_iff, ht, ht])]
  simp
theorem LsaBack : ∀ (a0_0 : Int) (a0_1 : Int) (a0_2 : Int) (l0_3 : List (S49)) (a1 : ByteArray) (a2 : Int), (Lit.int .i64 a0_0).wf = true → (Lit.int .i64 a0_1).wf = true → (Lit.int .i64 a0_2).wf = true → (l0_3.length * 16 ≤ 140737488351232 ∧ l0_3.length ≤ maxLen ∧ ∀ y ∈ l0_3, R49 y) → a1.size ≤ 140737488351232 → (Lit.int .i64 a2).wf = true → ∃ k, watchwordlaw7_LsaBack.f k a0_0 a0_1 a0_2 l0_3 a1 a2 = some true := by
  intro r s g l a y _ _ _ hl ha _
  refine ⟨l.length + 701, ?_⟩
  have hn : l.length ≤ 140737488351232 := by omega
  simp only [watchwordlaw7_LsaBack.f, awake_ok (show 700 ≤ l.length + 701 by omega), lsa_Put_f (show l.length ≤ 9223372036854775807 by omega) (show l.length < l.length + 701 by omega) (show 20 ≤ l.length + 701 by omega), lb_num, Option.bind_some, if_true]
  by_cases h : LsaOk r s g l
  · rw [if_pos h, if_pos rfl]
    have hz : (strOfNums (putB r s g l)).size = 9 + 3 * l.length := by rw [strOf_size, putB_len]
    rw [show (decide (((strOfNums (putB r s g l), (0 : Int)).1.size : Int) < 1)) = false from decide_eq_false (by show ¬ ((strOfNums (putB r s g l)).size : Int) < 1; rw [hz]; omega)]
    exact lb_j0 ha h y (show 600 ≤ l.length + 700 by omega)
  · rw [if_neg h, if_neg (by decide)]
    simp only [watchwordlaw7_LsaBack.j0, if_true, empty_list]
    rfl

end Go.Proofs.Ytmcajcomoegkdaa.Pure
