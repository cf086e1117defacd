/- HelloAll: each list of routers comes back; no other bytes are one: for bytes of at most 1048576; no condition beyond the row's own. -/
import Derived.Test.YtkfnbnfdcfcfpaaQ9x108
import Derived.Test.YtkfnbnfdcfcfpaaL9
namespace Go.Proofs.Ytkfnbnfdcfcfpaa.Pure
open Go.RowKit Go.Proofs.YtkfnbnfdcfcfpaaW.PrintWords Go.Proofs.YtkfnbnfdcfcfpaaW.PrintLast Go.Proofs.YtkfnbnfdcfcfpaaW.PrintMore Go.Proofs.Ytkfnbnfdcfcfpaa.Base Go.Proofs.Ytkfnbnfdcfcfpaa.Q9 Go.Proofs.Ytkfnbnfdcfcfpaa.L9
set_option linter.unusedVariables false

theorem ha_num (x : Int) : watchwordlaw0_Num.f x = some x := rfl
theorem ha_step (k : Nat) (x0 : Int) (x1 : ByteArray) (acc : List Int) (i : Nat) (hi : i < 4) (ha : acc.length < 100) :
    watchwordlaw9_HelloAll.l0 (k + 1) x0 x1 acc (i : Int) = if Go.bits .and .i64 (shr .i64 x0 (i : Int)) 1 = 1 then watchwordlaw9_HelloAll.l0 k x0 x1 (acc ++ [((i + 1 : Nat) : Int)]) ((i + 1 : Nat) : Int) else watchwordlaw9_HelloAll.l0 k x0 x1 acc ((i + 1 : Nat) : Int) := by
  have w : wrap64 ((i : Int) + 1) = ((i + 1 : Nat) : Int) := by rw [wrap_id (by omega) (by omega)]; omega
  simp only [watchwordlaw9_HelloAll.l0]
  rw [if_pos (by omega), if_pos (by omega), w]
  by_cases c : Go.bits .and .i64 (shr .i64 x0 (i : Int)) 1 = 1
  · rw [if_pos c, if_pos c, if_pos (by clear c w; omega)]
  · rw [if_neg c, if_neg c]
theorem ha_end {x0 : Int} {x1 : ByteArray} (hs : x1.size ≤ 1048576) {k : Nat} (hk : 2097200 ≤ k) {acc : List Int} (h : heard 0 acc = true) : watchwordlaw9_HelloAll.l0 (k + 1) x0 x1 acc ((4 : Nat) : Int) = some true := by
  obtain ⟨k, rfl⟩ : ∃ m, k = m + 1 := ⟨k - 1, by omega⟩
  have h4 := heard_len h
  have hb := helloBytes_byt h
  have hl : (helloBytes acc).length = acc.length + 1 := rfl
  simp only [watchwordlaw9_HelloAll.l0]
  rw [if_neg (by decide), hello_Put_f (by omega) (show acc.length < k + 1 by omega), if_pos h, Option.bind_some, hello_Get_f (by rw [strOf_size]; omega) (by rw [strOf_size]; omega), B_strOf hb, get_put h, Option.bind_some,
    hello_Get_f (by omega) (show 2 * x1.size + 1 < k + 1 by omega), Option.bind_some]
  simp only [ha_num, Option.bind_some, if_true]
  rw [SameInts_f (by omega) (show acc.length < k + 1 by omega), decide_eq_true rfl, Option.bind_some, if_pos rfl, strOf_size, hl, wrap_id (by omega) (by omega), show ((((acc.length + 1 : Nat) : Int) != ((acc.length : Int) + 1)) : Bool) = false from by rw [bne_eq_false_iff_eq]; omega]
  simp only [watchwordlaw9_HelloAll.j1, Bool.false_eq_true, if_false, ha_num, Option.bind_some]
  unfold getHello
  by_cases c : heard 0 ((B x1).drop 1) = true ∧ helloBytes ((B x1).drop 1) = B x1
  · have h5 := heard_len c.1
    rw [if_pos c, if_pos rfl, hello_Put_f (by omega) (show ((B x1).drop 1).length < k by omega), if_pos c.1, Option.bind_some, if_pos rfl]
    rw [show ((strOfNums (helloBytes ((B x1).drop 1)), (0 : Int)).1.toList == x1.toList) = true from beq_iff_eq.mpr ((toList_iff _ _).mpr (by rw [B_strOf (helloBytes_byt c.1), c.2]))]
  · rw [if_neg c, if_neg (by decide)]; rfl
theorem HelloAll : ∀ (a0 : Int) (a1 : ByteArray), (Lit.int .i64 a0).wf = true → a1.size ≤ 140737488351232 → a1.size ≤ 1048576 → ∃ k, watchwordlaw9_HelloAll.f k a0 a1 = some true := by
  intro x0 x1 _ _ hs
  refine ⟨2097300, ?_⟩
  generalize hk : (2097300 : Nat) = K
  obtain ⟨k, rfl⟩ : ∃ q, K = q + 5 := ⟨K - 5, by omega⟩
  have E : ∀ acc : List Int, heard 0 acc = true → watchwordlaw9_HelloAll.l0 (k + 1) x0 x1 acc ((4 : Nat) : Int) = some true := fun acc h => ha_end hs (by omega) h
  unfold watchwordlaw9_HelloAll.f
  rw [awake_ok (by omega), Option.bind_some, if_pos rfl, show (0 : Int) = ((0 : Nat) : Int) from rfl, ha_step (k + 4) x0 x1 [] 0 (by omega) (by simp)]
  clear hk hs
  split
  all_goals rw [ha_step (k + 3) x0 x1 _ 1 (by omega) (by simp)]; split
  all_goals rw [ha_step (k + 2) x0 x1 _ 2 (by omega) (by simp)]; split
  all_goals rw [ha_step (k + 1) x0 x1 _ 3 (by omega) (by simp)]; split
  all_goals exact E _ (by decide)

end Go.Proofs.Ytkfnbnfdcfcfpaa.Pure
