/- PacketForms: packets that may not be, bytes that are none; no condition beyond the row's own. -/
import Derived.Test.YtbajimbccbckkaaZ12fx4
namespace Go.Proofs.Ytbajimbccbckkaa.Pure
open Go.RowKit Go.Proofs.YtbajimbccbckkaaW.PrintWords Go.Proofs.YtbajimbccbckkaaW.PrintLast Go.Proofs.YtbajimbccbckkaaW.PrintMore Go.Proofs.Ytbajimbccbckkaa.Base Go.Proofs.Ytbajimbccbckkaa.Q12f
set_option linter.unusedVariables false
set_option maxRecDepth 100000
def tx : ByteArray := ⟨#[2, 1, 0, 15, 0, 0, 0, 2, 0, 0, 0, 0, 2, 1, 3]⟩
abbrev texts : List ByteArray := [(⟨#[]⟩ : ByteArray), tx.extract 0 12, tx.extract 0 14, tx ++ (⟨#[120]⟩ : ByteArray), ((tx.extract 0 1) ++ (⟨#[4]⟩ : ByteArray)) ++ (tx.extract 2 tx.size), ((tx.extract 0 1) ++ (⟨#[2]⟩ : ByteArray)) ++ (tx.extract 2 tx.size), ((tx.extract 0 3) ++ (⟨#[14]⟩ : ByteArray)) ++ (tx.extract 4 tx.size), ((tx.extract 0 12) ++ (⟨#[1]⟩ : ByteArray)) ++ (tx.extract 13 tx.size), (tx.extract 0 14) ++ (⟨#[5]⟩ : ByteArray)]
theorem get_at {k : Nat} (hk : 800 ≤ k) {b : ByteArray} (h : packet_Get.f 800 b = some (0, 0, [], [], [], 1200)) : packet_Get.f k b = some (0, 0, [], [], [], 1200) :=
  at_rounds (g := fun k => packet_Get.f k b) (packet_Get.mono b) hk h
theorem put_at {k : Nat} (hk : 800 ≤ k) {T R : Int} {h : List Int} {l : List S45} {d : List S47} {r : ByteArray × Int} (e : packet_Put.f 800 T R h l d = some r) : packet_Put.f k T R h l d = some r :=
  at_rounds (g := fun k => packet_Put.f k T R h l d) (packet_Put.mono T R h l d) hk e
theorem may_at {k : Nat} (hk : 800 ≤ k) {T R : Int} {h : List Int} {l : List S45} {d : List S47} {r : Bool} (e : packet_May.f 800 T R h l d = some r) : packet_May.f k T R h l d = some r :=
  at_rounds (g := fun k => packet_May.f k T R h l d) (packet_May.mono T R h l d) hk e
theorem list_at {k : Nat} (hk : 800 ≤ k) {T R : Int} {h : List Int} {l : List S45} {d : List S47} {r : ByteArray × Bool} (e : packet_list.f 800 T R h l d = some r) : packet_list.f k T R h l d = some r :=
  at_rounds (g := fun k => packet_list.f k T R h l d) (packet_list.mono T R h l d) hk e
theorem awake_at {k : Nat} (hk : 800 ≤ k) : watchwordlaw12_awake.f k = some true :=
  at_rounds (g := fun k => watchwordlaw12_awake.f k) watchwordlaw12_awake.mono hk (by decide +kernel)
theorem num_at (x : Int) : watchwordlaw0_Num.f x = some x := rfl
theorem text_at {k : Nat} (hk : 800 ≤ k) {n : Int} (h1 : 0 ≤ n) (h2 : n < 9) : packet_Get.f k (rdOf ByteArray.empty texts n) = some (0, 0, [], [], [], 1200) := by
  refine get_at hk ?_
  obtain rfl | rfl | rfl | rfl | rfl | rfl | rfl | rfl | rfl : n = 0 ∨ n = 1 ∨ n = 2 ∨ n = 3 ∨ n = 4 ∨ n = 5 ∨ n = 6 ∨ n = 7 ∨ n = 8 := by omega
  all_goals kernel_rfl
theorem j1_at {k : Nat} (hk : 800 ≤ k) (x : Int) {T R : Int} {h : List Int} {l : List S45} {d : List S47} (hl : packet_May.f k T R h l d = some false) :
    watchwordlaw12_PacketForms.j1 (k + 1) x ⟨#[]⟩ 1200 tx false T R h l d = some true := by
  have h0 : 0 ≤ IntKind.u64.wrap x := by unfold IntKind.wrap; simp [IntKind.signed]; omega
  have h1 := Int.tmod_nonneg 9 h0
  have h2 := Int.tmod_lt_of_pos (IntKind.u64.wrap x) (show (0 : Int) < 9 by omega)
  simp only [watchwordlaw12_PacketForms.j1]
  generalize Int.tmod (IntKind.u64.wrap x) 9 = n at h1 h2
  rw [if_neg (by decide)]
  repeat rw [if_pos (by decide +kernel)]
  simp only [Option.bind_some]
  rw [show wrap64 n = n from wrap_id (by omega) (by omega), if_pos h1, if_pos (show n < ((texts.length : Nat) : Int) from h2), text_at hk h1 h2]
  simp only [Option.bind_some, num_at, hl]
  rw [if_neg (by decide), if_pos ((toList_iff_lit _ _).2 rfl)]
  simp
theorem j0_at {k : Nat} (hk : 800 ≤ k) (x : Int) {T R : Int} {h : List Int} {l : List S45} {d : List S47} (hl : packet_May.f k T R h l d = some false) (hp : packet_Put.f (k + 1) T R h l d = some (⟨#[]⟩, 1200)) :
    watchwordlaw12_PacketForms.j0 (k + 2) x T R h l d = some true := by
  simp only [watchwordlaw12_PacketForms.j0]
  rw [hp, put_at (show 800 ≤ k + 1 by omega) (show packet_Put.f 800 1 2 [1, 3] [] [] = some (tx, 0) by kernel_rfl)]
  simp only [Option.bind_some, num_at, if_true]
  rw [show ((tx.size : Int) != 15) = false by decide +kernel]
  exact j1_at hk x hl
theorem router_no {r : Int} (h : 5 ≤ r) : lsa_Router.f r = some false := by
  unfold lsa_Router.f
  rw [if_pos (show r ≥ 1 by omega), decide_eq_false (show ¬ r ≤ 4 by omega)]
theorem list_one {k : Nat} (hk : 800 ≤ k) (r : Int) : packet_list.f k 1 r [] [] [] = some (⟨#[0]⟩, true) :=
  list_at hk (show packet_list.f 800 1 0 [] [] [] = some (⟨#[0]⟩, true) by kernel_rfl)
theorem may_no {k : Nat} (hk : 800 ≤ k) {r : Int} (h : 5 ≤ r) : packet_May.f k 1 r [] [] [] = some false := by
  unfold packet_May.f
  rw [list_one hk r]
  simp only [Option.bind_some, if_true, router_no h]
theorem put_no {k : Nat} (hk : 800 ≤ k + 1) {r : Int} (h : 5 ≤ r) : packet_Put.f (k + 1) 1 r [] [] [] = some (⟨#[]⟩, 1200) := by
  have hd (x : Int) : head_Put.f (k + 1) 1 r x = some (⟨#[]⟩, 800) := by
    unfold head_Put.f
    rw [show head_Type.f 1 = some true from rfl, router_no h]
    simp only [Option.bind_some, if_true]
    rw [if_neg (by decide)]
    simp only [head_Put.j0]
    rw [if_pos trivial]
  unfold packet_Put.f
  rw [list_one hk r]
  simp only [Option.bind_some, hd, if_true]
  rw [if_neg (by decide)]
theorem PacketForms : watchwordlaw12_PacketForms.Pure := by
  intro a0 a1 w0 w1
  obtain ⟨k, hk⟩ : ∃ k : Nat, 800 ≤ k := ⟨800, Nat.le_refl _⟩
  have hk1 : 800 ≤ k + 1 := by omega
  refine ⟨k + 2, ?_⟩
  have hb : Go.bits .and .i64 a1 1023 = a1 % 1024 := and_mask 10 (by decide) a1
  have hr : wrap64 (4 + wrap64 (1 + Go.bits .and .i64 a1 1023)) = 4 + (1 + a1 % 1024) := by rw [hb, show wrap64 (1 + a1 % 1024) = 1 + a1 % 1024 by unfold wrap64; omega]; unfold wrap64; omega
  have h5 : 5 ≤ wrap64 (4 + wrap64 (1 + Go.bits .and .i64 a1 1023)) := by rw [hr]; omega
  unfold watchwordlaw12_PacketForms.f
  rw [awake_at (by omega)]
  simp only [Option.bind_some, if_true]
  generalize wrap64 (4 + wrap64 (1 + Go.bits .and .i64 a1 1023)) = rr at h5
  clear hr hb
  generalize Int.tmod (IntKind.u64.wrap a0) 13 = n
  by_cases c0 : n = 0
  · rw [if_pos c0]; exact j0_at hk a0 (may_at hk (by kernel_rfl)) (put_at hk1 (by kernel_rfl))
  rw [if_neg c0]
  by_cases c1 : n = 1
  · rw [if_pos c1]; exact j0_at hk a0 (may_at hk (by kernel_rfl)) (put_at hk1 (by kernel_rfl))
  rw [if_neg c1]
  by_cases c2 : n = 2
  · rw [if_pos c2]; exact j0_at hk a0 (may_at hk (by kernel_rfl)) (put_at hk1 (by kernel_rfl))
  rw [if_neg c2]
  by_cases c3 : n = 3
  · rw [if_pos c3]; exact j0_at hk a0 (may_no hk h5) (put_no hk1 h5)
  rw [if_neg c3]
  by_cases c4 : n = 4
  · rw [if_pos c4]; exact j0_at hk a0 (may_at hk (by kernel_rfl)) (put_at hk1 (by kernel_rfl))
  rw [if_neg c4]
  by_cases c5 : n = 5
  · rw [if_pos c5]; exact j0_at hk a0 (may_at hk (by kernel_rfl)) (put_at hk1 (by kernel_rfl))
  rw [if_neg c5]
  by_cases c6 : n = 6
  · rw [if_pos c6]; exact j0_at hk a0 (may_at hk (by kernel_rfl)) (put_at hk1 (by kernel_rfl))
  rw [if_neg c6]
  by_cases c7 : n = 7
  · rw [if_pos c7]; exact j0_at hk a0 (may_at hk (by kernel_rfl)) (put_at hk1 (by kernel_rfl))
  rw [if_neg c7]
  by_cases c8 : n = 8
  · rw [if_pos c8]; exact j0_at hk a0 (may_at hk (by kernel_rfl)) (put_at hk1 (by kernel_rfl))
  rw [if_neg c8]
  by_cases c9 : n = 9
  · rw [if_pos c9]; exact j0_at hk a0 (may_at hk (by kernel_rfl)) (put_at hk1 (by kernel_rfl))
  rw [if_neg c9]
  by_cases c10 : n = 10
  · rw [if_pos c10]; exact j0_at hk a0 (may_at hk (by kernel_rfl)) (put_at hk1 (by kernel_rfl))
  rw [if_neg c10]
  by_cases c11 : n = 11
  · rw [if_pos c11]; exact j0_at hk a0 (may_at hk (by kernel_rfl)) (put_at hk1 (by kernel_rfl))
  rw [if_neg c11]
  exact j0_at hk a0 (may_at hk (by kernel_rfl)) (put_at hk1 (by kernel_rfl))
end Go.Proofs.Ytbajimbccbckkaa.Pure
