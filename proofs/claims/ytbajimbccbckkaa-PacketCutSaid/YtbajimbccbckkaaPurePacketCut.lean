/- PacketCut: a packet's bytes that are cut short, or go on, are no packet; no condition beyond the row's own. -/
import Derived.Test.YtbajimbccbckkaaQ12x107
import Derived.Test.YtbajimbccbckkaaL12
namespace Go.Proofs.Ytbajimbccbckkaa.Pure
open Go.RowKit Go.Proofs.YtbajimbccbckkaaW.PrintWords Go.Proofs.YtbajimbccbckkaaW.PrintLast Go.Proofs.YtbajimbccbckkaaW.PrintMore Go.Proofs.Ytbajimbccbckkaa.Base Go.Proofs.Ytbajimbccbckkaa.Q12 Go.Proofs.Ytbajimbccbckkaa.L12 Go.Proofs.Ytbajimbccbckkaa.O12
set_option linter.unusedVariables false

theorem pc_num (x : Int) : watchwordlaw0_Num.f x = some x := rfl
theorem pc_mod (a : Int) (m : Int) (hm : 1 ≤ m ∧ m ≤ 1000) : 0 ≤ wrap64 (Int.tmod (IntKind.u64.wrap a) m) ∧ wrap64 (Int.tmod (IntKind.u64.wrap a) m) < m := by
  have hw : IntKind.u64.wrap a = a % 18446744073709551616 := by simp [IntKind.wrap, IntKind.bits, IntKind.signed]
  have h0 : 0 ≤ a % 18446744073709551616 := Int.emod_nonneg _ (by decide)
  have hn : 0 ≤ (a % 18446744073709551616) % m := Int.emod_nonneg _ (by omega)
  have hl : (a % 18446744073709551616) % m < m := Int.emod_lt_of_pos _ (by omega)
  rw [hw, Int.tmod_eq_emod_of_nonneg h0, wrap_id (by omega) (by omega)]
  exact ⟨hn, hl⟩
theorem pc_short {t r : Int} {xs : List Int} {us : List S45} {hs : List S47} (h : PkOk t r xs us hs) {m : Nat} (hm : m < (pbytes t r xs us hs).length) : getPkt ((pbytes t r xs us hs).take m) = none := by
  have hl := pbytes_len t r xs us hs
  unfold getPkt
  rw [if_neg]
  rintro ⟨e1, e2⟩
  by_cases h12 : m < 12
  · have : (Hd.getHead ((pbytes t r xs us hs).take m)).2.2.2 = 800 := by unfold Hd.getHead; rw [if_pos (by rw [List.length_take]; omega)]
    rw [this] at e1; exact absurd e1 (by decide)
  · have hc : (pbytes t r xs us hs).take m = Hd.hdr t r (12 + ((plist t xs us hs).length : Int)) ++ (plist t xs us hs).take (m - 12) := by
      unfold pbytes; rw [List.take_append, Hd.hdr_len, List.take_of_length_le (by rw [Hd.hdr_len]; omega)]
    have hg := Hd.get_hdr (pk_head h) ((plist t xs us hs).take (m - 12))
    rw [← hc] at hg
    rw [hg, List.length_take] at e2
    simp only at e2
    omega
theorem pc_long {t r : Int} {xs : List Int} {us : List S45} {hs : List S47} (h : PkOk t r xs us hs) (x : Int) (rest : List Int) : getPkt (pbytes t r xs us hs ++ x :: rest) = none := by
  have hl := pbytes_len t r xs us hs
  unfold getPkt
  rw [if_neg]
  rintro ⟨e1, e2⟩
  have hg := Hd.get_hdr (pk_head h) (plist t xs us hs ++ x :: rest)
  rw [← List.append_assoc, show Hd.hdr t r (12 + ((plist t xs us hs).length : Int)) ++ plist t xs us hs = pbytes t r xs us hs from rfl] at hg
  rw [hg, List.length_append, List.length_cons] at e2
  simp only at e2
  omega
theorem PacketCut : ∀ (a0_0 : Int) (a0_1 : Int) (l0_2 : List (Int)) (l0_3 : List (S45)) (l0_4 : List (S47)) (a1 : Int) (a2 : ByteArray), (Lit.int .i64 a0_0).wf = true → (Lit.int .i64 a0_1).wf = true → (l0_2.length * 8 ≤ 140737488351232 ∧ l0_2.length ≤ maxLen ∧ ∀ y ∈ l0_2, (Lit.int .i64 y).wf = true) → (l0_3.length * 48 ≤ 140737488351232 ∧ l0_3.length ≤ maxLen ∧ ∀ y ∈ l0_3, R45 y) → (l0_4.length * 32 ≤ 140737488351232 ∧ l0_4.length ≤ maxLen ∧ ∀ y ∈ l0_4, R47 y) → (Lit.int .i64 a1).wf = true → a2.size ≤ 140737488351232 → ∃ k, watchwordlaw12_PacketCut.f k a0_0 a0_1 l0_2 l0_3 l0_4 a1 a2 = some true := by
  intro t r xs us hs a b _ _ hx hu hh _ hb
  refine ⟨xs.length + us.length + hs.length + 8796093025301, ?_⟩
  have hM : ∀ x ∈ us, x.f3.length < 8796093022209 := fun x hx => by have := (hu.2.2 x hx).2.2.2.1; omega
  have h1 : xs.length ≤ 1000000000000000000 := by omega
  have h2 : us.length ≤ 1000000000000000000 := by omega
  have h3 : hs.length ≤ 1000000000000000000 := by omega
  generalize hk : xs.length + us.length + hs.length + 8796093025301 = k0
  obtain ⟨k, rfl⟩ : ∃ q, k0 = q + 1 := ⟨k0 - 1, by omega⟩
  have hk1 : xs.length + us.length + hs.length + 8796093022209 < k + 1 := by omega
  have hk2 : 3000 ≤ k := by omega
  clear hx hu hh hk
  simp only [watchwordlaw12_PacketCut.f, awake_ok (show 800 ≤ k + 1 by omega), packet_Put_f h1 h2 h3 hM (by omega) hk1 (by omega), pc_num, Option.bind_some, if_true]
  by_cases h : PkOk t r xs us hs
  · have hl := plist_len h
    have hp := pbytes_len t r xs us hs
    have hz := strOf_size (pbytes t r xs us hs)
    have hB := B_strOf (pbytes_byt h)
    rw [if_pos h]
    simp only [if_true]
    generalize strOfNums (pbytes t r xs us hs) = s at hz hB ⊢
    rw [decide_eq_false (show ¬ ((s.size : Int) < 1) by omega)]
    have hw : IntKind.u64.wrap (s.size : Int) = (s.size : Int) := by
      have : IntKind.u64.wrap (s.size : Int) = (s.size : Int) % 18446744073709551616 := by simp [IntKind.wrap, IntKind.bits, IntKind.signed]
      rw [this, Int.emod_eq_of_lt (by omega) (by omega)]
    obtain ⟨m0, m1⟩ := pc_mod a (s.size : Int) (by omega)
    simp only [watchwordlaw12_PacketCut.j0, Bool.false_eq_true, if_false, hw]
    generalize wrap64 (Int.tmod (IntKind.u64.wrap a) (s.size : Int)) = j at m0 m1 ⊢
    obtain ⟨j, rfl⟩ : ∃ q : Nat, j = (q : Int) := ⟨j.toNat, by omega⟩
    have hx1 : (s.extract 0 j).size = j := by simp only [ByteArray.size_extract]; omega
    have hxB : getPkt (B (s.extract 0 j)) = none := by
      rw [B_extract, hB, List.drop_zero, Nat.sub_zero]; exact pc_short h (by omega)
    have hone : (⟨#[120]⟩ : ByteArray).size = 1 := rfl
    have hyB : getPkt (B (s ++ (⟨#[120]⟩ : ByteArray) ++ b)) = none := by
      rw [B_append, B_append, hB, List.append_assoc]; exact pc_long h 120 (B b)
    rw [if_neg (by omega), if_pos (by omega), if_pos (by omega), Int.toNat_natCast, packet_Get_f (by omega) (by omega), hxB, Option.bind_some, if_pos (by omega), if_pos (by simp only [ByteArray.size_append, hone]; omega), packet_Get_f (by simp only [ByteArray.size_append, hone]; omega) (by omega), hyB]
    rfl
  · rw [if_neg h]
    simp only
    rw [if_neg (by decide)]
    simp only [watchwordlaw12_PacketCut.j0, if_true, empty_list]
    rfl

end Go.Proofs.Ytbajimbccbckkaa.Pure
