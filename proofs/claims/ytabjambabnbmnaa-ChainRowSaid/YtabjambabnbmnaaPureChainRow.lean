/- ChainRow: keys put in any row are in the row of their numbers, the last one of a number stands; no condition beyond the row's own. -/
import Derived.Test.YtabjambabnbmnaaQ5x112
import Derived.Test.YtabjambabnbmnaaA5
namespace Go.Proofs.Ytabjambabnbmnaa.Pure
open Go.RowKit Go.Proofs.YtabjambabnbmnaaW.PrintWords Go.Proofs.YtabjambabnbmnaaW.PrintLast Go.Proofs.YtabjambabnbmnaaW.PrintMore Go.Proofs.Ytabjambabnbmnaa.Base Go.Proofs.Ytabjambabnbmnaa.Q5 Go.Proofs.Ytabjambabnbmnaa.L5
set_option linter.unusedVariables false

theorem and3 (n : Int) : Go.bits .and .i64 n 3 = n % 4 := and_mask 2 (by decide) n
def rowK (q v : Int) : S50 := ⟨10 + q, ⟨#[115]⟩, 0, v, 0, 0⟩
/-- What the table says of a number. -/
def tbl (st : List Int) (q : Int) : Option S50 := if rd st q = 0 then none else some (rowK q (rd st q))
theorem rd_set {st : List Int} {r q v : Int} (hr : 0 ≤ r ∧ r < (st.length : Int)) (hq : 0 ≤ q) : rd (st.set r.toNat v) q = if q = r then v else rd st q := by
  unfold rd
  rw [List.getD_eq_getElem?_getD, List.getD_eq_getElem?_getD, List.getElem?_set]
  by_cases h : q = r
  · subst h
    rw [if_pos rfl, if_pos rfl, if_pos (by omega)]; rfl
  · rw [if_neg h, if_neg (by omega)]
theorem drop_cons {α : Type} {l t : List α} {z : α} {i : Nat} (h : l.drop i = z :: t) : ∃ hi : i < l.length, l[i] = z ∧ l.drop (i + 1) = t := by
  have hi : i < l.length := by
    apply Nat.lt_of_not_le; intro hle
    rw [List.drop_of_length_le hle] at h; cases h
  rw [List.drop_eq_getElem_cons hi] at h
  injection h with h1 h2
  exact ⟨hi, h1, h2⟩
theorem len_le : ∀ {l : List S50} {p b : Int}, rises kok kkey p l = true → (∀ x ∈ l, kkey x ≤ b) → p ≤ b → (l.length : Int) ≤ b - p := by
  intro l
  induction l with
  | nil => intro p b _ _ h; show (0 : Int) ≤ b - p; omega
  | cons x l ih =>
    intro p b h hb _
    obtain ⟨⟨o1, o2⟩, o3⟩ := rises_cons.mp h
    have := ih o3 (fun y hy => hb y (List.mem_cons_of_mem _ hy)) (hb x List.mem_cons_self)
    rw [List.length_cons]; omega
theorem ins_mem : ∀ {l : List S50} {x y : S50}, y ∈ ins kkey x l → y = x ∨ y ∈ l := by
  intro l
  induction l with
  | nil => intro x y h; exact .inl (List.mem_singleton.mp h)
  | cons z l ih =>
    intro x y h
    have hI : ins kkey x (z :: l) = if kkey z < kkey x then z :: ins kkey x l else if kkey z = kkey x then x :: l else x :: z :: l := rfl
    rw [hI] at h
    by_cases c1 : kkey z < kkey x
    · rw [if_pos c1] at h
      rcases List.mem_cons.mp h with rfl | h
      · exact .inr List.mem_cons_self
      · rcases ih h with h | h
        · exact .inl h
        · exact .inr (List.mem_cons_of_mem _ h)
    · rw [if_neg c1] at h
      by_cases c2 : kkey z = kkey x
      · rw [if_pos c2] at h
        rcases List.mem_cons.mp h with h | h
        · exact .inl h
        · exact .inr (List.mem_cons_of_mem _ h)
      · rw [if_neg c2] at h
        exact List.mem_cons.mp h
theorem ins_len : ∀ {l : List S50} {p : Int} {x : S50}, rises kok kkey p l = true → (ins kkey x l).length = if (L5.look kkey (kkey x) l).isSome = true then l.length else l.length + 1 := by
  intro l
  induction l with
  | nil => intro p x _; rfl
  | cons y l ih =>
    intro p x h
    obtain ⟨⟨o1, o2⟩, o3⟩ := rises_cons.mp h
    have hI : ins kkey x (y :: l) = if kkey y < kkey x then y :: ins kkey x l else if kkey y = kkey x then x :: l else x :: y :: l := rfl
    have hL : L5.look kkey (kkey x) (y :: l) = if kkey y = kkey x then some y else L5.look kkey (kkey x) l := rfl
    rw [hI, hL]
    by_cases c1 : kkey y < kkey x
    · rw [if_pos c1, if_neg (show ¬ kkey y = kkey x by omega), List.length_cons, ih o3]
      split <;> rfl
    · rw [if_neg c1]
      by_cases c2 : kkey y = kkey x
      · rw [if_pos c2, if_pos c2]; rfl
      · rw [if_neg c2, if_neg (show ¬ kkey y = kkey x from c2), look_lt o3 (by omega)]; rfl
theorem row_end {ns : List S50} {st : List Int} (hm : chainOk ns = true) (hle : ∀ x ∈ ns, kkey x ≤ 13) (hst : st.length = 4) : ∀ (d k i : Nat) (r : Int) (rest : List S50), r + d = 4 → 0 ≤ r → d + 10 < k → i ≤ ns.length → ns.drop i = rest → rises kok kkey (9 + r) rest = true → (∀ q, r ≤ q → q < 4 → L5.look kkey (10 + q) rest = tbl st q) →
    watchwordlaw5_ChainRow.l1 k ns st (i : Int) r = some true := by
  have hs := (chainOk_iff.mp hm).2
  intro d
  induction d with
  | zero =>
    intro k i r rest hr h1 hk hi hd hrs hl
    obtain ⟨k, rfl⟩ : ∃ m, k = m + 1 := ⟨k - 1, by omega⟩
    have hn : rest = [] := by
      cases rest with
      | nil => rfl
      | cons y t =>
        obtain ⟨⟨o1, o2⟩, _⟩ := rises_cons.mp hrs
        have hy : y ∈ ns := List.mem_of_mem_drop (i := i) (by rw [hd]; exact List.mem_cons_self)
        have := hle y hy
        omega
    subst hn
    have hlen : i = ns.length := by
      have := congrArg List.length hd
      rw [List.length_drop, List.length_nil] at this; omega
    rw [watchwordlaw5_ChainRow.l1, if_neg (by omega), if_pos (by omega), chain_May_f (by omega) (by omega), hm]
    rfl
  | succ d ih =>
    intro k i r rest hr h1 hk hi hd hrs hl
    obtain ⟨k, rfl⟩ : ∃ m, k = m + 1 := ⟨k - 1, by omega⟩
    have w1 : wrap64 (r + 1) = r + 1 := wrap_id (by omega) (by omega)
    have w3 : wrap64 (10 + r) = 10 + r := wrap_id (by omega) (by omega)
    have hlr := hl r (Int.le_refl _) (by omega)
    rw [watchwordlaw5_ChainRow.l1, if_pos (by omega), if_pos (by omega), if_pos (by omega), w1, w3]
    unfold tbl at hlr
    by_cases c : rd st r = 0
    · rw [if_pos c] at hlr
      rw [if_pos c]
      refine ih k i (r + 1) rest (by omega) (by omega) (by omega) hi hd ?_ (fun q h2 h3 => hl q (by omega) h3)
      cases rest with
      | nil => rfl
      | cons y t =>
        obtain ⟨⟨o1, o2⟩, o3⟩ := rises_cons.mp hrs
        have hne : kkey y ≠ 10 + r := fun he => by
          have : L5.look kkey (10 + r) (y :: t) = some y := by unfold L5.look; rw [if_pos he]
          rw [this] at hlr; cases hlr
        exact rises_cons.mpr ⟨⟨o1, by omega⟩, o3⟩
    · rw [if_neg c] at hlr
      rw [if_neg c]
      cases rest with
      | nil => cases hlr
      | cons y t =>
        obtain ⟨⟨o1, o2⟩, o3⟩ := rises_cons.mp hrs
        by_cases he : kkey y = 10 + r
        · have hy : L5.look kkey (10 + r) (y :: t) = some y := by unfold L5.look; rw [if_pos he]
          rw [hy] at hlr
          have hyv := Option.some.inj hlr
          obtain ⟨hi', hx, ht⟩ := drop_cons hd
          have w2 : wrap64 ((i : Int) + 1) = ((i + 1 : Nat) : Int) := next_wrap (by omega)
          rw [if_neg (by omega), if_pos (by omega), if_pos (by omega), rdK_at hi', hx, hyv, if_pos (show (rowK r (rd st r)).f0 = 10 + r from rfl), if_pos (show (rowK r (rd st r)).f3 = rd st r from rfl), w2]
          refine ih k (i + 1) (r + 1) t (by omega) (by omega) (by omega) (by omega) ht ?_ (fun q h2 h3 => ?_)
          · have : 9 + (r + 1) = kkey y := by omega
            rw [this]; exact o3
          · rw [← hl q (by omega) h3]
            show L5.look kkey (10 + q) t = if kkey y = 10 + q then some y else L5.look kkey (10 + q) t
            rw [if_neg (by omega)]
        · have : L5.look kkey (10 + r) (y :: t) = none := look_lt (p := 10 + r) (rises_cons.mpr ⟨⟨o1, by omega⟩, o3⟩) (Int.le_refl _)
          rw [this] at hlr; cases hlr
theorem row_l {l : List Int} : ∀ (d k i : Nat) (ns : List S50) (st : List Int), i + d = 20 → 2 * d + 100 < k → rises kok kkey 9 ns = true → (∀ x ∈ ns, kkey x ≤ 13) → st.length = 4 → (∀ q, 0 ≤ q → q < 4 → L5.look kkey (10 + q) ns = tbl st q) →
    watchwordlaw5_ChainRow.l0 k l ns st (i : Int) = some true := by
  have okOf : ∀ {ns : List S50}, rises kok kkey 9 ns = true → (∀ x ∈ ns, kkey x ≤ 13) → chainOk ns = true := fun hm hle => chainOk_iff.mpr ⟨rises_lower hm (by omega), by have := len_le hm hle (by omega); omega⟩
  have fin : ∀ (k i : Nat) (ns : List S50) (st : List Int), 50 < k → rises kok kkey 9 ns = true → (∀ x ∈ ns, kkey x ≤ 13) → st.length = 4 → (∀ q, 0 ≤ q → q < 4 → L5.look kkey (10 + q) ns = tbl st q) → watchwordlaw5_ChainRow.j1 k l ns st (i : Int) false = some true := by
    intro k i ns st hk hm hle hst hl
    obtain ⟨k, rfl⟩ : ∃ m, k = m + 1 := ⟨k - 1, by omega⟩
    rw [watchwordlaw5_ChainRow.j1, if_neg (by decide)]
    exact row_end (okOf hm hle) hle hst 4 k 0 0 ns (by omega) (by omega) (by omega) (Nat.zero_le _) rfl hm hl
  intro d
  induction d with
  | zero =>
    intro k i ns st hi hk hm hle hst hl
    obtain ⟨k, rfl⟩ : ∃ m, k = m + 1 := ⟨k - 1, by omega⟩
    rw [watchwordlaw5_ChainRow.l0, decide_eq_false (by omega)]
    split
    · exact fin k i ns st (by omega) hm hle hst hl
    · exact fin k i ns st (by omega) hm hle hst hl
  | succ d ih =>
    intro k i ns st hi hk hm hle hst hl
    obtain ⟨k, rfl⟩ : ∃ m, k = m + 2 := ⟨k - 2, by omega⟩
    have hs := len_le hm hle (by omega)
    rw [watchwordlaw5_ChainRow.l0]
    by_cases hlt : (i : Int) < (l.length : Int)
    · rw [if_pos hlt, decide_eq_true (by omega), watchwordlaw5_ChainRow.j1, if_pos rfl, if_pos (by omega), if_pos hlt]
      have h4 : wrap64 ((i : Int) + 1) = ((i + 1 : Nat) : Int) := next_wrap (by omega)
      have h0 := Int.emod_nonneg (rd l (i : Int)) (show (4 : Int) ≠ 0 by decide)
      have h1 := Int.emod_lt_of_pos (rd l (i : Int)) (show (0 : Int) < 4 by decide)
      rw [and3]
      generalize rd l (i : Int) % 4 = m at h0 h1
      have w1 : wrap64 (10 + m) = 10 + m := wrap_id (by omega) (by omega)
      rw [w1, h4]
      clear w1 h4
      have hkr : kkey (rowK m ((i + 1 : Nat) : Int)) = 10 + m := rfl
      have hok : kok (rowK m ((i + 1 : Nat) : Int)) = true := kok_iff.mpr (by
        refine ⟨?_, ⟨?_, ?_⟩, ?_, ?_, ?_, ?_⟩
        · show 0 ≤ 10 + m ∧ 10 + m ≤ 255; omega
        · show 1 ≤ 1; omega
        · show 1 ≤ 32; omega
        · show (0 : Int) ≤ 0 ∧ (0 : Int) ≤ 1048576; omega
        · show 0 ≤ ((i + 1 : Nat) : Int) ∧ ((i + 1 : Nat) : Int) ≤ 1048576; omega
        · show (0 : Int) ≤ 0 ∧ (0 : Int) ≤ 1048576; omega
        · show (0 : Int) ≤ 0 ∧ (0 : Int) ≤ 1048576; omega)
      have hir := ins_rises (x := rowK m ((i + 1 : Nat) : Int)) hm hok (by rw [hkr]; omega)
      have hil : ∀ y ∈ ins kkey (rowK m ((i + 1 : Nat) : Int)) ns, kkey y ≤ 13 := fun y hy => by
        rcases ins_mem hy with rfl | hy
        · rw [hkr]; omega
        · exact hle y hy
      have hlen := len_le hir hil (by omega)
      have hW : chain_With.f k ns (10 + m) ⟨#[115]⟩ 0 ((i + 1 : Nat) : Int) 0 0 = some (ins kkey (rowK m ((i + 1 : Nat) : Int)) ns, 0) := by
        have := chain_With_f (l := ns) (k := k) (by omega) (by omega) (rowK m ((i + 1 : Nat) : Int))
        rw [show chain_With.f k ns (10 + m) ⟨#[115]⟩ 0 ((i + 1 : Nat) : Int) 0 0 = chain_With.f k ns (rowK m ((i + 1 : Nat) : Int)).f0 (rowK m ((i + 1 : Nat) : Int)).f1 (rowK m ((i + 1 : Nat) : Int)).f2 (rowK m ((i + 1 : Nat) : Int)).f3 (rowK m ((i + 1 : Nat) : Int)).f4 (rowK m ((i + 1 : Nat) : Int)).f5 from rfl, this]
        unfold withK
        have hL := ins_len (x := rowK m ((i + 1 : Nat) : Int)) hm
        have hroom : (L5.look kkey (kkey (rowK m ((i + 1 : Nat) : Int))) ns).isSome = true ∨ ns.length ≠ 4 := by
          by_cases c : (L5.look kkey (kkey (rowK m ((i + 1 : Nat) : Int))) ns).isSome = true
          · exact .inl c
          · rw [if_neg c] at hL
            exact .inr (by omega)
        rw [if_pos ⟨okOf hm hle, hok, hroom⟩]
      rw [hW]
      simp only [Option.bind_some, watchwordlaw0_Num.f]
      rw [if_pos trivial, if_pos (by omega), if_pos (by omega)]
      refine ih k (i + 1) _ _ (by omega) (by omega) hir hil (by rw [List.length_set]; exact hst) (fun q h2 h3 => ?_)
      unfold tbl
      rw [rd_set (by omega) (by omega)]
      by_cases hq : q = m
      · have hse := look_ins_self (ok := kok) (key := kkey) (x := rowK m ((i + 1 : Nat) : Int)) hm
        rw [hkr] at hse
        rw [hq, if_pos rfl, if_neg (by omega), hse]
      · rw [if_neg hq, look_ins_other (by rw [hkr]; omega)]
        exact hl q h2 h3
    · rw [if_neg hlt]
      exact fin (k + 1) i ns st (by omega) hm hle hst hl
theorem ChainRow : watchwordlaw5_ChainRow.Pure := by
  intro l _ _ _
  refine ⟨400, ?_⟩
  unfold watchwordlaw5_ChainRow.f
  rw [awake_ok (show 100 ≤ 400 by decide), Option.bind_some, if_pos rfl]
  refine row_l 20 400 0 [] [0, 0, 0, 0] (by omega) (by omega) rfl (fun x hx => by cases hx) rfl (fun q h1 h2 => ?_)
  have : q = 0 ∨ q = 1 ∨ q = 2 ∨ q = 3 := by omega
  rcases this with rfl | rfl | rfl | rfl <;> rfl

end Go.Proofs.Ytabjambabnbmnaa.Pure
