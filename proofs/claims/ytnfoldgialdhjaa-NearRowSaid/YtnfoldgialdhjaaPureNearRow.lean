/- NearRow: of many that are heard in any row the list rises, each is there once; no condition beyond the row's own. -/
import Derived.Test.YtnfoldgialdhjaaQ19x107
import Derived.Test.YtnfoldgialdhjaaA19
namespace Go.Proofs.Ytnfoldgialdhjaa.Pure
open Go.RowKit Go.Proofs.YtnfoldgialdhjaaW.PrintWords Go.Proofs.YtnfoldgialdhjaaW.PrintLast Go.Proofs.YtnfoldgialdhjaaW.PrintMore Go.Proofs.Ytnfoldgialdhjaa.Base Go.Proofs.Ytnfoldgialdhjaa.Q19 Go.Proofs.Ytnfoldgialdhjaa.L19
set_option linter.unusedVariables false

theorem and3 (n : Int) : Go.bits .and .i64 n 3 = n % 4 := and_mask 2 (by decide) n
/-- What the table says of a router. -/
def tbl (st : List Int) (q : Int) : Option S46 := if rd st q = 0 then none else some ⟨q, rd st q, 16⟩
theorem rd_set {st : List Int} {r q v : Int} (hr : 0 ≤ r ∧ r < (st.length : Int)) (hq : 0 ≤ q) : rd (st.set r.toNat v) q = if q = r then v else rd st q := by
  unfold rd
  rw [List.getD_eq_getElem?_getD, List.getD_eq_getElem?_getD, List.getElem?_set]
  by_cases h : q = r
  · subst h
    rw [if_pos rfl, if_pos rfl, if_pos (by omega)]; rfl
  · rw [if_neg h, if_neg (by omega)]
theorem row_end {ns : List S46} {st : List Int} (hm : rises nok nkey 0 ns = true) (hst : st.length = 5) : ∀ (d k i : Nat) (r : Int) (rest : List S46), r + d = 5 → 1 ≤ r → d + 10 < k → i ≤ ns.length → ns.drop i = rest → rises nok nkey (r - 1) rest = true → (∀ q, r ≤ q → q ≤ 4 → L19.look nkey q rest = tbl st q) →
    watchwordlaw19_NearRow.l1 k ns st (i : Int) r = some true := by
  have hs := rises_short hm
  intro d
  induction d with
  | zero =>
    intro k i r rest hr h1 hk hi hd hrs hl
    obtain ⟨k, rfl⟩ : ∃ m, k = m + 1 := ⟨k - 1, by omega⟩
    have hn : rest = [] := by
      cases rest with
      | nil => rfl
      | cons y t =>
        obtain ⟨⟨o1, o2⟩, _⟩ := rises_cons.mp hrs
        have := (nkey_range o1).2
        omega
    subst hn
    have hlen : i = ns.length := by
      have := congrArg List.length hd
      rw [List.length_drop, List.length_nil] at this; omega
    rw [watchwordlaw19_NearRow.l1, if_neg (by omega), if_pos (by omega), near_May_f (by omega) (by omega), hm]
    rfl
  | succ d ih =>
    intro k i r rest hr h1 hk hi hd hrs hl
    obtain ⟨k, rfl⟩ : ∃ m, k = m + 1 := ⟨k - 1, by omega⟩
    have w1 : wrap64 (r + 1) = r + 1 := wrap_id (by omega) (by omega)
    have hlr := hl r (Int.le_refl _) (by omega)
    rw [watchwordlaw19_NearRow.l1, if_pos (by omega), if_pos (by omega), if_pos (by omega), w1]
    unfold tbl at hlr
    by_cases c : rd st r = 0
    · rw [if_pos c] at hlr
      rw [if_pos c]
      refine ih k i (r + 1) rest (by omega) (by omega) (by omega) hi hd ?_ (fun q h2 h3 => hl q (by omega) h3)
      cases rest with
      | nil => rfl
      | cons y t =>
        obtain ⟨⟨o1, o2⟩, o3⟩ := rises_cons.mp hrs
        have hne : nkey y ≠ r := fun he => by
          have : L19.look nkey r (y :: t) = some y := by unfold L19.look; rw [if_pos he]
          rw [this] at hlr; cases hlr
        exact rises_cons.mpr ⟨⟨o1, by omega⟩, o3⟩
    · rw [if_neg c] at hlr
      rw [if_neg c]
      cases rest with
      | nil => cases hlr
      | cons y t =>
        obtain ⟨⟨o1, o2⟩, o3⟩ := rises_cons.mp hrs
        by_cases he : nkey y = r
        · have hy : L19.look nkey r (y :: t) = some y := by unfold L19.look; rw [if_pos he]
          rw [hy] at hlr
          have hyv := Option.some.inj hlr
          obtain ⟨hi', hx, ht⟩ := drop_cons hd
          have w2 : wrap64 ((i : Int) + 1) = ((i + 1 : Nat) : Int) := next_wrap (by omega)
          rw [if_neg (by omega), if_pos (by omega), if_pos (by omega), rdN_at hi', hx, hyv, if_pos rfl, if_pos rfl, w2]
          refine ih k (i + 1) (r + 1) t (by omega) (by omega) (by omega) (by omega) ht ?_ (fun q h2 h3 => ?_)
          · have : r + 1 - 1 = nkey y := by omega
            rw [this]; exact o3
          · rw [← hl q (by omega) h3]
            show L19.look nkey q t = if nkey y = q then some y else L19.look nkey q t
            rw [if_neg (by omega)]
        · have : L19.look nkey r (y :: t) = none := look_lt (p := r) (rises_cons.mpr ⟨⟨o1, by omega⟩, o3⟩) (Int.le_refl _)
          rw [this] at hlr; cases hlr
theorem row_turned {ns : List S46} {st : List Int} {r : Int} {both : Bool} (h : L19.look nkey r ns = tbl st r) : turnedOf ns r (stOf both) = (rd st r != stOf both) := by
  unfold turnedOf
  rw [h]
  unfold tbl
  by_cases c : rd st r = 0
  · rw [if_pos c, c]; cases both <;> rfl
  · rw [if_neg c]
theorem row_l {l : List Int} : ∀ (d k i : Nat) (ns : List S46) (st : List Int), i + d = 30 → 2 * d + 100 < k → rises nok nkey 0 ns = true → st.length = 5 → (∀ q, 1 ≤ q → q ≤ 4 → L19.look nkey q ns = tbl st q) →
    watchwordlaw19_NearRow.l0 k l ns st (i : Int) = some true := by
  have fin : ∀ (k i : Nat) (ns : List S46) (st : List Int), 50 < k → rises nok nkey 0 ns = true → st.length = 5 → (∀ q, 1 ≤ q → q ≤ 4 → L19.look nkey q ns = tbl st q) → watchwordlaw19_NearRow.j1 k l ns st (i : Int) false = some true := by
    intro k i ns st hk hm hst hl
    obtain ⟨k, rfl⟩ : ∃ m, k = m + 1 := ⟨k - 1, by omega⟩
    rw [watchwordlaw19_NearRow.j1, if_neg (by decide)]
    exact row_end hm hst 4 k 0 1 ns (by omega) (by omega) (by omega) (Nat.zero_le _) rfl hm hl
  intro d
  induction d with
  | zero =>
    intro k i ns st hi hk hm hst hl
    obtain ⟨k, rfl⟩ : ∃ m, k = m + 1 := ⟨k - 1, by omega⟩
    rw [watchwordlaw19_NearRow.l0, decide_eq_false (by omega)]
    split
    · exact fin k i ns st (by omega) hm hst hl
    · exact fin k i ns st (by omega) hm hst hl
  | succ d ih =>
    intro k i ns st hi hk hm hst hl
    obtain ⟨k, rfl⟩ : ∃ m, k = m + 2 := ⟨k - 2, by omega⟩
    have hs := rises_short hm
    rw [watchwordlaw19_NearRow.l0]
    by_cases hlt : (i : Int) < (l.length : Int)
    · rw [if_pos hlt, decide_eq_true (by omega), watchwordlaw19_NearRow.j1, if_pos rfl, if_pos (by omega), if_pos hlt]
      have h4 : wrap64 ((i : Int) + 1) = ((i + 1 : Nat) : Int) := next_wrap (by omega)
      have h0 := Int.emod_nonneg (rd l (i : Int)) (show (4 : Int) ≠ 0 by decide)
      have h1 := Int.emod_lt_of_pos (rd l (i : Int)) (show (0 : Int) < 4 by decide)
      rw [and3]
      generalize rd l (i : Int) % 4 = m at h0 h1
      generalize Go.bits .and .i64 (rd l (i : Int)) 4 = b
      have w1 : wrap64 (1 + m) = 1 + m := wrap_id (by omega) (by omega)
      rw [w1, h4]
      generalize hr : 1 + m = r
      have hr1 : 1 ≤ r ∧ r ≤ 4 := by omega
      clear w1 h4
      have hH := fun both => near_Heard_f (l := ns) (by omega) (show ns.length + 20 < k by omega) r both
      simp only [hH, Option.bind_some, watchwordlaw0_Num.f]
      have hpos : rises nok nkey 0 ns = true ∧ 1 ≤ r ∧ r ≤ 4 := ⟨hm, hr1⟩
      simp only [if_pos hpos]
      have step : ∀ both : Bool, watchwordlaw19_NearRow.l0 k l (ins nkey ⟨r, stOf both, 16⟩ ns) (st.set r.toNat (stOf both)) ((i + 1 : Nat) : Int) = some true := by
        intro both
        have hok : nok (⟨r, stOf both, 16⟩ : S46) = true := nok_iff.mpr (nearOk_mk (by cases both <;> simp [stOf] <;> omega))
        have hkr : nkey (⟨r, stOf both, 16⟩ : S46) = r := rfl
        refine ih k (i + 1) _ _ (by omega) (by omega) (ins_rises hm hok (nkey_range hok).1) (by rw [List.length_set]; exact hst) (fun q h2 h3 => ?_)
        unfold tbl
        rw [rd_set (by omega) (by omega)]
        by_cases hq : q = r
        · have hse := look_ins_self (ok := nok) (key := nkey) (x := (⟨r, stOf both, 16⟩ : S46)) hm
          rw [hkr] at hse
          rw [hq, if_pos rfl, if_neg (by cases both <;> decide), hse]
        · rw [if_neg hq, look_ins_other (by rw [hkr]; exact hq)]
          exact hl q h2 h3
      have ht := fun both => row_turned (both := both) (hl r hr1.1 hr1.2)
      by_cases hb : b = 4
      · have hbb : (b == 4) = true := by simpa using hb
        rw [if_pos hb, if_pos trivial, if_pos (by omega), if_pos (by omega), hbb, ht true, if_neg (by simp [stOf])]
        exact step true
      · have hbb : (b == 4) = false := by simpa using hb
        rw [if_neg hb, if_pos trivial, if_pos (by omega), if_pos (by omega), hbb, ht false, if_neg (by simp [stOf])]
        exact step false
    · rw [if_neg hlt]
      exact fin (k + 1) i ns st (by omega) hm hst hl
theorem NearRow : watchwordlaw19_NearRow.Pure := by
  intro l _ _ _
  refine ⟨400, ?_⟩
  unfold watchwordlaw19_NearRow.f
  rw [awake_ok (show 100 ≤ 400 by decide), Option.bind_some, if_pos rfl]
  refine row_l 30 400 0 [] [0, 0, 0, 0, 0] (by omega) (by omega) rfl rfl (fun q h1 h2 => ?_)
  have : q = 1 ∨ q = 2 ∨ q = 3 ∨ q = 4 := by omega
  rcases this with rfl | rfl | rfl | rfl <;> rfl

end Go.Proofs.Ytnfoldgialdhjaa.Pure
