/- GraphOne: a link at one end turns just that way, if the other end tells of one, too; no condition beyond the row's own. -/
import Derived.Test.YtjbejbehbjhecaaZ20x4
namespace Go.Proofs.Ytjbejbehbjhecaa.Pure
open Go.RowKit Go.Proofs.YtjbejbehbjhecaaW.PrintWords Go.Proofs.YtjbejbehbjhecaaW.PrintMore Go.Proofs.Ytjbejbehbjhecaa.Base Go.Proofs.Ytjbejbehbjhecaa.Q20 Go.Proofs.Ytjbejbehbjhecaa.L20
set_option linter.unusedVariables false
set_option linter.unusedSimpArgs false
set_option maxRecDepth 100000
abbrev zz : Mat := fun _ _ => 0
def lX (i j : Nat) (c : Int) : S57 := ⟨(i : Int) + 1, 1, 0, [⟨(j : Int) + 1, c⟩]⟩
def lY (i j : Nat) (both : Bool) : S57 := ⟨(j : Int) + 1, 1, 0, if both = true then [⟨(i : Int) + 1, 9⟩] else []⟩
theorem one_link {r t c : Int} (h1 : 1 ≤ t) (h4 : t ≤ 4) (hr : t ≠ r) (hc : 1 ≤ c ∧ c ≤ 65535) : links r 0 [(⟨t, c⟩ : S59)] = true := by
  unfold links
  rw [if_pos ⟨⟨h1, h4, hr, hc.1, hc.2⟩, by show 0 < t; omega⟩]
  rfl
theorem okX {i j : Nat} (hi : i < 4) (hj : j < 4) (hij : i ≠ j) {c : Int} (hc : 1 ≤ c ∧ c ≤ 1024) : UsOk (lX i j c) := by
  unfold UsOk LsaOk lX
  dsimp only
  exact ⟨by omega, by omega, by omega, by omega, by omega, by omega, one_link (by omega) (by omega) (by omega) (by omega)⟩
theorem okY {i j : Nat} (hi : i < 4) (hj : j < 4) (hij : i ≠ j) (both : Bool) : UsOk (lY i j both) := by
  unfold UsOk LsaOk lY
  dsimp only
  refine ⟨by omega, by omega, by omega, by omega, by omega, by omega, ?_⟩
  cases both
  · rfl
  · exact one_link (by omega) (by omega) (by omega) (by omega)
theorem st2 {x y : S57} (hx : UsOk x) (hy : UsOk y) (hlt : x.f0 < y.f0) (h1 : x.f2 < 60) (h2 : y.f2 < 60) : stOk [x, y] = true := by
  have h0 := hx.1
  have e : upd 0 [x, y] = true := by
    unfold upd; rw [if_pos ⟨hx, by omega⟩]
    unfold upd; rw [if_pos ⟨hy, hlt⟩]
    rfl
  unfold stOk young
  rw [e]
  simp [h1, h2]
theorem st_upd {l : List S57} (h : stOk l = true) : upd 0 l = true := by
  unfold stOk at h; revert h; cases upd 0 l <;> simp
def want (i j : Nat) (c : Int) (both : Bool) : Mat := if both = true then upd2 (upd2 zz i j c) j i 9 else zz
theorem nat_eq (a b : Nat) : ((a : Int) + 1 = (b : Int) + 1) = (a = b) := propext ⟨fun h => by omega, fun h => by omega⟩
theorem out_eq {i j : Nat} (hij : i ≠ j) {c : Int} (hc : 1 ≤ c) (both : Bool) {T : Mat} (hT : ∀ p q, T p q = if p = i ∧ q = j then c else if both = true ∧ p = j ∧ q = i then 9 else 0) (p q : Nat) : outOf T p q = want i j c both p q := by
  unfold outOf want
  rw [hT q p, hT p q]
  cases both <;> simp only [true_and, if_true, Bool.false_eq_true, false_and, if_false, upd2, zz] <;> repeat' split
  all_goals first | rfl | omega
theorem toldXY {i j : Nat} (hij : i ≠ j) (c : Int) (both : Bool) (l : List S57) (hl : l = [lX i j c, lY i j both] ∨ l = [lY i j both, lX i j c]) (hok : ∀ x ∈ l, UsOk x) (p q : Nat) : toldA l zz p q = if p = i ∧ q = j then c else if both = true ∧ p = j ∧ q = i then 9 else 0 := by
  rw [toldA_at l hok]
  rcases hl with rfl | rfl
  · cases both <;> simp only [lkA, lnk, lX, lY, nat_eq, true_and, if_true, Bool.false_eq_true, false_and, if_false, zz] <;> repeat' split
    all_goals first | rfl | omega
  · cases both <;> simp only [lkA, lnk, lX, lY, nat_eq, true_and, if_true, Bool.false_eq_true, false_and, if_false, zz] <;> repeat' split
    all_goals first | rfl | omega
theorem ofXY {i j : Nat} (hi : i < 4) (hj : j < 4) (hij : i < j) {c : Int} (hc : 1 ≤ c ∧ c ≤ 1024) (both : Bool) : ofAns [lX i j c, lY i j both] = tup17 (want i j c both) 0 := by
  have hs := st2 (okX hi hj (by omega) hc) (okY hi hj (by omega) both) (by show (i : Int) + 1 < (j : Int) + 1; omega) (by show (0 : Int) < 60; decide) (by show (0 : Int) < 60; decide)
  unfold ofAns
  rw [if_pos hs]
  exact tup17_congr (fun p q _ _ => out_eq (by omega) hc.1 both (toldXY (by omega) c both _ (.inl rfl) (upd_ok _ 0 (st_upd hs))) p q) 0
theorem ofYX {i j : Nat} (hi : i < 4) (hj : j < 4) (hij : j < i) {c : Int} (hc : 1 ≤ c ∧ c ≤ 1024) (both : Bool) : ofAns [lY i j both, lX i j c] = tup17 (want i j c both) 0 := by
  have hs := st2 (okY hi hj (by omega) both) (okX hi hj (by omega) hc) (by show (j : Int) + 1 < (i : Int) + 1; omega) (by show (0 : Int) < 60; decide) (by show (0 : Int) < 60; decide)
  unfold ofAns
  rw [if_pos hs]
  exact tup17_congr (fun p q _ _ => out_eq (by omega) hc.1 both (toldXY (by omega) c both _ (.inr rfl) (upd_ok _ 0 (st_upd hs))) p q) 0
theorem len2 {x y : S57} (hx : x.f3.length < 3) (hy : y.f3.length < 3) : ∀ z ∈ [x, y], z.f3.length < 3 := by
  intro z hz
  rcases List.mem_cons.mp hz with rfl | hz
  · exact hx
  · rcases List.mem_cons.mp hz with rfl | hz
    · exact hy
    · cases hz
theorem lenX (i j : Nat) (c : Int) : (lX i j c).f3.length < 3 := by show 1 < 3; decide
theorem lenY (i j : Nat) (both : Bool) : (lY i j both).f3.length < 3 := by
  unfold lY
  dsimp only
  cases both <;> simp
theorem j0_at {k : Nat} (hk : 100 ≤ k) {i j : Nat} (hi : i < 4) (hj : j < 4) (hij : i ≠ j) {c : Int} (hc : 1 ≤ c ∧ c ≤ 1024) (both : Bool) :
    watchwordlaw20_GraphOne.j0 (k + 1) both (i : Int) (j : Int) c ((i : Int) + 1) 1 0 [⟨(j : Int) + 1, c⟩] ((j : Int) + 1) 1 0 (if both = true then [⟨(i : Int) + 1, 9⟩] else []) = some true := by
  simp only [watchwordlaw20_GraphOne.j0, Option.bind_some]
  have u := ups zz i j c
  have v := ups (upd2 zz i j c) j i 9
  simp only [zz] at u v
  obtain ⟨u1, u2, u3, u4, u5, u6, u7, u8, u9, u10, u11, u12, u13, u14, u15, u16⟩ := u
  obtain ⟨v1, v2, v3, v4, v5, v6, v7, v8, v9, v10, v11, v12, v13, v14, v15, v16⟩ := v
  rw [u1, u2, u3, u4, u5, u6, u7, u8, u9, u10, u11, u12, u13, u14, u15, u16, v1, v2, v3, v4, v5, v6, v7, v8, v9, v10, v11, v12, v13, v14, v15, v16,
    if_pos (show 0 ≤ (i : Int) by omega), if_pos (show (i : Int) < 4 by omega), if_pos (show 0 ≤ (j : Int) by omega), if_pos (show (j : Int) < 4 by omega)]
  have key : ∀ l : List S57, ofAns l = tup17 (want i j c both) 0 → (∀ z ∈ l, z.f3.length < 3) → l.length = 2 → graph_Of.f k l = some (tup17 (want i j c both) 0) :=
    fun l h1 h2 h3 => by rw [← h1]; exact Of_f (M := 3) (by omega) h2 (by omega) (by omega) hk
  by_cases h : j < i
  · rw [if_pos (show (j : Int) < (i : Int) by omega), key [⟨(j : Int) + 1, 1, 0, if both = true then [⟨(i : Int) + 1, 9⟩] else []⟩, ⟨(i : Int) + 1, 1, 0, [⟨(j : Int) + 1, c⟩]⟩] (ofYX hi hj h hc both) (len2 (lenY i j both) (lenX i j c)) rfl]
    cases both <;> simp [tup17, num_ok, want]
  · rw [if_neg (show ¬ (j : Int) < (i : Int) by omega), key [⟨(i : Int) + 1, 1, 0, [⟨(j : Int) + 1, c⟩]⟩, ⟨(j : Int) + 1, 1, 0, if both = true then [⟨(i : Int) + 1, 9⟩] else []⟩] (ofXY hi hj (by omega) hc both) (len2 (lenX i j c) (lenY i j both)) rfl]
    cases both
    · simp [tup17, num_ok, want]
    · simp [tup17, num_ok, want]
      omega
theorem GraphOne : watchwordlaw20_GraphOne.Pure := by
  intro a0 a1 a2 a3 w0 w1 w2
  obtain ⟨k, hk⟩ : ∃ k : Nat, 100 ≤ k := ⟨100, Nat.le_refl _⟩
  refine ⟨k + 1, ?_⟩
  unfold watchwordlaw20_GraphOne.f
  rw [awake_ok (by omega)]
  simp only [Option.bind_some, if_true]
  rw [show Go.bits .and .i64 a0 3 = a0 % 4 from and_mask 2 (by decide) a0, show Go.bits .and .i64 a1 3 = a1 % 4 from and_mask 2 (by decide) a1, show Go.bits .and .i64 a2 1023 = a2 % 1024 from and_mask 10 (by decide) a2,
    show wrap64 (a0 % 4 + 1) = a0 % 4 + 1 by unfold wrap64; omega, show wrap64 (a1 % 4 + 1) = a1 % 4 + 1 by unfold wrap64; omega, show wrap64 (1 + a2 % 1024) = 1 + a2 % 1024 by unfold wrap64; omega]
  obtain ⟨i, hi, ei⟩ : ∃ r : Nat, r < 4 ∧ a0 % 4 = (r : Int) := ⟨(a0 % 4).toNat, by omega, by omega⟩
  obtain ⟨j, hj, ej⟩ : ∃ r : Nat, r < 4 ∧ a1 % 4 = (r : Int) := ⟨(a1 % 4).toNat, by omega, by omega⟩
  have hv : 1 ≤ 1 + a2 % 1024 ∧ 1 + a2 % 1024 ≤ 1024 := by omega
  generalize 1 + a2 % 1024 = c at hv
  rw [ei, ej]
  by_cases h : i = j
  · rw [if_pos (by omega)]
  · rw [if_neg (by omega)]
    cases a3
    · exact j0_at hk hi hj h hv false
    · exact j0_at hk hi hj h hv true
end Go.Proofs.Ytjbejbehbjhecaa.Pure
