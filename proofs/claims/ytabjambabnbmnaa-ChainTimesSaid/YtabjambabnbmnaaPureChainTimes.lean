/- ChainTimes: what is sent with is the latest within its time, what is accepted within its own; no condition beyond the row's own. -/
import Derived.Test.YtabjambabnbmnaaQ5x109
import Derived.Test.YtabjambabnbmnaaA5
import Derived.Test.YtabjambabnbmnaaO5
namespace Go.Proofs.Ytabjambabnbmnaa.Pure
open Go.RowKit Go.Proofs.YtabjambabnbmnaaW.PrintWords Go.Proofs.YtabjambabnbmnaaW.PrintLast Go.Proofs.YtabjambabnbmnaaW.PrintMore Go.Proofs.Ytabjambabnbmnaa.Base Go.Proofs.Ytabjambabnbmnaa.Q5 Go.Proofs.Ytabjambabnbmnaa.L5 Go.Proofs.Ytabjambabnbmnaa.O5
set_option linter.unusedVariables false

theorem and255 (n : Int) : Go.bits .and .i64 n 255 = n % 256 := and_mask 8 (by decide) n
theorem and1023' (n : Int) : Go.bits .and .i64 n 1023 = n % 1024 := and_mask 10 (by decide) n
/-- Within the time of sending. -/
def In (t : Int) (x : S50) : Prop := x.f2 ≤ t ∧ t < x.f3
/-- As late, or later. -/
def Ge (k x : S50) : Prop := x.f2 < k.f2 ∨ x.f2 = k.f2 ∧ x.f0 ≤ k.f0
theorem Ge.trans {a b c : S50} (h : Ge a b) (g : Ge b c) : Ge a c := by unfold Ge at *; omega
theorem send_all {t : Int} : ∀ {l : List S50} {b : Option S50} {p : Int}, rises kok kkey p l = true → (∀ y, b = some y → y.f0 ≤ p ∧ In t y) →
    (∀ y, b = some y → ∃ k, send t b l = some k ∧ Ge k y) ∧ (∀ x ∈ l, In t x → ∃ k, send t b l = some k ∧ Ge k x) ∧ (∀ k, send t b l = some k → In t k) := by
  intro l
  induction l with
  | nil =>
    intro b p _ hb
    exact ⟨fun y h => ⟨y, h, .inr ⟨rfl, Int.le_refl _⟩⟩, (fun x hx => by cases hx), fun k hk => (hb k hk).2⟩
  | cons x l ih =>
    intro b p h hb
    obtain ⟨⟨o1, o2⟩, o3⟩ := rises_cons.mp h
    have o2' : p < x.f0 := o2
    show (∀ y, b = some y → ∃ k, send t (if x.f2 ≤ t ∧ t < x.f3 ∧ late b x = true then some x else b) l = some k ∧ Ge k y) ∧ (∀ z ∈ x :: l, In t z → ∃ k, send t (if x.f2 ≤ t ∧ t < x.f3 ∧ late b x = true then some x else b) l = some k ∧ Ge k z) ∧ (∀ k, send t (if x.f2 ≤ t ∧ t < x.f3 ∧ late b x = true then some x else b) l = some k → In t k)
    by_cases c : x.f2 ≤ t ∧ t < x.f3 ∧ late b x = true
    · rw [if_pos c]
      obtain ⟨i1, i2, i3⟩ := ih (b := some x) o3 (fun y hy => by cases hy; exact ⟨Int.le_refl _, c.1, c.2.1⟩)
      obtain ⟨k, hk, hg⟩ := i1 x rfl
      refine ⟨fun y hy => ⟨k, hk, hg.trans ?_⟩, fun z hz hi => ?_, i3⟩
      · subst hy
        have := of_decide_eq_true (show decide (x.f2 ≥ y.f2) = true from c.2.2)
        have := (hb y rfl).1
        unfold Ge; omega
      · rcases List.mem_cons.mp hz with rfl | hz
        · exact ⟨k, hk, hg⟩
        · exact i2 z hz hi
    · rw [if_neg c]
      obtain ⟨i1, i2, i3⟩ := ih (b := b) o3 (fun y hy => ⟨by have := (hb y hy).1; show y.f0 ≤ x.f0; omega, (hb y hy).2⟩)
      refine ⟨i1, fun z hz hi => ?_, i3⟩
      rcases List.mem_cons.mp hz with rfl | hz
      · cases b with
        | none => exact absurd ⟨hi.1, hi.2, rfl⟩ c
        | some y =>
          obtain ⟨k, hk, hg⟩ := i1 y rfl
          refine ⟨k, hk, hg.trans (.inl ?_)⟩
          apply Int.lt_of_not_ge
          intro hc
          exact c ⟨hi.1, hi.2, decide_eq_true hc⟩
      · exact i2 z hz hi
theorem look_of_mem {l : List S50} {x : S50} : ∀ {p : Int}, rises kok kkey p l = true → x ∈ l → L5.look kkey x.f0 l = some x := by
  induction l with
  | nil => intro p _ hx; cases hx
  | cons y l ih =>
    intro p h hx
    obtain ⟨_, o3⟩ := rises_cons.mp h
    show (if kkey y = x.f0 then some y else L5.look kkey x.f0 l) = some x
    rcases List.mem_cons.mp hx with rfl | hx
    · rw [if_pos (show kkey x = x.f0 from rfl)]
    · have : kkey y < kkey x := (rises_mem o3 x hx).2
      rw [if_neg (show ¬ kkey y = x.f0 from fun he => by unfold kkey at this he; omega)]
      exact ih o3 hx
theorem times_l {l : List S50} {a1 t id : Int} (hid : Go.bits .and .i64 a1 255 = id) (hl : l.length ≤ 1000) :
    ∀ {S A : Option S50}, (∀ x ∈ l, In t x → ∃ k, S = some k ∧ Ge k x) → (∀ k, S = some k → In t k) →
    (∀ x ∈ l, x.f0 = id → x.f4 ≤ t → t < x.f5 → A = some x) → (∀ x, A = some x → x.f0 = id ∧ x.f4 ≤ t ∧ t < x.f5) →
    ∀ (d k i : Nat), i + d = l.length → 2 * d < k →
    watchwordlaw5_ChainTimes.l0 k l a1 t (tup S).2.2.2.2.2.2 (tup A).2.2.2.2.2.2 (i : Int) (tup S).1 (tup S).2.1 (tup S).2.2.1 (tup S).2.2.2.1 (tup S).2.2.2.2.1 (tup S).2.2.2.2.2.1 (tup A).1 (tup A).2.1 (tup A).2.2.1 (tup A).2.2.2.1 (tup A).2.2.2.2.1 (tup A).2.2.2.2.2.1 = some true := by
  intro S A hS hS1 hA hA1 d
  induction d with
  | zero =>
    intro k i hi hk
    obtain ⟨k, rfl⟩ : ∃ m, k = m + 1 := ⟨k - 1, by omega⟩
    simp only [watchwordlaw5_ChainTimes.l0, watchwordlaw0_Num.f, Option.bind_some, hid]
    rw [if_neg (by omega)]
    cases S with
    | none =>
      cases A with
      | none => rfl
      | some m => obtain ⟨m1, m2, m3⟩ := hA1 m rfl; simp [tup, m1, m2, m3]
    | some k =>
      obtain ⟨k1, k2⟩ := hS1 k rfl
      cases A with
      | none => simp [tup, k1, k2]
      | some m => obtain ⟨m1, m2, m3⟩ := hA1 m rfl; simp [tup, m1, m2, m3, k1, k2]
  | succ d ih =>
    intro k i hi hk
    obtain ⟨k, rfl⟩ : ∃ m, k = m + 2 := ⟨k - 2, by omega⟩
    have hlt : i < l.length := by omega
    have hx := List.getElem_mem hlt
    have h4 : wrap64 ((i : Int) + 1) = ((i + 1 : Nat) : Int) := next_wrap (by omega)
    have hi' := ih k (i + 1) (by omega) (by omega)
    have hj : ∀ c : Bool, c = false → watchwordlaw5_ChainTimes.j1 (k + 1) l a1 t (tup S).2.2.2.2.2.2 (tup A).2.2.2.2.2.2 (i : Int) c (tup S).1 (tup S).2.1 (tup S).2.2.1 (tup S).2.2.2.1 (tup S).2.2.2.2.1 (tup S).2.2.2.2.2.1 (tup A).1 (tup A).2.1 (tup A).2.2.1 (tup A).2.2.2.1 (tup A).2.2.2.2.1 (tup A).2.2.2.2.2.1 l[i].f0 l[i].f1 l[i].f2 l[i].f3 l[i].f4 l[i].f5 = some true := by
      intro c hc
      subst hc
      rw [watchwordlaw5_ChainTimes.j1]
      simp only [watchwordlaw0_Num.f, Option.bind_some, Bool.false_eq_true, if_false, h4, hid]
      by_cases h1 : l[i].f0 = id
      · rw [if_pos h1]
        by_cases h2 : l[i].f4 ≤ t
        · rw [if_pos h2]
          by_cases h3 : t < l[i].f5
          · rw [if_pos h3]
            have := hA l[i] hx h1 h2 h3
            subst this
            have : (0 : Int) = 0 := rfl
            rw [if_pos (show (tup (some l[i])).2.2.2.2.2.2 = 0 from rfl)]
            have e1 : (tup (some l[i])).1 = l[i].f0 := rfl
            have e2 : (tup (some l[i])).2.1 = l[i].f1 := rfl
            have e3 : (tup (some l[i])).2.2.1 = l[i].f2 := rfl
            have e4 : (tup (some l[i])).2.2.2.1 = l[i].f3 := rfl
            have e5 : (tup (some l[i])).2.2.2.2.1 = l[i].f4 := rfl
            have e6 : (tup (some l[i])).2.2.2.2.2.1 = l[i].f5 := rfl
            rw [if_neg (by rw [e1, e2, e3, e4, e5, e6]; simp)]
            exact hi'
          · rw [if_neg h3]; exact hi'
        · rw [if_neg h2]; exact hi'
      · rw [if_neg h1]; exact hi'
    rw [watchwordlaw5_ChainTimes.l0, rdK_at hlt, if_pos (by omega), if_pos (by omega)]
    by_cases c1 : l[i].f2 ≤ t
    · rw [if_pos c1]
      by_cases c2 : t < l[i].f3
      · rw [if_pos c2]
        obtain ⟨y, rfl, hg⟩ := hS l[i] hx ⟨c1, c2⟩
        unfold Ge at hg
        simp only [watchwordlaw0_Num.f, Option.bind_some]
        rw [if_pos (show (tup (some y)).2.2.2.2.2.2 = 0 from rfl), if_neg (show ¬ l[i].f2 > (tup (some y)).2.2.1 from by show ¬ l[i].f2 > y.f2; omega)]
        by_cases c3 : l[i].f2 = y.f2
        · rw [if_pos (show l[i].f2 = (tup (some y)).2.2.1 from c3)]
          exact hj _ (decide_eq_false (by show ¬ l[i].f0 > y.f0; omega))
        · rw [if_neg (show ¬ l[i].f2 = (tup (some y)).2.2.1 from c3)]
          exact hj _ rfl
      · rw [if_neg c2]; exact hj _ rfl
    · rw [if_neg c1]; exact hj _ rfl
theorem ChainTimes : ∀ (l0 : List (S50)) (a1 : Int) (a2 : Int), (l0.length * 56 ≤ 140737488351232 ∧ l0.length ≤ maxLen ∧ ∀ y ∈ l0, R50 y) → (Lit.int .i64 a1).wf = true → (Lit.int .i64 a2).wf = true → ∃ k, watchwordlaw5_ChainTimes.f k l0 a1 a2 = some true := by
  intro l a1 a2 hl _ _
  refine ⟨l.length + 200, ?_⟩
  have hn : l.length ≤ 2513169434914 := by omega
  unfold watchwordlaw5_ChainTimes.f
  have ht0 := Int.emod_nonneg a2 (show (1024 : Int) ≠ 0 by decide)
  have ht1 := Int.emod_lt_of_pos a2 (show (0 : Int) < 1024 by decide)
  have hi0 := Int.emod_nonneg a1 (show (256 : Int) ≠ 0 by decide)
  have hi1 := Int.emod_lt_of_pos a1 (show (0 : Int) < 256 by decide)
  have hid := and255 a1
  rw [and1023' a2]
  generalize hq : Go.bits .and .i64 a1 255 = q at hid ⊢
  generalize a2 % 1024 = t at ht0 ht1 ⊢
  generalize a1 % 256 = r at hi0 hi1 hid
  subst hid
  rw [awake_ok (by omega), Option.bind_some, if_pos rfl, chain_Send_f (by omega) (by omega), chain_Accept_f (by omega) (by omega) (by omega), chain_May_f (by omega) (by omega)]
  simp only [Option.bind_some]
  by_cases h : chainOk l = true
  · have hc : chainOk l = true ∧ 0 ≤ t ∧ t ≤ 1048576 := ⟨h, by omega, by omega⟩
    rw [if_pos h, if_pos hc, if_pos hc]
    obtain ⟨hr, h4⟩ := chainOk_iff.mp h
    obtain ⟨_, s2, s3⟩ := send_all (t := t) (b := none) hr (fun y hy => by cases hy)
    refine times_l hq (by omega) s2 s3 ?_ ?_ l.length _ 0 (Nat.zero_add _) (by omega)
    · intro x hx h1 h2 h3
      unfold accept
      rw [← h1, look_of_mem hr hx]
      simp only
      rw [if_neg (by omega)]
    · intro x hx
      unfold accept at hx
      cases hq : L5.look kkey q l with
      | none => rw [hq] at hx; cases hx
      | some y =>
        rw [hq] at hx
        simp only at hx
        have hm := look_mem hq
        by_cases hc : y.f4 > t ∨ t ≥ y.f5
        · rw [if_pos hc] at hx; cases hx
        · rw [if_neg hc] at hx
          cases hx
          exact ⟨hm.2, by omega, by omega⟩
  · have hc : ¬ (chainOk l = true ∧ 0 ≤ t ∧ t ≤ 1048576) := fun hh => h hh.1
    rw [if_neg h, if_neg hc, if_neg hc]
    rfl

end Go.Proofs.Ytabjambabnbmnaa.Pure
