/- Written by a program of this session out of the print of the loaded functions: each Go function as a plain function, and that its call comes to it; for a law, the row out of its plain statement. -/
import Derived.Test.YtabjambabnbmnaaIns24
import Derived.Test.YtabjambabnbmnaaFnV
import Derived.Test.YtabjambabnbmnaaQ14x0
namespace Go.Proofs.Ytabjambabnbmnaa.Q14
open Go.RowKit Go.Proofs.YtabjambabnbmnaaW.PrintWords Go.Proofs.YtabjambabnbmnaaW.PrintLast Go.Proofs.YtabjambabnbmnaaW.PrintMore
attribute [local go_sem] max2_int min2_int max_two min_two max_three min_three max_four min_four   -- for this text's walks alone
set_option linter.unusedVariables false
set_option linter.unusedSimpArgs false

/-! ### api_Last_45: function 45 -/
def api_Last_45.f (l0 : List (S24)) (a1 : Int) (a2_0 : Int) (a2_1 : Int) (a2_2 : Int) (a2_3 : Int) : Option ((List (S24))) := if 0 ≤ a1 ∧ a1 ≤ (l0.length : Int) ∧ l0.length < 4398046511104 then (some (l0.take a1.toNat ++ [(⟨a2_0, a2_1, a2_2, a2_3⟩ : S24)] ++ l0.drop a1.toNat)) else (none)
set_option maxHeartbeats 4000000 in
theorem api_Last_45.calls (P0_ : Nat → Prop) (u9000_ : Value) (l0 : List (S24)) (a1 : Int) (a2_0 : Int) (a2_1 : Int) (a2_2 : Int) (a2_3 : Int) (r : List (S24)) (w0 w : World) (hB : Below w0.heap.size w0 w) (ho0 : Kd.R k24 24 w w0.heap.size P0_ u9000_ l0) (h : api_Last_45.f l0 a1 a2_0 a2_1 a2_2 a2_3 = some r) :
  Calls Try.prog 45 #[u9000_, .int .i64 a1, .slice (some ⟨w.heap.size, 0, none⟩) 1 1] (w.alloc (.cells #[.int .i64 a2_0, .int .i64 a2_1, .int .i64 a2_2, .int .i64 a2_3] 24)) fun e w' => ∃ v0_ : Value, e = .returned (v0_) ∧ Kd.R k24 24 w' w0.heap.size (fun k_ => (P0_ k_ ∨ w.heap.size ≤ k_)) v0_ r ∧ Below w0.heap.size w0 w' ∧ Kept w w' (fun k_ => P0_ k_) := by
  by_cases hc : 0 ≤ a1 ∧ a1 ≤ (l0.length : Int) ∧ l0.length < 4398046511104
  · unfold api_Last_45.f at h
    rw [if_pos hc] at h
    obtain rfl := Option.some.inj h
    clear h
    obtain ⟨h0, h1, h2⟩ := hc
    obtain ⟨i, rfl⟩ := Int.eq_ofNat_of_zero_le h0
    rw [Int.toNat_natCast]
    have hM : k24.M w w0.heap.size (fun _ => False) (⟨a2_0, a2_1, a2_2, a2_3⟩ : S24) ([.int .i64 a2_0, .int .i64 a2_1, .int .i64 a2_2, .int .i64 a2_3] : List Value) := k24_mkM _ _ _ (⟨a2_0, a2_1, a2_2, a2_3⟩ : S24)
    generalize (⟨a2_0, a2_1, a2_2, a2_3⟩ : S24) = el at hM
    generalize ([.int .i64 a2_0, .int .i64 a2_1, .int .i64 a2_2, .int .i64 a2_3] : List Value) = cs at hM
    obtain ⟨hok, inner, hown, hr⟩ := ho0
    obtain ⟨W, hW⟩ : ∃ W, W = w.alloc (.cells cs.toArray 24) := ⟨_, rfl⟩
    have hbel : Below w.heap.size w W := by rw [hW]; exact below_alloc (Below.refl _ _) _
    have hWz : W.heap.size = w.heap.size + 1 := by rw [hW]; simp
    have hvs : W.heap[w.heap.size]? = some (.cells cs.toArray 24 (0, 0)) := by rw [hW]; exact heap_alloc_new w _
    have hrW : Reps (k24.M W w0.heap.size (fun k => (P0_ k ∨ w.heap.size ≤ k) ∧ some k ≠ u9000_.ownBlock)) k24.sz l0 inner :=
      hr.imp_ (fun _ _ h => k24.M_mono (fun k hk => ⟨.inl hk.1, hk.2⟩) (Kd.M_below h hbel))
    have hMW : k24.M W w0.heap.size (fun _ => False) el cs := Kd.M_below hM hbel
    have ho1 : ∀ u ∈ cs, u.oneCell' = true := k24.K_one (k24.K_of_M hM)
    have hox : ∀ u ∈ inner, u.oneCell' = true := Kd.reps_one hr (by decide) (fun _ _ h => k24.K_one (k24.K_of_M h))
    have hcl : cs.length = k24.sz := k24.K_len (k24.K_of_M hM)
    show Calls Try.prog 45 #[u9000_, .int .i64 (i : Int), .slice (some ⟨w.heap.size, 0, none⟩) 1 1] (w.alloc (.cells cs.toArray 24)) _
    rw [← hW]
    have hBs : w0.heap.size ≤ w.heap.size := hB.size
    refine (Ins24.insert_own u9000_ l0.length i w.heap.size w0.heap.size inner cs W (pw_own_below hown hbel) (by omega) (by omega) (by omega) hvs hcl (fun he => by have := own_lt hown w.heap.size he.symm; omega) ho1 hox).mono ?_
    rintro e w' ⟨v', he, hown', hg, hat⟩
    refine ⟨v', he, Kd.R_inserted (by omega) (fun k hk => .inl (hok k hk)) hrW hMW (fun _ hk => hk.elim) (fun k hk => .inr (by omega)) hown' hg hat, ?_, ?_⟩
    · exact pw_below_grown (below_step hB hbel) _ (by omega) hg (fun k hk => own_base hown k hk)
    · refine ⟨by have := hg.size; omega, fun k hk hne => ?_⟩
      rw [hg.block k (by omega) (fun e_ => hne (hok k e_.symm))]
      exact hbel.block k hk
  · unfold api_Last_45.f at h
    rw [if_neg hc] at h
    cases h

end Go.Proofs.Ytabjambabnbmnaa.Q14
