/- LsaForms: what may not be is told, and bytes that are none; no condition beyond the row's own. -/
import Derived.Test.YtmcajcomoegkdaaQ7fx105
import Derived.Test.YtmcajcomoegkdaaL7
namespace Go.Proofs.Ytmcajcomoegkdaa.Pure
open Go.RowKit Go.Proofs.YtmcajcomoegkdaaW.PrintWords Go.Proofs.YtmcajcomoegkdaaW.PrintLast Go.Proofs.YtmcajcomoegkdaaW.PrintMore Go.Proofs.Ytmcajcomoegkdaa.Base Go.Proofs.Ytmcajcomoegkdaa.Q7f Go.Proofs.Ytmcajcomoegkdaa.L7
set_option linter.unusedVariables false

theorem and1023 (n : Int) : Go.bits .and .i64 n 1023 = n % 1024 := and_mask 10 (by decide) n
theorem and127 (n : Int) : Go.bits .and .i64 n 127 = n % 128 := and_mask 7 (by decide) n
def gl : List S49 := [⟨1, 7⟩, ⟨3, 9⟩]
theorem gl_ok : LsaOk 2 5 3 gl := by decide +kernel
def t0 : ByteArray := strOfNums (putB 2 5 3 gl)
theorem t0_size : t0.size = 15 := by unfold t0; rw [strOf_size, putB_len]; rfl
/-- The bytes with one turned. -/
def altB (i y : Nat) : ByteArray := strOfNums ((bytesOf t0).set (1 + i) (Go.bits .xor .u8 (bt t0 ((1 + i : Nat) : Int)) ((1 + y : Nat) : Int)))
theorem alt_none : ∀ i : Fin 14, ∀ y : Fin 128, (getLsa (B (altB i.val y.val))).isNone = true := by decide +kernel
theorem alt_size (i y : Nat) : (altB i y).size = 15 := by
  unfold altB
  rw [strOf_size, List.length_set, bytesOf_length, t0_size]
theorem alt_eq (a0 a1 : Int) : ∃ i y : Nat, i < 14 ∧ y < 128 ∧ alterB a0 a1 t0 = altB i y := by
  have h := idxB_rem a0
  have h0 := Int.emod_nonneg a1 (show (128 : Int) ≠ 0 by decide)
  have h1 := Int.emod_lt_of_pos a1 (show (0 : Int) < 128 by decide)
  refine ⟨(Int.tmod (IntKind.u64.wrap a0) 14).toNat, (a1 % 128).toNat, by omega, by omega, ?_⟩
  unfold alterB altB idxB
  rw [and127]
  have w : wrap64 (1 + a1 % 128) % 256 = ((1 + (a1 % 128).toNat : Nat) : Int) := by rw [wrap_id (by omega) (by omega)]; omega
  rw [w]
theorem get_alt (a0 a1 : Int) {k : Nat} (hk : 600 ≤ k) : lsa_Get.f k (alterB a0 a1 t0) 0 = some (0, 0, 0, [], 0, 700) := by
  obtain ⟨i, y, hi, hy, he⟩ := alt_eq a0 a1
  rw [he, lsa_Get_f (by rw [alt_size]; omega) (by decide) hk, if_pos (by decide), Int.toNat_zero, List.drop_zero]
  have := alt_none ⟨i, hi⟩ ⟨y, hy⟩
  rw [Option.isNone_iff_eq_none.mp this]
  rfl
theorem links_no {rt : Int} {l : List S49} {x : S49} (hx : x ∈ l) (h : ¬ LinkOk rt x) {r s g : Int} (hr : r = rt) : ¬ LsaOk r s g l := fun ho => by
  subst hr
  exact h (links_range l 0 ho.2.2.2.2.2.2 x hx)
theorem put_g {k : Nat} (hk : 700 ≤ k) : lsa_Put.f k 2 5 3 gl = some (t0, 0) := by
  rw [lsa_Put_f (by decide) (show gl.length < k by show 2 < k; omega) (by omega), if_pos gl_ok]
  unfold t0
  exact rfl
theorem none_14 : getLsa ((B (t0.extract 0 14)).drop (0 : Int).toNat) = none := by decide +kernel
theorem get_14 {k : Nat} (hk : 700 ≤ k) : lsa_Get.f k (t0.extract 0 14) 0 = some (0, 0, 0, [], 0, 700) := by
  rw [lsa_Get_f (by rw [ByteArray.size_extract, t0_size]; omega) (by decide) (by omega), if_pos (by decide), none_14]; rfl
theorem get_neg {k : Nat} (hk : 700 ≤ k) {d : Int} (hd : 1 ≤ d ∧ d ≤ 1024) : lsa_Get.f k t0 (-d) = some (0, 0, 0, [], 0, 700) := by
  rw [lsa_Get_f (by rw [t0_size]; omega) (by omega) (by omega), if_neg (by omega)]; rfl
theorem get_far {k : Nat} (hk : 700 ≤ k) {d : Int} (hd : 1 ≤ d ∧ d ≤ 1024) : lsa_Get.f k t0 (15 + d) = some (0, 0, 0, [], 0, 700) := by
  rw [lsa_Get_f (by rw [t0_size]; omega) (by omega) (by omega), if_pos (by omega), List.drop_of_length_le (by rw [B_len, t0_size]; omega)]; rfl
theorem may_g {k : Nat} (hk : 700 ≤ k) : lsa_May.f k 2 5 3 gl = some true := by rw [lsa_May_f (by decide) (show gl.length < k by show 2 < k; omega), decide_eq_true gl_ok]
theorem no_bytes : (⟨#[]⟩ : ByteArray).toList = ([] : List UInt8) := by decide +kernel
theorem forms_j0 {k : Nat} (hk : 700 ≤ k) {A : ByteArray → ByteArray} {br bs bg d : Int} {bl : List S49} (hd : 1 ≤ d ∧ d ≤ 1024) (hbl : bl.length = 2) (hno : ¬ LsaOk br bs bg bl) (hA : lsa_Get.f k (A t0) 0 = some (0, 0, 0, [], 0, 700)) :
    watchwordlaw7_LsaForms.j0 (k + 2) A d 2 5 3 gl br bs bg bl = some true := by
  have w1 : wrap64 (-d) = -d := wrap_id (by omega) (by omega)
  have w2 : wrap64 (15 + d) = 15 + d := wrap_id (by omega) (by omega)
  have h1 : lsa_Put.f (k + 1) br bs bg bl = some (⟨#[]⟩, 700) := by rw [lsa_Put_f (by omega) (by omega) (by omega), if_neg hno]
  have h2 : lsa_Head.f (k + 1) br bs bg bl = some (0, 0, 0, 0, 700) := by rw [lsa_Head_f (by omega) (by omega) (by omega), if_neg hno]
  have h3 := put_g (show 700 ≤ k + 1 by omega)
  have h4 := get_14 hk
  have h5 := get_neg hk hd
  have h6 := get_far hk hd
  have h7 : lsa_May.f k br bs bg bl = some false := by rw [lsa_May_f (by omega) (by omega), decide_eq_false hno]
  have h8 := may_g hk
  have hsz := t0_size
  generalize t0 = t at *
  have hs : ((t.size : Int) != 15) = false := by rw [hsz]; rfl
  have he := no_bytes
  have hj1 : watchwordlaw7_LsaForms.j1 (k + 1) A d ⟨#[]⟩ 700 700 t false 2 5 3 gl br bs bg bl = some true := by
    rw [watchwordlaw7_LsaForms.j1, if_neg (by decide), if_pos hsz, hA]
    simp only [Option.bind_some, w1, w2]
    rw [if_pos (by decide), if_pos (by rw [hsz]; decide), h4]
    simp only [Option.bind_some, h5, h6, h7, h8, watchwordlaw0_Num.f]
    rw [if_neg (by decide), if_pos trivial, if_pos he, if_pos trivial, if_pos trivial, if_pos trivial, if_pos trivial, if_pos trivial]
    rfl
  rw [watchwordlaw7_LsaForms.j0, h1]
  simp only [Option.bind_some, h2, h3, watchwordlaw0_Num.f, hs]
  rw [if_pos trivial]
  exact hj1
theorem LsaForms : watchwordlaw7_LsaForms.Pure := by
  intro a0 a1 _ _
  refine ⟨798 + 2, ?_⟩
  have hA := get_alt a0 a1 (show 600 ≤ 798 by decide)
  generalize alterB a0 a1 = A at hA ⊢
  have hd0 := Int.emod_nonneg a1 (show (1024 : Int) ≠ 0 by decide)
  have hd1 := Int.emod_lt_of_pos a1 (show (0 : Int) < 1024 by decide)
  unfold watchwordlaw7_LsaForms.f
  rw [and1023 a1]
  generalize a1 % 1024 = e at hd0 hd1 ⊢
  generalize Int.tmod (IntKind.u64.wrap a0) 13 = q
  have w0 : wrap64 (1 + e) = 1 + e := wrap_id (by omega) (by omega)
  rw [w0, awake_ok (show 700 ≤ 798 + 2 by decide), Option.bind_some, if_pos rfl, Option.bind_some]
  generalize hd : 1 + e = d
  have hd' : 1 ≤ d ∧ d ≤ 1024 := by omega
  clear w0 hd hd0 hd1
  have hc : watchwordlaw0_CopyLsa.f 2 5 3 ([⟨1, 7⟩, ⟨3, 9⟩] : List S49) = some (2, 5, 3, gl) := by decide +kernel
  rw [hc, Option.bind_some]
  have w1 : wrap64 (1 - d) = 1 - d := wrap_id (by omega) (by omega)
  have w2 : wrap64 (4 + d) = 4 + d := wrap_id (by omega) (by omega)
  have w3 : wrap64 (2147483647 + d) = 2147483647 + d := wrap_id (by omega) (by omega)
  have w4 : wrap64 (-d) = -d := wrap_id (by omega) (by omega)
  have w5 : wrap64 (60 + d) = 60 + d := wrap_id (by omega) (by omega)
  have w6 : wrap64 (65535 + d) = 65535 + d := wrap_id (by omega) (by omega)
  rw [w1, w2, w3, w4, w5, w6]
  clear w1 w2 w3 w4 w5 w6
  have F : ∀ (br bs bg : Int) (bl : List S49), bl.length = 2 → ¬ LsaOk br bs bg bl → watchwordlaw7_LsaForms.j0 (798 + 2) A d 2 5 3 gl br bs bg bl = some true := fun br bs bg bl h1 h2 => forms_j0 (by decide) hd' h1 h2 hA
  have r0 : rd_T49 gl 0 = ⟨1, 7⟩ := rfl
  have r1 : rd_T49 gl 1 = ⟨3, 9⟩ := rfl
  have p0 : (0 : Int) < (gl.length : Int) := by decide
  have p1 : (1 : Int) < (gl.length : Int) := by decide
  by_cases c0 : q = 0
  · rw [if_pos c0]; exact F _ _ _ _ rfl (fun h => by have := h.1; omega)
  rw [if_neg c0]
  by_cases c1 : q = 1
  · rw [if_pos c1]; exact F _ _ _ _ rfl (fun h => by have := h.2.1; omega)
  rw [if_neg c1]
  by_cases c2 : q = 2
  · rw [if_pos c2]; exact F _ _ _ _ rfl (fun h => by have := h.2.2.1; omega)
  rw [if_neg c2]
  by_cases c3 : q = 3
  · rw [if_pos c3]; exact F _ _ _ _ rfl (fun h => by have := h.2.2.2.1; omega)
  rw [if_neg c3]
  by_cases c4 : q = 4
  · rw [if_pos c4]; exact F _ _ _ _ rfl (fun h => by have := h.2.2.2.2.1; omega)
  rw [if_neg c4]
  by_cases c5 : q = 5
  · rw [if_pos c5]; exact F _ _ _ _ rfl (fun h => by have := h.2.2.2.2.2.1; omega)
  rw [if_neg c5]
  by_cases c6 : q = 6
  · rw [if_pos c6, if_pos p0]
    exact F 2 5 3 [⟨1 - d, 7⟩, ⟨3, 9⟩] rfl (links_no (rt := 2) (x := ⟨1 - d, 7⟩) List.mem_cons_self (fun h => by have h' : 1 ≤ 1 - d := h.1; omega) rfl)
  rw [if_neg c6]
  by_cases c7 : q = 7
  · rw [if_pos c7, if_pos p1]
    exact F 2 5 3 [⟨1, 7⟩, ⟨4 + d, 9⟩] rfl (links_no (rt := 2) (x := ⟨4 + d, 9⟩) (List.mem_cons_of_mem _ List.mem_cons_self) (fun h => by have h' : 4 + d ≤ 4 := h.2.1; omega) rfl)
  rw [if_neg c7]
  by_cases c8 : q = 8
  · rw [if_pos c8, if_pos p0]
    exact F 2 5 3 [⟨2, 7⟩, ⟨3, 9⟩] rfl (by decide +kernel)
  rw [if_neg c8]
  by_cases c9 : q = 9
  · rw [if_pos c9, if_pos p1]
    exact F 2 5 3 [⟨1, 7⟩, ⟨1, 9⟩] rfl (by decide +kernel)
  rw [if_neg c9]
  by_cases c10 : q = 10
  · rw [if_pos c10, if_pos p0]
    exact F 2 5 3 [⟨1, 1 - d⟩, ⟨3, 9⟩] rfl (links_no (rt := 2) (x := ⟨1, 1 - d⟩) List.mem_cons_self (fun h => by have h' : 1 ≤ 1 - d := h.2.2.2.1; omega) rfl)
  rw [if_neg c10]
  by_cases c11 : q = 11
  · rw [if_pos c11, if_pos p1]
    exact F 2 5 3 [⟨1, 7⟩, ⟨3, 65535 + d⟩] rfl (links_no (rt := 2) (x := ⟨3, 65535 + d⟩) (List.mem_cons_of_mem _ List.mem_cons_self) (fun h => by have h' : 65535 + d ≤ 65535 := h.2.2.2.2; omega) rfl)
  rw [if_neg c11]
  exact F 3 5 3 gl rfl (by decide +kernel)

end Go.Proofs.Ytmcajcomoegkdaa.Pure
