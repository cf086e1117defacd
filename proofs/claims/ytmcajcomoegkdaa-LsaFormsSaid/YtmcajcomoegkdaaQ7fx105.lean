/- Printed. -/
import Derived.Test.YtmcajcomoegkdaaQ7fx0
import Derived.Test.YtmcajcomoegkdaaQ7fx112
import Derived.Test.YtmcajcomoegkdaaQ7fx113
import Derived.Test.YtmcajcomoegkdaaQ7fx115
import Derived.Test.YtmcajcomoegkdaaQ7fx117
import Derived.Test.YtmcajcomoegkdaaQ7fx119
import Derived.Test.YtmcajcomoegkdaaQ7fx121
import Derived.Test.YtmcajcomoegkdaaQ7fx124
namespace Go.Proofs.Ytmcajcomoegkdaa.Q7f
open Go.RowKit Go.Proofs.YtmcajcomoegkdaaW.PrintWords Go.Proofs.YtmcajcomoegkdaaW.PrintLast Go.Proofs.YtmcajcomoegkdaaW.PrintMore
attribute [local go_sem] max2_int min2_int max_two min_two max_three min_three max_four min_four   -- for this text's walks alone
set_option linter.unusedVariables false
set_option linter.unusedSimpArgs false

/-! ### watchwordlaw7_LsaForms: function 5 -/
/-- The place whose byte is turned, and its bytes. -/
theorem upB {A B : Prop} (h : A) (f : A → B := by intro h_; (with_reducible repeat (first | refine blk_drewN ?_ _ | refine blk_drew ?_ | refine blk_alloc ?_ _)); exact h_) : B := f h
theorem upR {A B : Prop} (h : A) (f : A → B := by intro h_; (with_reducible repeat (first | apply Kd.R_alloc | apply Kd.R_drewN | apply Kd.R_drew)); exact h_) : B := f h
theorem upF {N A B : Prop} (n : N) (h : A) (f : N → A → B := by intro n_ h_; (with_reducible repeat (first | refine blk_far ?_ n_ _ | refine blk_drewN ?_ _ | refine blk_drew ?_ | refine blk_alloc ?_ _)); exact h_) : B := f n h
def idxB (a0 : Int) : Nat := 1 + (Int.tmod (IntKind.u64.wrap a0) 14).toNat
theorem idxB_pos (a0 : Int) : 1 ≤ idxB a0 := Nat.le_add_right _ _
theorem idxB_rem (a0 : Int) : 0 ≤ Int.tmod (IntKind.u64.wrap a0) 14 ∧ Int.tmod (IntKind.u64.wrap a0) 14 < 14 := by
  have h : 0 ≤ IntKind.u64.wrap a0 := by unfold IntKind.wrap; simp [IntKind.signed]; omega
  exact ⟨Int.tmod_nonneg _ h, Int.tmod_lt_of_pos _ (by omega)⟩
theorem idxB_lt (a0 : Int) : idxB a0 ≤ 14 := by
  have := idxB_rem a0; unfold idxB; omega
theorem idxB_eq (a0 : Int) : wrap64 (1 + wrap64 (Int.tmod (IntKind.u64.wrap a0) 14)) = ((idxB a0 : Nat) : Int) := by
  have h := idxB_rem a0; unfold idxB
  generalize Int.tmod (IntKind.u64.wrap a0) 14 = y at h ⊢
  unfold wrap64; omega
def alterB (a0 a1 : Int) (t : ByteArray) : ByteArray := strOfNums ((bytesOf t).set (idxB a0) (Go.bits .xor .u8 (bt t (idxB a0 : Int)) (wrap64 (1 + Go.bits .and .i64 a1 127) % 256)))

mutual
def watchwordlaw7_LsaForms.j0 : Nat → (ByteArray → ByteArray) → Int → Int → Int → Int → List (S49) → Int → Int → Int → List (S49) → Option (Bool)
 | 0, _, _, _, _, _, _, _, _, _, _ => none
 | k + 1, x2, x5, x203000, x203001, x203002, x203003, x210000, x210001, x210002, x210003 => (lsa_Put.f k x210000 x210001 x210002 x210003).bind fun bt216 => ((lsa_Head.f k x210000 x210001 x210002 x210003).bind fun bt218 => ((lsa_Put.f k x203000 x203001 x203002 x203003).bind fun bt224 => ((watchwordlaw0_Num.f bt224.2).bind fun t226 => (if t226 = 0 then (watchwordlaw7_LsaForms.j1 k x2 x5 bt216.1 bt216.2 bt218.2.2.2.2 bt224.1 ((bt224.1.size : Int) != 15) x203000 x203001 x203002 x203003 x210000 x210001 x210002 x210003) else (watchwordlaw7_LsaForms.j1 k x2 x5 bt216.1 bt216.2 bt218.2.2.2.2 bt224.1 true x203000 x203001 x203002 x203003 x210000 x210001 x210002 x210003)))))
def watchwordlaw7_LsaForms.j1 : Nat → (ByteArray → ByteArray) → Int → ByteArray → Int → Int → ByteArray → Bool → Int → Int → Int → List (S49) → Int → Int → Int → List (S49) → Option (Bool)
 | 0, _, _, _, _, _, _, _, _, _, _, _, _, _, _, _ => none
 | k + 1, x2, x5, x8, x9, x11, x12, x139, x203000, x203001, x203002, x203003, x210000, x210001, x210002, x210003 => if x139 = true then (some false) else (if x12.size = 15 then ((lsa_Get.f k (x2 x12) 0).bind fun bt227 => (if 0 ≤ 14 then (if 14 ≤ (x12.size : Int) then ((lsa_Get.f k (x12.extract 0 14) 0).bind fun bt236 => ((lsa_Get.f k x12 (wrap64 (-x5))).bind fun bt245 => ((lsa_Get.f k x12 (wrap64 (15 + x5))).bind fun bt254 => ((lsa_May.f k x210000 x210001 x210002 x210003).bind fun t263 => (if t263 = true then (some false) else ((lsa_May.f k x203000 x203001 x203002 x203003).bind fun t264 => (if t264 = true then (if x8.toList = ([] : List UInt8) then ((watchwordlaw0_Num.f x9).bind fun t265 => (if t265 = 700 then ((watchwordlaw0_Num.f x11).bind fun t266 => (if t266 = 700 then ((watchwordlaw0_Num.f bt227.2.2.2.2.2).bind fun t267 => (if t267 = 700 then ((watchwordlaw0_Num.f bt236.2.2.2.2.2).bind fun t268 => (if t268 = 700 then ((watchwordlaw0_Num.f bt245.2.2.2.2.2).bind fun t269 => (if t269 = 700 then ((watchwordlaw0_Num.f bt254.2.2.2.2.2).bind fun t270 => (some (t270 == 700))) else (some false))) else (some false))) else (some false))) else (some false))) else (some false))) else (some false)) else (some false)))))))) else (none)) else (none))) else none)
end
def watchwordlaw7_LsaForms.f (k : Nat) (a0 : Int) (a1 : Int) (a2 : ByteArray → ByteArray) : Option (Bool) := (watchwordlaw7_awake.f k).bind fun t198 => (if t198 = true then ((some (([(⟨1, 7⟩ : S49), (⟨3, 9⟩ : S49)] : List (S49)) : List (S49))).bind fun y199 => ((watchwordlaw0_CopyLsa.f 2 5 3 y199).bind fun bt203 => (if (Int.tmod (IntKind.u64.wrap (a0)) 13) = 0 then (watchwordlaw7_LsaForms.j0 k a2 (wrap64 (1 + (Go.bits .and .i64 a1 1023))) 2 5 3 y199 (wrap64 (1 - (wrap64 (1 + (Go.bits .and .i64 a1 1023))))) bt203.2.1 bt203.2.2.1 bt203.2.2.2) else (if (Int.tmod (IntKind.u64.wrap (a0)) 13) = 1 then (watchwordlaw7_LsaForms.j0 k a2 (wrap64 (1 + (Go.bits .and .i64 a1 1023))) 2 5 3 y199 (wrap64 (4 + (wrap64 (1 + (Go.bits .and .i64 a1 1023))))) bt203.2.1 bt203.2.2.1 bt203.2.2.2) else (if (Int.tmod (IntKind.u64.wrap (a0)) 13) = 2 then (watchwordlaw7_LsaForms.j0 k a2 (wrap64 (1 + (Go.bits .and .i64 a1 1023))) 2 5 3 y199 bt203.1 (wrap64 (1 - (wrap64 (1 + (Go.bits .and .i64 a1 1023))))) bt203.2.2.1 bt203.2.2.2) else (if (Int.tmod (IntKind.u64.wrap (a0)) 13) = 3 then (watchwordlaw7_LsaForms.j0 k a2 (wrap64 (1 + (Go.bits .and .i64 a1 1023))) 2 5 3 y199 bt203.1 (wrap64 (2147483647 + (wrap64 (1 + (Go.bits .and .i64 a1 1023))))) bt203.2.2.1 bt203.2.2.2) else (if (Int.tmod (IntKind.u64.wrap (a0)) 13) = 4 then (watchwordlaw7_LsaForms.j0 k a2 (wrap64 (1 + (Go.bits .and .i64 a1 1023))) 2 5 3 y199 bt203.1 bt203.2.1 (wrap64 (-(wrap64 (1 + (Go.bits .and .i64 a1 1023))))) bt203.2.2.2) else (if (Int.tmod (IntKind.u64.wrap (a0)) 13) = 5 then (watchwordlaw7_LsaForms.j0 k a2 (wrap64 (1 + (Go.bits .and .i64 a1 1023))) 2 5 3 y199 bt203.1 bt203.2.1 (wrap64 (60 + (wrap64 (1 + (Go.bits .and .i64 a1 1023))))) bt203.2.2.2) else (if (Int.tmod (IntKind.u64.wrap (a0)) 13) = 6 then (if 0 < (bt203.2.2.2.length : Int) then (watchwordlaw7_LsaForms.j0 k a2 (wrap64 (1 + (Go.bits .and .i64 a1 1023))) 2 5 3 y199 bt203.1 bt203.2.1 bt203.2.2.1 (bt203.2.2.2.set (0 : Int).toNat (⟨wrap64 (1 - (wrap64 (1 + (Go.bits .and .i64 a1 1023)))), (rd_T49 bt203.2.2.2 0).f1⟩ : S49))) else (none)) else (if (Int.tmod (IntKind.u64.wrap (a0)) 13) = 7 then (if 1 < (bt203.2.2.2.length : Int) then (watchwordlaw7_LsaForms.j0 k a2 (wrap64 (1 + (Go.bits .and .i64 a1 1023))) 2 5 3 y199 bt203.1 bt203.2.1 bt203.2.2.1 (bt203.2.2.2.set (1 : Int).toNat (⟨wrap64 (4 + (wrap64 (1 + (Go.bits .and .i64 a1 1023)))), (rd_T49 bt203.2.2.2 1).f1⟩ : S49))) else (none)) else (if (Int.tmod (IntKind.u64.wrap (a0)) 13) = 8 then (if 0 < (bt203.2.2.2.length : Int) then (watchwordlaw7_LsaForms.j0 k a2 (wrap64 (1 + (Go.bits .and .i64 a1 1023))) 2 5 3 y199 bt203.1 bt203.2.1 bt203.2.2.1 (bt203.2.2.2.set (0 : Int).toNat (⟨2, (rd_T49 bt203.2.2.2 0).f1⟩ : S49))) else (none)) else (if (Int.tmod (IntKind.u64.wrap (a0)) 13) = 9 then (if 1 < (bt203.2.2.2.length : Int) then (watchwordlaw7_LsaForms.j0 k a2 (wrap64 (1 + (Go.bits .and .i64 a1 1023))) 2 5 3 y199 bt203.1 bt203.2.1 bt203.2.2.1 (bt203.2.2.2.set (1 : Int).toNat (⟨1, (rd_T49 bt203.2.2.2 1).f1⟩ : S49))) else (none)) else (if (Int.tmod (IntKind.u64.wrap (a0)) 13) = 10 then (if 0 < (bt203.2.2.2.length : Int) then (watchwordlaw7_LsaForms.j0 k a2 (wrap64 (1 + (Go.bits .and .i64 a1 1023))) 2 5 3 y199 bt203.1 bt203.2.1 bt203.2.2.1 (bt203.2.2.2.set (0 : Int).toNat (⟨(rd_T49 bt203.2.2.2 0).f0, wrap64 (1 - (wrap64 (1 + (Go.bits .and .i64 a1 1023))))⟩ : S49))) else (none)) else (if (Int.tmod (IntKind.u64.wrap (a0)) 13) = 11 then (if 1 < (bt203.2.2.2.length : Int) then (watchwordlaw7_LsaForms.j0 k a2 (wrap64 (1 + (Go.bits .and .i64 a1 1023))) 2 5 3 y199 bt203.1 bt203.2.1 bt203.2.2.1 (bt203.2.2.2.set (1 : Int).toNat (⟨(rd_T49 bt203.2.2.2 1).f0, wrap64 (65535 + (wrap64 (1 + (Go.bits .and .i64 a1 1023))))⟩ : S49))) else (none)) else (watchwordlaw7_LsaForms.j0 k a2 (wrap64 (1 + (Go.bits .and .i64 a1 1023))) 2 5 3 y199 3 bt203.2.1 bt203.2.2.1 bt203.2.2.2))))))))))))))) else (some false))
theorem watchwordlaw7_LsaForms.mono_l : ∀ k, (∀ y0 y1 y2 y3 y4 y5 y6 y7 y8 y9, LeO (watchwordlaw7_LsaForms.j0 k y0 y1 y2 y3 y4 y5 y6 y7 y8 y9) (watchwordlaw7_LsaForms.j0 (k + 1) y0 y1 y2 y3 y4 y5 y6 y7 y8 y9)) ∧ (∀ y0 y1 y2 y3 y4 y5 y6 y7 y8 y9 y10 y11 y12 y13 y14, LeO (watchwordlaw7_LsaForms.j1 k y0 y1 y2 y3 y4 y5 y6 y7 y8 y9 y10 y11 y12 y13 y14) (watchwordlaw7_LsaForms.j1 (k + 1) y0 y1 y2 y3 y4 y5 y6 y7 y8 y9 y10 y11 y12 y13 y14))
 | 0 => ⟨fun _ _ _ _ _ _ _ _ _ _ r h => by simp [watchwordlaw7_LsaForms.j0] at h, fun _ _ _ _ _ _ _ _ _ _ _ _ _ _ _ r h => by simp [watchwordlaw7_LsaForms.j1] at h⟩
 | k + 1 => by
  obtain ⟨ih0, ih1⟩ := watchwordlaw7_LsaForms.mono_l k
  refine ⟨?_, ?_⟩
  ·intro y0 y1 y2 y3 y4 y5 y6 y7 y8 y9
   unfold watchwordlaw7_LsaForms.j0
   repeat' first
   | (with_reducible exact ih0 _ _ _ _ _ _ _ _ _ _)
   | (with_reducible exact ih1 _ _ _ _ _ _ _ _ _ _ _ _ _ _ _)
   | (with_reducible exact lsa_Get.mono _ _ _)
   | (with_reducible exact lsa_Head.mono _ _ _ _ _)
   | (with_reducible exact lsa_May.mono _ _ _ _ _)
   | (with_reducible exact lsa_Put.mono _ _ _ _ _)
   | (with_reducible exact watchwordlaw7_awake.mono _)
   | (with_reducible exact LeO.refl _)
   | (with_reducible exact LeO.none _)
   | (with_reducible refine LeO.ite ?_ ?_)
   | (with_reducible refine LeO.bind ?_ (fun _ => ?_))
   | exact ih0 _ _ _ _ _ _ _ _ _ _
   | exact ih1 _ _ _ _ _ _ _ _ _ _ _ _ _ _ _
   | exact lsa_Get.mono _ _ _
   | exact lsa_Head.mono _ _ _ _ _
   | exact lsa_May.mono _ _ _ _ _
   | exact lsa_Put.mono _ _ _ _ _
   | exact watchwordlaw7_awake.mono _
   | exact LeO.none _
   | refine LeO.ite ?_ ?_
   | refine LeO.bind ?_ (fun _ => ?_)
  ·intro y0 y1 y2 y3 y4 y5 y6 y7 y8 y9 y10 y11 y12 y13 y14
   unfold watchwordlaw7_LsaForms.j1
   repeat' first
   | (with_reducible exact ih0 _ _ _ _ _ _ _ _ _ _)
   | (with_reducible exact ih1 _ _ _ _ _ _ _ _ _ _ _ _ _ _ _)
   | (with_reducible exact lsa_Get.mono _ _ _)
   | (with_reducible exact lsa_Head.mono _ _ _ _ _)
   | (with_reducible exact lsa_May.mono _ _ _ _ _)
   | (with_reducible exact lsa_Put.mono _ _ _ _ _)
   | (with_reducible exact watchwordlaw7_awake.mono _)
   | (with_reducible exact LeO.refl _)
   | (with_reducible exact LeO.none _)
   | (with_reducible refine LeO.ite ?_ ?_)
   | (with_reducible refine LeO.bind ?_ (fun _ => ?_))
   | exact ih0 _ _ _ _ _ _ _ _ _ _
   | exact ih1 _ _ _ _ _ _ _ _ _ _ _ _ _ _ _
   | exact lsa_Get.mono _ _ _
   | exact lsa_Head.mono _ _ _ _ _
   | exact lsa_May.mono _ _ _ _ _
   | exact lsa_Put.mono _ _ _ _ _
   | exact watchwordlaw7_awake.mono _
   | exact LeO.none _
   | refine LeO.ite ?_ ?_
   | refine LeO.bind ?_ (fun _ => ?_)
theorem watchwordlaw7_LsaForms.mono : ∀ a0 a1 a2 k, LeO (watchwordlaw7_LsaForms.f k a0 a1 a2) (watchwordlaw7_LsaForms.f (k + 1) a0 a1 a2) := by
 intro a0 a1 a2 k
 obtain ⟨ih0, ih1⟩ := watchwordlaw7_LsaForms.mono_l k
 unfold watchwordlaw7_LsaForms.f
 repeat' first
   | (with_reducible exact ih0 _ _ _ _ _ _ _ _ _ _)
   | (with_reducible exact ih1 _ _ _ _ _ _ _ _ _ _ _ _ _ _ _)
   | (with_reducible exact lsa_Get.mono _ _ _)
   | (with_reducible exact lsa_Head.mono _ _ _ _ _)
   | (with_reducible exact lsa_May.mono _ _ _ _ _)
   | (with_reducible exact lsa_Put.mono _ _ _ _ _)
   | (with_reducible exact watchwordlaw7_awake.mono _)
   | (with_reducible exact LeO.refl _)
   | (with_reducible exact LeO.none _)
   | (with_reducible refine LeO.ite ?_ ?_)
   | (with_reducible refine LeO.bind ?_ (fun _ => ?_))
   | exact ih0 _ _ _ _ _ _ _ _ _ _
   | exact ih1 _ _ _ _ _ _ _ _ _ _ _ _ _ _ _
   | exact lsa_Get.mono _ _ _
   | exact lsa_Head.mono _ _ _ _ _
   | exact lsa_May.mono _ _ _ _ _
   | exact lsa_Put.mono _ _ _ _ _
   | exact watchwordlaw7_awake.mono _
   | exact LeO.none _
   | refine LeO.ite ?_ ?_
   | refine LeO.bind ?_ (fun _ => ?_)
set_option maxHeartbeats 8000000 in
set_option maxRecDepth 100000 in
theorem watchwordlaw7_LsaForms.calls (k : Nat) (a0 : Int) (a1 : Int) (a2 : ByteArray → ByteArray) (ha2 : a2 = alterB a0 a1) (r : Bool) (w : World) (h : watchwordlaw7_LsaForms.f k a0 a1 a2 = some r) (hT : r = true) :
  Calls Try.prog 5 #[.int .i64 a0, .int .i64 a1] w fun e w' => e = .returned (.bool r) ∧ Below w.heap.size w w' := by
 have hu49 := Try.underlying49
 have hu24 := Try.underlying24
 have hu36 := Try.underlying36
 have HB := Aside0.mk (Below.refl w.heap.size w)
 have HT := Aside0.mk hT
 clear hT
 have H : ((watchwordlaw7_awake.f k).bind fun t198 => (if t198 = true then ((some (([(⟨1, 7⟩ : S49), (⟨3, 9⟩ : S49)] : List (S49)) : List (S49))).bind fun y199 => ((watchwordlaw0_CopyLsa.f 2 5 3 y199).bind fun bt203 => (if (Int.tmod (IntKind.u64.wrap (a0)) 13) = 0 then (watchwordlaw7_LsaForms.j0 k a2 (wrap64 (1 + (Go.bits .and .i64 a1 1023))) 2 5 3 y199 (wrap64 (1 - (wrap64 (1 + (Go.bits .and .i64 a1 1023))))) bt203.2.1 bt203.2.2.1 bt203.2.2.2) else (if (Int.tmod (IntKind.u64.wrap (a0)) 13) = 1 then (watchwordlaw7_LsaForms.j0 k a2 (wrap64 (1 + (Go.bits .and .i64 a1 1023))) 2 5 3 y199 (wrap64 (4 + (wrap64 (1 + (Go.bits .and .i64 a1 1023))))) bt203.2.1 bt203.2.2.1 bt203.2.2.2) else (if (Int.tmod (IntKind.u64.wrap (a0)) 13) = 2 then (watchwordlaw7_LsaForms.j0 k a2 (wrap64 (1 + (Go.bits .and .i64 a1 1023))) 2 5 3 y199 bt203.1 (wrap64 (1 - (wrap64 (1 + (Go.bits .and .i64 a1 1023))))) bt203.2.2.1 bt203.2.2.2) else (if (Int.tmod (IntKind.u64.wrap (a0)) 13) = 3 then (watchwordlaw7_LsaForms.j0 k a2 (wrap64 (1 + (Go.bits .and .i64 a1 1023))) 2 5 3 y199 bt203.1 (wrap64 (2147483647 + (wrap64 (1 + (Go.bits .and .i64 a1 1023))))) bt203.2.2.1 bt203.2.2.2) else (if (Int.tmod (IntKind.u64.wrap (a0)) 13) = 4 then (watchwordlaw7_LsaForms.j0 k a2 (wrap64 (1 + (Go.bits .and .i64 a1 1023))) 2 5 3 y199 bt203.1 bt203.2.1 (wrap64 (-(wrap64 (1 + (Go.bits .and .i64 a1 1023))))) bt203.2.2.2) else (if (Int.tmod (IntKind.u64.wrap (a0)) 13) = 5 then (watchwordlaw7_LsaForms.j0 k a2 (wrap64 (1 + (Go.bits .and .i64 a1 1023))) 2 5 3 y199 bt203.1 bt203.2.1 (wrap64 (60 + (wrap64 (1 + (Go.bits .and .i64 a1 1023))))) bt203.2.2.2) else (if (Int.tmod (IntKind.u64.wrap (a0)) 13) = 6 then (if 0 < (bt203.2.2.2.length : Int) then (watchwordlaw7_LsaForms.j0 k a2 (wrap64 (1 + (Go.bits .and .i64 a1 1023))) 2 5 3 y199 bt203.1 bt203.2.1 bt203.2.2.1 (bt203.2.2.2.set (0 : Int).toNat (⟨wrap64 (1 - (wrap64 (1 + (Go.bits .and .i64 a1 1023)))), (rd_T49 bt203.2.2.2 0).f1⟩ : S49))) else (none)) else (if (Int.tmod (IntKind.u64.wrap (a0)) 13) = 7 then (if 1 < (bt203.2.2.2.length : Int) then (watchwordlaw7_LsaForms.j0 k a2 (wrap64 (1 + (Go.bits .and .i64 a1 1023))) 2 5 3 y199 bt203.1 bt203.2.1 bt203.2.2.1 (bt203.2.2.2.set (1 : Int).toNat (⟨wrap64 (4 + (wrap64 (1 + (Go.bits .and .i64 a1 1023)))), (rd_T49 bt203.2.2.2 1).f1⟩ : S49))) else (none)) else (if (Int.tmod (IntKind.u64.wrap (a0)) 13) = 8 then (if 0 < (bt203.2.2.2.length : Int) then (watchwordlaw7_LsaForms.j0 k a2 (wrap64 (1 + (Go.bits .and .i64 a1 1023))) 2 5 3 y199 bt203.1 bt203.2.1 bt203.2.2.1 (bt203.2.2.2.set (0 : Int).toNat (⟨2, (rd_T49 bt203.2.2.2 0).f1⟩ : S49))) else (none)) else (if (Int.tmod (IntKind.u64.wrap (a0)) 13) = 9 then (if 1 < (bt203.2.2.2.length : Int) then (watchwordlaw7_LsaForms.j0 k a2 (wrap64 (1 + (Go.bits .and .i64 a1 1023))) 2 5 3 y199 bt203.1 bt203.2.1 bt203.2.2.1 (bt203.2.2.2.set (1 : Int).toNat (⟨1, (rd_T49 bt203.2.2.2 1).f1⟩ : S49))) else (none)) else (if (Int.tmod (IntKind.u64.wrap (a0)) 13) = 10 then (if 0 < (bt203.2.2.2.length : Int) then (watchwordlaw7_LsaForms.j0 k a2 (wrap64 (1 + (Go.bits .and .i64 a1 1023))) 2 5 3 y199 bt203.1 bt203.2.1 bt203.2.2.1 (bt203.2.2.2.set (0 : Int).toNat (⟨(rd_T49 bt203.2.2.2 0).f0, wrap64 (1 - (wrap64 (1 + (Go.bits .and .i64 a1 1023))))⟩ : S49))) else (none)) else (if (Int.tmod (IntKind.u64.wrap (a0)) 13) = 11 then (if 1 < (bt203.2.2.2.length : Int) then (watchwordlaw7_LsaForms.j0 k a2 (wrap64 (1 + (Go.bits .and .i64 a1 1023))) 2 5 3 y199 bt203.1 bt203.2.1 bt203.2.2.1 (bt203.2.2.2.set (1 : Int).toNat (⟨(rd_T49 bt203.2.2.2 1).f0, wrap64 (65535 + (wrap64 (1 + (Go.bits .and .i64 a1 1023))))⟩ : S49))) else (none)) else (watchwordlaw7_LsaForms.j0 k a2 (wrap64 (1 + (Go.bits .and .i64 a1 1023))) 2 5 3 y199 3 bt203.2.1 bt203.2.2.1 bt203.2.2.2))))))))))))))) else (some false))) = some r := h
 clear h
 replace H := Option.bind_eq_some_iff.mp H
 obtain ⟨t198, A40, H⟩ := H
 replace H : (if t198 = true then ((some (([(⟨1, 7⟩ : S49), (⟨3, 9⟩ : S49)] : List (S49)) : List (S49))).bind fun y199 => ((watchwordlaw0_CopyLsa.f 2 5 3 y199).bind fun bt203 => (if (Int.tmod (IntKind.u64.wrap (a0)) 13) = 0 then (watchwordlaw7_LsaForms.j0 k a2 (wrap64 (1 + (Go.bits .and .i64 a1 1023))) 2 5 3 y199 (wrap64 (1 - (wrap64 (1 + (Go.bits .and .i64 a1 1023))))) bt203.2.1 bt203.2.2.1 bt203.2.2.2) else (if (Int.tmod (IntKind.u64.wrap (a0)) 13) = 1 then (watchwordlaw7_LsaForms.j0 k a2 (wrap64 (1 + (Go.bits .and .i64 a1 1023))) 2 5 3 y199 (wrap64 (4 + (wrap64 (1 + (Go.bits .and .i64 a1 1023))))) bt203.2.1 bt203.2.2.1 bt203.2.2.2) else (if (Int.tmod (IntKind.u64.wrap (a0)) 13) = 2 then (watchwordlaw7_LsaForms.j0 k a2 (wrap64 (1 + (Go.bits .and .i64 a1 1023))) 2 5 3 y199 bt203.1 (wrap64 (1 - (wrap64 (1 + (Go.bits .and .i64 a1 1023))))) bt203.2.2.1 bt203.2.2.2) else (if (Int.tmod (IntKind.u64.wrap (a0)) 13) = 3 then (watchwordlaw7_LsaForms.j0 k a2 (wrap64 (1 + (Go.bits .and .i64 a1 1023))) 2 5 3 y199 bt203.1 (wrap64 (2147483647 + (wrap64 (1 + (Go.bits .and .i64 a1 1023))))) bt203.2.2.1 bt203.2.2.2) else (if (Int.tmod (IntKind.u64.wrap (a0)) 13) = 4 then (watchwordlaw7_LsaForms.j0 k a2 (wrap64 (1 + (Go.bits .and .i64 a1 1023))) 2 5 3 y199 bt203.1 bt203.2.1 (wrap64 (-(wrap64 (1 + (Go.bits .and .i64 a1 1023))))) bt203.2.2.2) else (if (Int.tmod (IntKind.u64.wrap (a0)) 13) = 5 then (watchwordlaw7_LsaForms.j0 k a2 (wrap64 (1 + (Go.bits .and .i64 a1 1023))) 2 5 3 y199 bt203.1 bt203.2.1 (wrap64 (60 + (wrap64 (1 + (Go.bits .and .i64 a1 1023))))) bt203.2.2.2) else (if (Int.tmod (IntKind.u64.wrap (a0)) 13) = 6 then (if 0 < (bt203.2.2.2.length : Int) then (watchwordlaw7_LsaForms.j0 k a2 (wrap64 (1 + (Go.bits .and .i64 a1 1023))) 2 5 3 y199 bt203.1 bt203.2.1 bt203.2.2.1 (bt203.2.2.2.set (0 : Int).toNat (⟨wrap64 (1 - (wrap64 (1 + (Go.bits .and .i64 a1 1023)))), (rd_T49 bt203.2.2.2 0).f1⟩ : S49))) else (none)) else (if (Int.tmod (IntKind.u64.wrap (a0)) 13) = 7 then (if 1 < (bt203.2.2.2.length : Int) then (watchwordlaw7_LsaForms.j0 k a2 (wrap64 (1 + (Go.bits .and .i64 a1 1023))) 2 5 3 y199 bt203.1 bt203.2.1 bt203.2.2.1 (bt203.2.2.2.set (1 : Int).toNat (⟨wrap64 (4 + (wrap64 (1 + (Go.bits .and .i64 a1 1023)))), (rd_T49 bt203.2.2.2 1).f1⟩ : S49))) else (none)) else (if (Int.tmod (IntKind.u64.wrap (a0)) 13) = 8 then (if 0 < (bt203.2.2.2.length : Int) then (watchwordlaw7_LsaForms.j0 k a2 (wrap64 (1 + (Go.bits .and .i64 a1 1023))) 2 5 3 y199 bt203.1 bt203.2.1 bt203.2.2.1 (bt203.2.2.2.set (0 : Int).toNat (⟨2, (rd_T49 bt203.2.2.2 0).f1⟩ : S49))) else (none)) else (if (Int.tmod (IntKind.u64.wrap (a0)) 13) = 9 then (if 1 < (bt203.2.2.2.length : Int) then (watchwordlaw7_LsaForms.j0 k a2 (wrap64 (1 + (Go.bits .and .i64 a1 1023))) 2 5 3 y199 bt203.1 bt203.2.1 bt203.2.2.1 (bt203.2.2.2.set (1 : Int).toNat (⟨1, (rd_T49 bt203.2.2.2 1).f1⟩ : S49))) else (none)) else (if (Int.tmod (IntKind.u64.wrap (a0)) 13) = 10 then (if 0 < (bt203.2.2.2.length : Int) then (watchwordlaw7_LsaForms.j0 k a2 (wrap64 (1 + (Go.bits .and .i64 a1 1023))) 2 5 3 y199 bt203.1 bt203.2.1 bt203.2.2.1 (bt203.2.2.2.set (0 : Int).toNat (⟨(rd_T49 bt203.2.2.2 0).f0, wrap64 (1 - (wrap64 (1 + (Go.bits .and .i64 a1 1023))))⟩ : S49))) else (none)) else (if (Int.tmod (IntKind.u64.wrap (a0)) 13) = 11 then (if 1 < (bt203.2.2.2.length : Int) then (watchwordlaw7_LsaForms.j0 k a2 (wrap64 (1 + (Go.bits .and .i64 a1 1023))) 2 5 3 y199 bt203.1 bt203.2.1 bt203.2.2.1 (bt203.2.2.2.set (1 : Int).toNat (⟨(rd_T49 bt203.2.2.2 1).f0, wrap64 (65535 + (wrap64 (1 + (Go.bits .and .i64 a1 1023))))⟩ : S49))) else (none)) else (watchwordlaw7_LsaForms.j0 k a2 (wrap64 (1 + (Go.bits .and .i64 a1 1023))) 2 5 3 y199 3 bt203.2.1 bt203.2.2.1 bt203.2.2.2))))))))))))))) else (some false)) = some r := H
 have A4 := Aside0.mk A40
 clear A40
 by_cases c5 : t198 = true
 ·subst c5
  have H1 : ((some (([(⟨1, 7⟩ : S49), (⟨3, 9⟩ : S49)] : List (S49)) : List (S49))).bind fun y199 => ((watchwordlaw0_CopyLsa.f 2 5 3 y199).bind fun bt203 => (if (Int.tmod (IntKind.u64.wrap (a0)) 13) = 0 then (watchwordlaw7_LsaForms.j0 k a2 (wrap64 (1 + (Go.bits .and .i64 a1 1023))) 2 5 3 y199 (wrap64 (1 - (wrap64 (1 + (Go.bits .and .i64 a1 1023))))) bt203.2.1 bt203.2.2.1 bt203.2.2.2) else (if (Int.tmod (IntKind.u64.wrap (a0)) 13) = 1 then (watchwordlaw7_LsaForms.j0 k a2 (wrap64 (1 + (Go.bits .and .i64 a1 1023))) 2 5 3 y199 (wrap64 (4 + (wrap64 (1 + (Go.bits .and .i64 a1 1023))))) bt203.2.1 bt203.2.2.1 bt203.2.2.2) else (if (Int.tmod (IntKind.u64.wrap (a0)) 13) = 2 then (watchwordlaw7_LsaForms.j0 k a2 (wrap64 (1 + (Go.bits .and .i64 a1 1023))) 2 5 3 y199 bt203.1 (wrap64 (1 - (wrap64 (1 + (Go.bits .and .i64 a1 1023))))) bt203.2.2.1 bt203.2.2.2) else (if (Int.tmod (IntKind.u64.wrap (a0)) 13) = 3 then (watchwordlaw7_LsaForms.j0 k a2 (wrap64 (1 + (Go.bits .and .i64 a1 1023))) 2 5 3 y199 bt203.1 (wrap64 (2147483647 + (wrap64 (1 + (Go.bits .and .i64 a1 1023))))) bt203.2.2.1 bt203.2.2.2) else (if (Int.tmod (IntKind.u64.wrap (a0)) 13) = 4 then (watchwordlaw7_LsaForms.j0 k a2 (wrap64 (1 + (Go.bits .and .i64 a1 1023))) 2 5 3 y199 bt203.1 bt203.2.1 (wrap64 (-(wrap64 (1 + (Go.bits .and .i64 a1 1023))))) bt203.2.2.2) else (if (Int.tmod (IntKind.u64.wrap (a0)) 13) = 5 then (watchwordlaw7_LsaForms.j0 k a2 (wrap64 (1 + (Go.bits .and .i64 a1 1023))) 2 5 3 y199 bt203.1 bt203.2.1 (wrap64 (60 + (wrap64 (1 + (Go.bits .and .i64 a1 1023))))) bt203.2.2.2) else (if (Int.tmod (IntKind.u64.wrap (a0)) 13) = 6 then (if 0 < (bt203.2.2.2.length : Int) then (watchwordlaw7_LsaForms.j0 k a2 (wrap64 (1 + (Go.bits .and .i64 a1 1023))) 2 5 3 y199 bt203.1 bt203.2.1 bt203.2.2.1 (bt203.2.2.2.set (0 : Int).toNat (⟨wrap64 (1 - (wrap64 (1 + (Go.bits .and .i64 a1 1023)))), (rd_T49 bt203.2.2.2 0).f1⟩ : S49))) else (none)) else (if (Int.tmod (IntKind.u64.wrap (a0)) 13) = 7 then (if 1 < (bt203.2.2.2.length : Int) then (watchwordlaw7_LsaForms.j0 k a2 (wrap64 (1 + (Go.bits .and .i64 a1 1023))) 2 5 3 y199 bt203.1 bt203.2.1 bt203.2.2.1 (bt203.2.2.2.set (1 : Int).toNat (⟨wrap64 (4 + (wrap64 (1 + (Go.bits .and .i64 a1 1023)))), (rd_T49 bt203.2.2.2 1).f1⟩ : S49))) else (none)) else (if (Int.tmod (IntKind.u64.wrap (a0)) 13) = 8 then (if 0 < (bt203.2.2.2.length : Int) then (watchwordlaw7_LsaForms.j0 k a2 (wrap64 (1 + (Go.bits .and .i64 a1 1023))) 2 5 3 y199 bt203.1 bt203.2.1 bt203.2.2.1 (bt203.2.2.2.set (0 : Int).toNat (⟨2, (rd_T49 bt203.2.2.2 0).f1⟩ : S49))) else (none)) else (if (Int.tmod (IntKind.u64.wrap (a0)) 13) = 9 then (if 1 < (bt203.2.2.2.length : Int) then (watchwordlaw7_LsaForms.j0 k a2 (wrap64 (1 + (Go.bits .and .i64 a1 1023))) 2 5 3 y199 bt203.1 bt203.2.1 bt203.2.2.1 (bt203.2.2.2.set (1 : Int).toNat (⟨1, (rd_T49 bt203.2.2.2 1).f1⟩ : S49))) else (none)) else (if (Int.tmod (IntKind.u64.wrap (a0)) 13) = 10 then (if 0 < (bt203.2.2.2.length : Int) then (watchwordlaw7_LsaForms.j0 k a2 (wrap64 (1 + (Go.bits .and .i64 a1 1023))) 2 5 3 y199 bt203.1 bt203.2.1 bt203.2.2.1 (bt203.2.2.2.set (0 : Int).toNat (⟨(rd_T49 bt203.2.2.2 0).f0, wrap64 (1 - (wrap64 (1 + (Go.bits .and .i64 a1 1023))))⟩ : S49))) else (none)) else (if (Int.tmod (IntKind.u64.wrap (a0)) 13) = 11 then (if 1 < (bt203.2.2.2.length : Int) then (watchwordlaw7_LsaForms.j0 k a2 (wrap64 (1 + (Go.bits .and .i64 a1 1023))) 2 5 3 y199 bt203.1 bt203.2.1 bt203.2.2.1 (bt203.2.2.2.set (1 : Int).toNat (⟨(rd_T49 bt203.2.2.2 1).f0, wrap64 (65535 + (wrap64 (1 + (Go.bits .and .i64 a1 1023))))⟩ : S49))) else (none)) else (watchwordlaw7_LsaForms.j0 k a2 (wrap64 (1 + (Go.bits .and .i64 a1 1023))) 2 5 3 y199 3 bt203.2.1 bt203.2.2.1 bt203.2.2.2))))))))))))))) = some r := by rw [if_pos rfl] at H; exact H
  clear H
  have H := H1
  clear H1
  obtain ⟨y199, hy199⟩ : ∃ y_ : List (S49), y_ = (([(⟨1, 7⟩ : S49), (⟨3, 9⟩ : S49)] : List (S49))) := ⟨_, rfl⟩
  replace H : ((watchwordlaw0_CopyLsa.f 2 5 3 y199).bind fun bt203 => (if (Int.tmod (IntKind.u64.wrap (a0)) 13) = 0 then (watchwordlaw7_LsaForms.j0 k a2 (wrap64 (1 + (Go.bits .and .i64 a1 1023))) 2 5 3 y199 (wrap64 (1 - (wrap64 (1 + (Go.bits .and .i64 a1 1023))))) bt203.2.1 bt203.2.2.1 bt203.2.2.2) else (if (Int.tmod (IntKind.u64.wrap (a0)) 13) = 1 then (watchwordlaw7_LsaForms.j0 k a2 (wrap64 (1 + (Go.bits .and .i64 a1 1023))) 2 5 3 y199 (wrap64 (4 + (wrap64 (1 + (Go.bits .and .i64 a1 1023))))) bt203.2.1 bt203.2.2.1 bt203.2.2.2) else (if (Int.tmod (IntKind.u64.wrap (a0)) 13) = 2 then (watchwordlaw7_LsaForms.j0 k a2 (wrap64 (1 + (Go.bits .and .i64 a1 1023))) 2 5 3 y199 bt203.1 (wrap64 (1 - (wrap64 (1 + (Go.bits .and .i64 a1 1023))))) bt203.2.2.1 bt203.2.2.2) else (if (Int.tmod (IntKind.u64.wrap (a0)) 13) = 3 then (watchwordlaw7_LsaForms.j0 k a2 (wrap64 (1 + (Go.bits .and .i64 a1 1023))) 2 5 3 y199 bt203.1 (wrap64 (2147483647 + (wrap64 (1 + (Go.bits .and .i64 a1 1023))))) bt203.2.2.1 bt203.2.2.2) else (if (Int.tmod (IntKind.u64.wrap (a0)) 13) = 4 then (watchwordlaw7_LsaForms.j0 k a2 (wrap64 (1 + (Go.bits .and .i64 a1 1023))) 2 5 3 y199 bt203.1 bt203.2.1 (wrap64 (-(wrap64 (1 + (Go.bits .and .i64 a1 1023))))) bt203.2.2.2) else (if (Int.tmod (IntKind.u64.wrap (a0)) 13) = 5 then (watchwordlaw7_LsaForms.j0 k a2 (wrap64 (1 + (Go.bits .and .i64 a1 1023))) 2 5 3 y199 bt203.1 bt203.2.1 (wrap64 (60 + (wrap64 (1 + (Go.bits .and .i64 a1 1023))))) bt203.2.2.2) else (if (Int.tmod (IntKind.u64.wrap (a0)) 13) = 6 then (if 0 < (bt203.2.2.2.length : Int) then (watchwordlaw7_LsaForms.j0 k a2 (wrap64 (1 + (Go.bits .and .i64 a1 1023))) 2 5 3 y199 bt203.1 bt203.2.1 bt203.2.2.1 (bt203.2.2.2.set (0 : Int).toNat (⟨wrap64 (1 - (wrap64 (1 + (Go.bits .and .i64 a1 1023)))), (rd_T49 bt203.2.2.2 0).f1⟩ : S49))) else (none)) else (if (Int.tmod (IntKind.u64.wrap (a0)) 13) = 7 then (if 1 < (bt203.2.2.2.length : Int) then (watchwordlaw7_LsaForms.j0 k a2 (wrap64 (1 + (Go.bits .and .i64 a1 1023))) 2 5 3 y199 bt203.1 bt203.2.1 bt203.2.2.1 (bt203.2.2.2.set (1 : Int).toNat (⟨wrap64 (4 + (wrap64 (1 + (Go.bits .and .i64 a1 1023)))), (rd_T49 bt203.2.2.2 1).f1⟩ : S49))) else (none)) else (if (Int.tmod (IntKind.u64.wrap (a0)) 13) = 8 then (if 0 < (bt203.2.2.2.length : Int) then (watchwordlaw7_LsaForms.j0 k a2 (wrap64 (1 + (Go.bits .and .i64 a1 1023))) 2 5 3 y199 bt203.1 bt203.2.1 bt203.2.2.1 (bt203.2.2.2.set (0 : Int).toNat (⟨2, (rd_T49 bt203.2.2.2 0).f1⟩ : S49))) else (none)) else (if (Int.tmod (IntKind.u64.wrap (a0)) 13) = 9 then (if 1 < (bt203.2.2.2.length : Int) then (watchwordlaw7_LsaForms.j0 k a2 (wrap64 (1 + (Go.bits .and .i64 a1 1023))) 2 5 3 y199 bt203.1 bt203.2.1 bt203.2.2.1 (bt203.2.2.2.set (1 : Int).toNat (⟨1, (rd_T49 bt203.2.2.2 1).f1⟩ : S49))) else (none)) else (if (Int.tmod (IntKind.u64.wrap (a0)) 13) = 10 then (if 0 < (bt203.2.2.2.length : Int) then (watchwordlaw7_LsaForms.j0 k a2 (wrap64 (1 + (Go.bits .and .i64 a1 1023))) 2 5 3 y199 bt203.1 bt203.2.1 bt203.2.2.1 (bt203.2.2.2.set (0 : Int).toNat (⟨(rd_T49 bt203.2.2.2 0).f0, wrap64 (1 - (wrap64 (1 + (Go.bits .and .i64 a1 1023))))⟩ : S49))) else (none)) else (if (Int.tmod (IntKind.u64.wrap (a0)) 13) = 11 then (if 1 < (bt203.2.2.2.length : Int) then (watchwordlaw7_LsaForms.j0 k a2 (wrap64 (1 + (Go.bits .and .i64 a1 1023))) 2 5 3 y199 bt203.1 bt203.2.1 bt203.2.2.1 (bt203.2.2.2.set (1 : Int).toNat (⟨(rd_T49 bt203.2.2.2 1).f0, wrap64 (65535 + (wrap64 (1 + (Go.bits .and .i64 a1 1023))))⟩ : S49))) else (none)) else (watchwordlaw7_LsaForms.j0 k a2 (wrap64 (1 + (Go.bits .and .i64 a1 1023))) 2 5 3 y199 3 bt203.2.1 bt203.2.2.1 bt203.2.2.2)))))))))))))) = some r := by first | (rw [hy199]; with_reducible exact H) | (have H2_ := (Option.bind_some _ _).symm.trans H; rw [hy199]; with_reducible exact H2_) | (have H2_ := (Option.bind_some _ _).symm.trans H; with_reducible exact H2_) | with_reducible exact H | (rw [hy199]; exact H) | exact H
  have Ny199 := Aside0.mk hy199
  clear hy199
  replace H := Option.bind_eq_some_iff.mp H
  obtain ⟨⟨t203, t204, t205, t206⟩, A60, H⟩ := H
  replace H : (if (Int.tmod (IntKind.u64.wrap (a0)) 13) = 0 then (watchwordlaw7_LsaForms.j0 k a2 (wrap64 (1 + (Go.bits .and .i64 a1 1023))) 2 5 3 y199 (wrap64 (1 - (wrap64 (1 + (Go.bits .and .i64 a1 1023))))) t204 t205 t206) else (if (Int.tmod (IntKind.u64.wrap (a0)) 13) = 1 then (watchwordlaw7_LsaForms.j0 k a2 (wrap64 (1 + (Go.bits .and .i64 a1 1023))) 2 5 3 y199 (wrap64 (4 + (wrap64 (1 + (Go.bits .and .i64 a1 1023))))) t204 t205 t206) else (if (Int.tmod (IntKind.u64.wrap (a0)) 13) = 2 then (watchwordlaw7_LsaForms.j0 k a2 (wrap64 (1 + (Go.bits .and .i64 a1 1023))) 2 5 3 y199 t203 (wrap64 (1 - (wrap64 (1 + (Go.bits .and .i64 a1 1023))))) t205 t206) else (if (Int.tmod (IntKind.u64.wrap (a0)) 13) = 3 then (watchwordlaw7_LsaForms.j0 k a2 (wrap64 (1 + (Go.bits .and .i64 a1 1023))) 2 5 3 y199 t203 (wrap64 (2147483647 + (wrap64 (1 + (Go.bits .and .i64 a1 1023))))) t205 t206) else (if (Int.tmod (IntKind.u64.wrap (a0)) 13) = 4 then (watchwordlaw7_LsaForms.j0 k a2 (wrap64 (1 + (Go.bits .and .i64 a1 1023))) 2 5 3 y199 t203 t204 (wrap64 (-(wrap64 (1 + (Go.bits .and .i64 a1 1023))))) t206) else (if (Int.tmod (IntKind.u64.wrap (a0)) 13) = 5 then (watchwordlaw7_LsaForms.j0 k a2 (wrap64 (1 + (Go.bits .and .i64 a1 1023))) 2 5 3 y199 t203 t204 (wrap64 (60 + (wrap64 (1 + (Go.bits .and .i64 a1 1023))))) t206) else (if (Int.tmod (IntKind.u64.wrap (a0)) 13) = 6 then (if 0 < (t206.length : Int) then (watchwordlaw7_LsaForms.j0 k a2 (wrap64 (1 + (Go.bits .and .i64 a1 1023))) 2 5 3 y199 t203 t204 t205 (t206.set (0 : Int).toNat (⟨wrap64 (1 - (wrap64 (1 + (Go.bits .and .i64 a1 1023)))), (rd_T49 t206 0).f1⟩ : S49))) else (none)) else (if (Int.tmod (IntKind.u64.wrap (a0)) 13) = 7 then (if 1 < (t206.length : Int) then (watchwordlaw7_LsaForms.j0 k a2 (wrap64 (1 + (Go.bits .and .i64 a1 1023))) 2 5 3 y199 t203 t204 t205 (t206.set (1 : Int).toNat (⟨wrap64 (4 + (wrap64 (1 + (Go.bits .and .i64 a1 1023)))), (rd_T49 t206 1).f1⟩ : S49))) else (none)) else (if (Int.tmod (IntKind.u64.wrap (a0)) 13) = 8 then (if 0 < (t206.length : Int) then (watchwordlaw7_LsaForms.j0 k a2 (wrap64 (1 + (Go.bits .and .i64 a1 1023))) 2 5 3 y199 t203 t204 t205 (t206.set (0 : Int).toNat (⟨2, (rd_T49 t206 0).f1⟩ : S49))) else (none)) else (if (Int.tmod (IntKind.u64.wrap (a0)) 13) = 9 then (if 1 < (t206.length : Int) then (watchwordlaw7_LsaForms.j0 k a2 (wrap64 (1 + (Go.bits .and .i64 a1 1023))) 2 5 3 y199 t203 t204 t205 (t206.set (1 : Int).toNat (⟨1, (rd_T49 t206 1).f1⟩ : S49))) else (none)) else (if (Int.tmod (IntKind.u64.wrap (a0)) 13) = 10 then (if 0 < (t206.length : Int) then (watchwordlaw7_LsaForms.j0 k a2 (wrap64 (1 + (Go.bits .and .i64 a1 1023))) 2 5 3 y199 t203 t204 t205 (t206.set (0 : Int).toNat (⟨(rd_T49 t206 0).f0, wrap64 (1 - (wrap64 (1 + (Go.bits .and .i64 a1 1023))))⟩ : S49))) else (none)) else (if (Int.tmod (IntKind.u64.wrap (a0)) 13) = 11 then (if 1 < (t206.length : Int) then (watchwordlaw7_LsaForms.j0 k a2 (wrap64 (1 + (Go.bits .and .i64 a1 1023))) 2 5 3 y199 t203 t204 t205 (t206.set (1 : Int).toNat (⟨(rd_T49 t206 1).f0, wrap64 (65535 + (wrap64 (1 + (Go.bits .and .i64 a1 1023))))⟩ : S49))) else (none)) else (watchwordlaw7_LsaForms.j0 k a2 (wrap64 (1 + (Go.bits .and .i64 a1 1023))) 2 5 3 y199 3 t204 t205 t206))))))))))))) = some r := H
  have A6 := Aside0.mk A60
  clear A60
  have HC7 := Aside0.mk H
  clear H
  go_enter Try.func5, Try.ntmps5
  go_upto_block 0 with (first | ((with_reducible refine gate_callee (f := 24) rfl ?_); refine goesL_ (some 28) rfl rfl Try.func24 (by kernel_rfl) rfl #[] rfl (by (try simp only [List.map_toArray, List.map_cons, List.map_nil]); first | done | rfl | (simp only [List.length_drop, List.length_take]; rfl)) ?_; (with_reducible refine (watchwordlaw7_awake.calls k  true _ A4.out (by first | rfl | exact HT.out)).mono ?_); rintro e w8 ⟨rfl, hb⟩; refine ⟨_, rfl, ?_⟩; have n0_ := Aside0.mk (below_step (by repeat (first | (with_reducible first | exact HB.out | apply below_alloc | apply pw_below_drewN | apply below_drew1) | exact HB.out)) hb); clear HB; have HB := n0_; clear n0_; (try clear hb); (try clear hb2); (try clear hk); (try clear hi)) | ((with_reducible refine gate_dst (N := 35) rfl ?_); (try (refine gate_guard (by rfl) ?_; dsimp only)); refine Kd.R_lit k49 _ 49 ?hg (N := 35) ?hd (xs := ([(⟨1, 7⟩ : S49), (⟨3, 9⟩ : S49)] : List (S49))) (inner := [.int .i64 1, .int .i64 7, .int .i64 3, .int .i64 9]) (ok := fun _ => True) (okp := fun _ => True) ?hr ?hp (fun _ hk => hk) trivial (Below.refl _ _) (Nat.le_refl _) (by simp) ?_; (case hd => rfl); (case hg => rfl); (case hr => first | (go_simp; done) | (go_simp; rfl)); (case hp => exact (Reps.c2 (show Kd.M k49 _ _ _ (⟨1, 7⟩ : S49) [.int .i64 1, .int .i64 7] from (k49_mkM _ _ _ (⟨1, 7⟩ : S49) )) (Reps.c2 (show Kd.M k49 _ _ _ (⟨3, 9⟩ : S49) [.int .i64 3, .int .i64 9] from (k49_mkM _ _ _ (⟨3, 9⟩ : S49) )) (Reps.none _ _)))); intro v200 w9 ho10 hb hg_ hnew_; clear hg_ hnew_; (first | rw [← Ny199.out] at ho10 | (simp only [Int.reduceToNat] at ho10; rw [← Ny199.out] at ho10)); have n0_ := Aside0.mk (Kd.R_lower ho10 (below_size (by repeat (first | (with_reducible first | exact HB.out | apply below_alloc | apply pw_below_drewN | apply below_drew1) | exact HB.out)))); have n1_ := Aside0.mk (below_step (by repeat (first | (with_reducible first | exact HB.out | apply below_alloc | apply pw_below_drewN | apply below_drew1) | exact HB.out)) hb); clear HB; have HO201 := n0_; have HB := n1_; clear n0_ n1_; clear hb ho10; obtain ⟨Ao11, co11, eo11⟩ := Kd.R_slice HO201.out; subst eo11) | ((with_reducible refine gate_dst (N := 6) rfl ?_); (try (refine gate_guard (by rfl) ?_; dsimp only)); refine box_event ?hg (N := 6) ?hd (cs := #[.int .i64 0, .int .i64 0, .int .i64 0, .slice none 0 0]) (t := 24) ?hr ?_; (case hd => rfl); (case hg => rfl); (case hr => first | (go_simp; done) | (go_simp; rfl)); intro gb202 hg w12 hbox hb; have n0_ := Aside0.mk (Kd.R_below (upR HO201.out) hb); have n1_ := Aside0.mk (below_step (by repeat (first | (with_reducible first | exact HB.out | apply below_alloc | apply pw_below_drewN | apply below_drew1) | exact HB.out)) hb); have n2_ := Aside0.mk (hbox); have n3_ := Aside0.mk ((by rw [hg]; exact (below_size (by repeat (first | (with_reducible first | exact HB.out | apply below_alloc | apply pw_below_drewN | apply below_drew1) | exact HB.out))) : w.heap.size ≤ gb202)); have n4_ := Aside0.mk ((by rw [hg]; exact (below_size (by repeat (first | (with_reducible first | exact HB.out | apply below_alloc | apply pw_below_drewN | apply below_drew1) | exact HB.out))) : w.heap.size ≤ gb202)); clear HO201; clear HB; have HO201 := n0_; have HB := n1_; have BK202 := n2_; have GW202 := n3_; have GE202 := n4_; clear n0_ n1_ n2_ n3_ n4_; clear hb hbox hg; have hcz13_0 : w12.cell? ⟨gb202, 0, none⟩ = some (.int .i64 0) := (blk_cell BK202.out 0).trans rfl; have hcz13_1 : w12.cell? ⟨gb202, 1, none⟩ = some (.int .i64 0) := (blk_cell BK202.out 1).trans rfl; have hcz13_2 : w12.cell? ⟨gb202, 2, none⟩ = some (.int .i64 0) := (blk_cell BK202.out 2).trans rfl; have hcz13_3 : w12.cell? ⟨gb202, 3, none⟩ = some (.slice none 0 0) := (blk_cell BK202.out 3).trans rfl; have hfz13_0 := blk_frozen BK202.out 0; have hfz13_1 := blk_frozen BK202.out 1; have hfz13_2 := blk_frozen BK202.out 2; have hfz13_3 := blk_frozen BK202.out 3) | ((with_reducible refine gate_store (t := 24) (p := 6) rfl ?_); refine store_event (t := 24) (p := 6) (v := ?vo_w14) (w1 := ((((w12.setCell ⟨gb202, 0, none⟩ (.int .i64 2)).setCell ⟨gb202, 1, none⟩ (.int .i64 5)).setCell ⟨gb202, 2, none⟩ (.int .i64 3)).setCell ⟨gb202, 3, none⟩ (.slice Ao11 y199.length co11))) ?hg ?ho ?hn ?hr ?_; (case ho => rfl); (case hg => rfl); (case hn => rfl); (case hr => first | (go_simp; done) | (go_simp; rfl)); intro w14 hw; have n0_ : Aside0 (Kd.R k49 49 w14 w.heap.size (fun _ => True) (.slice Ao11 y199.length co11) y199) := ⟨(by rw [hw]; exact (by (with_reducible repeat (first | apply Kd.R_alloc | apply Kd.R_drewN | apply Kd.R_drew)); exact Kd.R_mono (Kd.R_far (p := ⟨gb202, 3, none⟩) (Kd.R_far (p := ⟨gb202, 2, none⟩) (Kd.R_far (p := ⟨gb202, 1, none⟩) (Kd.R_far (p := ⟨gb202, 0, none⟩) (Kd.R_types HO201.out BK202.out (by decide)) (fun _ hk => hk.2) (.int .i64 2)) (fun _ hk => hk.2) (.int .i64 5)) (fun _ hk => hk.2) (.int .i64 3)) (fun _ hk => hk.2) (.slice Ao11 y199.length co11)) (fun _ hk => trivial)))⟩; have n1_ : Aside0 (w14.heap[gb202]? = some (.cells #[.int .i64 2, .int .i64 5, .int .i64 3, .slice Ao11 y199.length co11] 24 (0, 0))) := ⟨(by rw [hw]; exact (by (with_reducible repeat (first | refine blk_drewN ?_ _ | refine blk_drew ?_ | refine blk_alloc ?_ _)); refine blk_put (cs := #[.int .i64 2, .int .i64 5, .int .i64 3, .slice none 0 0]) ?_ 3 _ rfl; (with_reducible repeat (first | refine blk_drewN ?_ _ | refine blk_drew ?_ | refine blk_alloc ?_ _)); refine blk_put (cs := #[.int .i64 2, .int .i64 5, .int .i64 0, .slice none 0 0]) ?_ 2 _ rfl; (with_reducible repeat (first | refine blk_drewN ?_ _ | refine blk_drew ?_ | refine blk_alloc ?_ _)); refine blk_put (cs := #[.int .i64 2, .int .i64 0, .int .i64 0, .slice none 0 0]) ?_ 1 _ rfl; (with_reducible repeat (first | refine blk_drewN ?_ _ | refine blk_drew ?_ | refine blk_alloc ?_ _)); refine blk_put (cs := #[.int .i64 0, .int .i64 0, .int .i64 0, .slice none 0 0]) ?_ 0 _ rfl; (with_reducible repeat (first | refine blk_drewN ?_ _ | refine blk_drew ?_ | refine blk_alloc ?_ _)); exact BK202.out))⟩; have n2_ : Aside0 (Below w.heap.size w w14) := ⟨(by rw [hw]; exact (by repeat (first | (with_reducible first | exact HB.out | apply below_alloc | apply pw_below_drewN | apply below_drew1 | refine below_set ?_ GE202.out) | exact HB.out)))⟩; clear hw; clear HO201; clear BK202; clear HB; have HO201 := n0_; have BK202 := n1_; have HB := n2_; clear n0_ n1_ n2_; have hcz15_0 : w14.cell? ⟨gb202, 0, none⟩ = some (.int .i64 2) := (blk_cell BK202.out 0).trans rfl; have hcz15_1 : w14.cell? ⟨gb202, 1, none⟩ = some (.int .i64 5) := (blk_cell BK202.out 1).trans rfl; have hcz15_2 : w14.cell? ⟨gb202, 2, none⟩ = some (.int .i64 3) := (blk_cell BK202.out 2).trans rfl; have hcz15_3 : w14.cell? ⟨gb202, 3, none⟩ = some (.slice Ao11 y199.length co11) := (blk_cell BK202.out 3).trans rfl; have hfz15_0 := blk_frozen BK202.out 0; have hfz15_1 := blk_frozen BK202.out 1; have hfz15_2 := blk_frozen BK202.out 2; have hfz15_3 := blk_frozen BK202.out 3) | ((with_reducible refine gate_callee (f := 12) rfl ?_); refine goesL_ (some 38) rfl rfl Try.func12 (by kernel_rfl) rfl #[.agg #[.int .i64 2, .int .i64 5, .int .i64 3, .slice Ao11 y199.length co11]] rfl (by (try simp only [List.map_toArray, List.map_cons, List.map_nil]); first | done | rfl | (simp only [List.length_drop, List.length_take]; rfl)) ?_; (with_reducible refine (watchwordlaw0_CopyLsa.calls 2 5 3 _ _ y199 t203 t204 t205 t206 _ ?side1 ?side2 A6.out).mono ?_); (case side1 => repeat (first | exact (Kd.R_reads' HO201.out).2.2 | (with_reducible refine Kd.C_alloc ?_ _) | (with_reducible refine Kd.C_drewN ?_ _) | (with_reducible refine Kd.C_drew ?_))); (case side2 => exact (Kd.R_reads' HO201.out).2.1); rintro e w16 ⟨v207, rfl, ho0, hb⟩; refine ⟨_, rfl, ?_⟩; have n0_ := Aside0.mk (Kd.R_elder' (upR HO201.out) (Kd.R_base ho0) hb); have n1_ := Aside0.mk (Kd.R_lower (Kd.R_new' ho0 (Kd.R_lt (upR HO201.out))) (below_size (by repeat (first | (with_reducible first | exact HB.out | apply below_alloc | apply pw_below_drewN | apply below_drew1 | refine below_set ?_ GE202.out) | exact HB.out)))); have n2_ := Aside0.mk (blk_below (upB BK202.out) hb); have n3_ := Aside0.mk (below_step (by repeat (first | (with_reducible first | exact HB.out | apply below_alloc | apply pw_below_drewN | apply below_drew1 | refine below_set ?_ GE202.out) | exact HB.out)) hb); clear HO201; clear BK202; clear HB; have HO201 := n0_; have HO208 := n1_; have BK202 := n2_; have HB := n3_; clear n0_ n1_ n2_ n3_; (try clear hb); (try clear hb2); (try clear hk); (try clear hi); (try clear ho0)) | ((with_reducible refine gate_dst (N := 7) rfl ?_); (try (refine gate_guard (by rfl) ?_; dsimp only)); refine box_event ?hg (N := 7) ?hd (cs := #[.int .i64 0, .int .i64 0, .int .i64 0, .slice none 0 0]) (t := 24) ?hr ?_; (case hd => rfl); (case hg => rfl); (case hr => first | (go_simp; done) | (go_simp; rfl)); intro gb209 hg w17 hbox hb; have n0_ := Aside0.mk (Kd.R_below (upR HO201.out) hb); have n1_ := Aside0.mk (Kd.R_below (upR HO208.out) hb); have n2_ := Aside0.mk (blk_below (upB BK202.out) hb); have n3_ := Aside0.mk (below_step (by repeat (first | (with_reducible first | exact HB.out | apply below_alloc | apply pw_below_drewN | apply below_drew1 | refine below_set ?_ GE202.out) | exact HB.out)) hb); have n4_ := Aside0.mk (hbox); have n5_ := Aside0.mk ((by rw [hg]; exact (below_size (by repeat (first | (with_reducible first | exact HB.out | apply below_alloc | apply pw_below_drewN | apply below_drew1 | refine below_set ?_ GE202.out) | exact HB.out))) : w.heap.size ≤ gb209)); have n6_ := Aside0.mk ((by rw [hg]; exact (below_size (by repeat (first | (with_reducible first | exact HB.out | apply below_alloc | apply pw_below_drewN | apply below_drew1 | refine below_set ?_ GE202.out) | exact HB.out))) : w.heap.size ≤ gb209)); have n7_ := Aside0.mk ((by rw [hg]; exact Nat.ne_of_lt (blk_lt (g := gb202) (o := .cells #[.int .i64 2, .int .i64 5, .int .i64 3, .slice Ao11 y199.length co11] 24 (0, 0)) (upB BK202.out)) : gb202 ≠ gb209)); have n8_ := Aside0.mk ((by rw [hg]; exact Nat.ne_of_gt (blk_lt (g := gb202) (o := .cells #[.int .i64 2, .int .i64 5, .int .i64 3, .slice Ao11 y199.length co11] 24 (0, 0)) (upB BK202.out)) : gb209 ≠ gb202)); clear HO201; clear HO208; clear BK202; clear HB; have HO201 := n0_; have HO208 := n1_; have BK202 := n2_; have HB := n3_; have BK209 := n4_; have GW209 := n5_; have GE209 := n6_; have NB202_209 := n7_; have NB209_202 := n8_; clear n0_ n1_ n2_ n3_ n4_ n5_ n6_ n7_ n8_; clear hb hbox hg; have hnb18 := NB209_202.out; have hnc18 := NB202_209.out; have hcz19_0 : w17.cell? ⟨gb209, 0, none⟩ = some (.int .i64 0) := (blk_cell BK209.out 0).trans rfl; have hcz19_1 : w17.cell? ⟨gb209, 1, none⟩ = some (.int .i64 0) := (blk_cell BK209.out 1).trans rfl; have hcz19_2 : w17.cell? ⟨gb209, 2, none⟩ = some (.int .i64 0) := (blk_cell BK209.out 2).trans rfl; have hcz19_3 : w17.cell? ⟨gb209, 3, none⟩ = some (.slice none 0 0) := (blk_cell BK209.out 3).trans rfl; have hfz19_0 := blk_frozen BK209.out 0; have hfz19_1 := blk_frozen BK209.out 1; have hfz19_2 := blk_frozen BK209.out 2; have hfz19_3 := blk_frozen BK209.out 3; obtain ⟨Ao20, co20, eo20⟩ := Kd.R_slice HO208.out; subst eo20) | ((with_reducible refine gate_store (t := 24) (p := 7) rfl ?_); refine store_event (t := 24) (p := 7) (v := ?vo_w21) (w1 := ((((w17.setCell ⟨gb209, 0, none⟩ (.int .i64 t203)).setCell ⟨gb209, 1, none⟩ (.int .i64 t204)).setCell ⟨gb209, 2, none⟩ (.int .i64 t205)).setCell ⟨gb209, 3, none⟩ (.slice Ao20 t206.length co20))) ?hg ?ho ?hn ?hr ?_; (case ho => rfl); (case hg => rfl); (case hn => rfl); (case hr => first | (go_simp; done) | (go_simp; rfl)); intro w21 hw; have n0_ : Aside0 (Kd.R k49 49 w21 w.heap.size (fun k_ => some k_ ≠ (.slice Ao20 t206.length co20 : Value).ownBlock) (.slice Ao11 y199.length co11) y199) := ⟨(by rw [hw]; exact (by (with_reducible repeat (first | apply Kd.R_alloc | apply Kd.R_drewN | apply Kd.R_drew)); exact Kd.R_mono (Kd.R_far (p := ⟨gb209, 3, none⟩) (Kd.R_far (p := ⟨gb209, 2, none⟩) (Kd.R_far (p := ⟨gb209, 1, none⟩) (Kd.R_far (p := ⟨gb209, 0, none⟩) (Kd.R_types HO201.out BK209.out (by decide)) (fun _ hk => hk.2) (.int .i64 t203)) (fun _ hk => hk.2) (.int .i64 t204)) (fun _ hk => hk.2) (.int .i64 t205)) (fun _ hk => hk.2) (.slice Ao20 t206.length co20)) (fun _ hk => hk.1.2)))⟩; have n1_ : Aside0 (Kd.R k49 49 w21 w.heap.size (fun k_ => some k_ ≠ (.slice Ao11 y199.length co11 : Value).ownBlock) (.slice Ao20 t206.length co20) t206) := ⟨(by rw [hw]; exact (by (with_reducible repeat (first | apply Kd.R_alloc | apply Kd.R_drewN | apply Kd.R_drew)); exact Kd.R_mono (Kd.R_far (p := ⟨gb209, 3, none⟩) (Kd.R_far (p := ⟨gb209, 2, none⟩) (Kd.R_far (p := ⟨gb209, 1, none⟩) (Kd.R_far (p := ⟨gb209, 0, none⟩) (Kd.R_types HO208.out BK209.out (by decide)) (fun _ hk => hk.2) (.int .i64 t203)) (fun _ hk => hk.2) (.int .i64 t204)) (fun _ hk => hk.2) (.int .i64 t205)) (fun _ hk => hk.2) (.slice Ao20 t206.length co20)) (fun _ hk => hk.1.2)))⟩; have n2_ : Aside0 (w21.heap[gb202]? = some (.cells #[.int .i64 2, .int .i64 5, .int .i64 3, .slice Ao11 y199.length co11] 24 (0, 0))) := ⟨(by rw [hw]; exact (upF NB202_209.out BK202.out))⟩; have n3_ : Aside0 (w21.heap[gb209]? = some (.cells #[.int .i64 t203, .int .i64 t204, .int .i64 t205, .slice Ao20 t206.length co20] 24 (0, 0))) := ⟨(by rw [hw]; exact (by (with_reducible repeat (first | refine blk_drewN ?_ _ | refine blk_drew ?_ | refine blk_alloc ?_ _)); refine blk_put (cs := #[.int .i64 t203, .int .i64 t204, .int .i64 t205, .slice none 0 0]) ?_ 3 _ rfl; (with_reducible repeat (first | refine blk_drewN ?_ _ | refine blk_drew ?_ | refine blk_alloc ?_ _)); refine blk_put (cs := #[.int .i64 t203, .int .i64 t204, .int .i64 0, .slice none 0 0]) ?_ 2 _ rfl; (with_reducible repeat (first | refine blk_drewN ?_ _ | refine blk_drew ?_ | refine blk_alloc ?_ _)); refine blk_put (cs := #[.int .i64 t203, .int .i64 0, .int .i64 0, .slice none 0 0]) ?_ 1 _ rfl; (with_reducible repeat (first | refine blk_drewN ?_ _ | refine blk_drew ?_ | refine blk_alloc ?_ _)); refine blk_put (cs := #[.int .i64 0, .int .i64 0, .int .i64 0, .slice none 0 0]) ?_ 0 _ rfl; (with_reducible repeat (first | refine blk_drewN ?_ _ | refine blk_drew ?_ | refine blk_alloc ?_ _)); exact BK209.out))⟩; have n4_ : Aside0 (Below w.heap.size w w21) := ⟨(by rw [hw]; exact (by repeat (first | (with_reducible first | exact HB.out | apply below_alloc | apply pw_below_drewN | apply below_drew1 | refine below_set ?_ GE202.out | refine below_set ?_ GE209.out) | exact HB.out)))⟩; clear hw; clear HO201; clear HO208; clear BK202; clear BK209; clear HB; have HO201 := n0_; have HO208 := n1_; have BK202 := n2_; have BK209 := n3_; have HB := n4_; clear n0_ n1_ n2_ n3_ n4_))
  (try simp only [Act.put, List.setIfInBounds_toArray, List.set_cons_zero, List.set_cons_succ])
  go_cut [] (fun wc => ∃ (kq : Nat) (x203003_6 : List (S49)) (x210000_6 : Int) (x210001_6 : Int) (x210002_6 : Int) (x210003_6 : List (S49)) (u203003 : Value) (u210003 : Value), Aside0 (watchwordlaw7_LsaForms.j0 kq a2 (wrap64 (1 + (Go.bits .and .i64 a1 1023))) 2 5 3 x203003_6 x210000_6 x210001_6 x210002_6 x210003_6 = some r) ∧ Aside0 (kq ≤ k) ∧ Aside0 (Kd.R k49 49 wc w.heap.size (fun k_ => some k_ ≠ (u210003 : Value).ownBlock) u203003 x203003_6) ∧ Aside0 (Kd.R k49 49 wc w.heap.size (fun k_ => some k_ ≠ (u203003 : Value).ownBlock) u210003 x210003_6) ∧ Aside0 (wc.heap[gb202]? = some (.cells #[.int .i64 2, .int .i64 5, .int .i64 3, u203003] 24 (0, 0))) ∧ Aside0 (wc.heap[gb209]? = some (.cells #[.int .i64 x210000_6, .int .i64 x210001_6, .int .i64 x210002_6, u210003] 24 (0, 0))) ∧ Aside0 (Below w.heap.size w wc))
  case first =>
   have H := HC7.out
   clear HC7
   by_cases c22 : (Int.tmod (IntKind.u64.wrap (a0)) 13) = 0
   ·rw [if_pos c22] at H
    have c22b0 : ((Int.tmod (IntKind.u64.wrap (a0)) 13) == 0) = true := beq_iff_eq.mpr c22
    have c22b1 : ((Int.tmod (IntKind.u64.wrap (a0)) 13) != 0) = false := bne_eq_false_iff_eq.mpr c22
    clear c22
    (first | rw [c22b0] | (simp only [i64_w, i32_w]; rw [c22b0]) | skip)
    have H' := Aside0.mk H
    clear H
    have hnb23 := NB209_202.out
    have hnc23 := NB202_209.out
    have hcz24_0 : w21.cell? ⟨gb209, 0, none⟩ = some (.int .i64 t203) := (blk_cell BK209.out 0).trans rfl
    have hcz24_1 : w21.cell? ⟨gb209, 1, none⟩ = some (.int .i64 t204) := (blk_cell BK209.out 1).trans rfl
    have hcz24_2 : w21.cell? ⟨gb209, 2, none⟩ = some (.int .i64 t205) := (blk_cell BK209.out 2).trans rfl
    have hcz24_3 : w21.cell? ⟨gb209, 3, none⟩ = some (.slice Ao20 t206.length co20) := (blk_cell BK209.out 3).trans rfl
    have hfz24_0 := blk_frozen BK209.out 0
    have hfz24_1 := blk_frozen BK209.out 1
    have hfz24_2 := blk_frozen BK209.out 2
    have hfz24_3 := blk_frozen BK209.out 3
    go_wp2_with (first | ((with_reducible refine gate_store (t := 3) (p := 47) rfl ?_); refine store_event (t := 3) (p := 47) (v := ?vo_w25) (w1 := (w21.setCell ⟨gb209, 0, none⟩ (.int .i64 (wrap64 (1 - (wrap64 (1 + (Go.bits .and .i64 a1 1023)))))))) ?hg ?ho ?hn ?hr ?_; (case ho => rfl); (case hg => rfl); (case hn => rfl); (case hr => first | (go_simp; done) | (go_simp; rfl)); intro w25 hw; have n0_ : Aside0 (Kd.R k49 49 w25 w.heap.size (fun k_ => some k_ ≠ (.slice Ao20 t206.length co20 : Value).ownBlock) (.slice Ao11 y199.length co11) y199) := ⟨(by rw [hw]; exact (by (with_reducible repeat (first | apply Kd.R_alloc | apply Kd.R_drewN | apply Kd.R_drew)); exact Kd.R_mono (Kd.R_far (p := ⟨gb209, 0, none⟩) (Kd.R_types HO201.out BK209.out (by decide)) (fun _ hk => hk.2) (.int .i64 (wrap64 (1 - (wrap64 (1 + (Go.bits .and .i64 a1 1023))))))) (fun _ hk => hk.1)))⟩; have n1_ : Aside0 (Kd.R k49 49 w25 w.heap.size (fun k_ => some k_ ≠ (.slice Ao11 y199.length co11 : Value).ownBlock) (.slice Ao20 t206.length co20) t206) := ⟨(by rw [hw]; exact (by (with_reducible repeat (first | apply Kd.R_alloc | apply Kd.R_drewN | apply Kd.R_drew)); exact Kd.R_mono (Kd.R_far (p := ⟨gb209, 0, none⟩) (Kd.R_types HO208.out BK209.out (by decide)) (fun _ hk => hk.2) (.int .i64 (wrap64 (1 - (wrap64 (1 + (Go.bits .and .i64 a1 1023))))))) (fun _ hk => hk.1)))⟩; have n2_ : Aside0 (w25.heap[gb202]? = some (.cells #[.int .i64 2, .int .i64 5, .int .i64 3, .slice Ao11 y199.length co11] 24 (0, 0))) := ⟨(by rw [hw]; exact (upF NB202_209.out BK202.out))⟩; have n3_ : Aside0 (w25.heap[gb209]? = some (.cells #[.int .i64 (wrap64 (1 - (wrap64 (1 + (Go.bits .and .i64 a1 1023))))), .int .i64 t204, .int .i64 t205, .slice Ao20 t206.length co20] 24 (0, 0))) := ⟨(by rw [hw]; exact (by (with_reducible repeat (first | refine blk_drewN ?_ _ | refine blk_drew ?_ | refine blk_alloc ?_ _)); refine blk_put (cs := #[.int .i64 t203, .int .i64 t204, .int .i64 t205, .slice Ao20 t206.length co20]) ?_ 0 _ rfl; (with_reducible repeat (first | refine blk_drewN ?_ _ | refine blk_drew ?_ | refine blk_alloc ?_ _)); exact BK209.out))⟩; have n4_ : Aside0 (Below w.heap.size w w25) := ⟨(by rw [hw]; exact (by repeat (first | (with_reducible first | exact HB.out | apply below_alloc | apply pw_below_drewN | apply below_drew1 | refine below_set ?_ GE202.out | refine below_set ?_ GE209.out) | exact HB.out)))⟩; clear hw; clear HO201; clear HO208; clear BK202; clear BK209; clear HB; have HO201 := n0_; have HO208 := n1_; have BK202 := n2_; have BK209 := n3_; have HB := n4_; clear n0_ n1_ n2_ n3_ n4_))
    go_meet
    case rel => exact ⟨_, (y199), (wrap64 (1 - (wrap64 (1 + (Go.bits .and .i64 a1 1023))))), (t204), (t205), (t206), (.slice Ao11 y199.length co11), (.slice Ao20 t206.length co20), H', ⟨by first | omega | exact Nat.le_refl _⟩, ⟨upR HO201.out⟩, ⟨upR HO208.out⟩, ⟨upB BK202.out⟩, ⟨upB BK209.out⟩, ⟨by repeat (first | (with_reducible first | exact HB.out | apply below_alloc | apply pw_below_drewN | apply below_drew1 | refine below_set ?_ GE202.out | refine below_set ?_ GE209.out) | exact HB.out)⟩⟩
   ·rw [if_neg c22] at H
    have c22b0 : ((Int.tmod (IntKind.u64.wrap (a0)) 13) == 0) = false := beq_eq_false_iff_ne.mpr c22
    have c22b1 : ((Int.tmod (IntKind.u64.wrap (a0)) 13) != 0) = true := bne_iff_ne.mpr c22
    (first | rw [c22b0] | (simp only [i64_w, i32_w]; rw [c22b0]) | skip)
    by_cases c26 : (Int.tmod (IntKind.u64.wrap (a0)) 13) = 1
    ·rw [if_pos c26] at H
     have c26b0 : ((Int.tmod (IntKind.u64.wrap (a0)) 13) == 1) = true := beq_iff_eq.mpr c26
     have c26b1 : ((Int.tmod (IntKind.u64.wrap (a0)) 13) != 1) = false := bne_eq_false_iff_eq.mpr c26
     clear c26
     have H' := Aside0.mk H
     clear H
     have hnb27 := NB209_202.out
     have hnc27 := NB202_209.out
     have hcz28_0 : w21.cell? ⟨gb209, 0, none⟩ = some (.int .i64 t203) := (blk_cell BK209.out 0).trans rfl
     have hcz28_1 : w21.cell? ⟨gb209, 1, none⟩ = some (.int .i64 t204) := (blk_cell BK209.out 1).trans rfl
     have hcz28_2 : w21.cell? ⟨gb209, 2, none⟩ = some (.int .i64 t205) := (blk_cell BK209.out 2).trans rfl
     have hcz28_3 : w21.cell? ⟨gb209, 3, none⟩ = some (.slice Ao20 t206.length co20) := (blk_cell BK209.out 3).trans rfl
     have hfz28_0 := blk_frozen BK209.out 0
     have hfz28_1 := blk_frozen BK209.out 1
     have hfz28_2 := blk_frozen BK209.out 2
     have hfz28_3 := blk_frozen BK209.out 3
     go_wp2_with (first | ((with_reducible refine gate_store (t := 3) (p := 52) rfl ?_); refine store_event (t := 3) (p := 52) (v := ?vo_w29) (w1 := (w21.setCell ⟨gb209, 0, none⟩ (.int .i64 (wrap64 (4 + (wrap64 (1 + (Go.bits .and .i64 a1 1023)))))))) ?hg ?ho ?hn ?hr ?_; (case ho => rfl); (case hg => rfl); (case hn => rfl); (case hr => first | (go_simp; done) | (go_simp; rfl)); intro w29 hw; have n0_ : Aside0 (Kd.R k49 49 w29 w.heap.size (fun k_ => some k_ ≠ (.slice Ao20 t206.length co20 : Value).ownBlock) (.slice Ao11 y199.length co11) y199) := ⟨(by rw [hw]; exact (by (with_reducible repeat (first | apply Kd.R_alloc | apply Kd.R_drewN | apply Kd.R_drew)); exact Kd.R_mono (Kd.R_far (p := ⟨gb209, 0, none⟩) (Kd.R_types HO201.out BK209.out (by decide)) (fun _ hk => hk.2) (.int .i64 (wrap64 (4 + (wrap64 (1 + (Go.bits .and .i64 a1 1023))))))) (fun _ hk => hk.1)))⟩; have n1_ : Aside0 (Kd.R k49 49 w29 w.heap.size (fun k_ => some k_ ≠ (.slice Ao11 y199.length co11 : Value).ownBlock) (.slice Ao20 t206.length co20) t206) := ⟨(by rw [hw]; exact (by (with_reducible repeat (first | apply Kd.R_alloc | apply Kd.R_drewN | apply Kd.R_drew)); exact Kd.R_mono (Kd.R_far (p := ⟨gb209, 0, none⟩) (Kd.R_types HO208.out BK209.out (by decide)) (fun _ hk => hk.2) (.int .i64 (wrap64 (4 + (wrap64 (1 + (Go.bits .and .i64 a1 1023))))))) (fun _ hk => hk.1)))⟩; have n2_ : Aside0 (w29.heap[gb202]? = some (.cells #[.int .i64 2, .int .i64 5, .int .i64 3, .slice Ao11 y199.length co11] 24 (0, 0))) := ⟨(by rw [hw]; exact (upF NB202_209.out BK202.out))⟩; have n3_ : Aside0 (w29.heap[gb209]? = some (.cells #[.int .i64 (wrap64 (4 + (wrap64 (1 + (Go.bits .and .i64 a1 1023))))), .int .i64 t204, .int .i64 t205, .slice Ao20 t206.length co20] 24 (0, 0))) := ⟨(by rw [hw]; exact (by (with_reducible repeat (first | refine blk_drewN ?_ _ | refine blk_drew ?_ | refine blk_alloc ?_ _)); refine blk_put (cs := #[.int .i64 t203, .int .i64 t204, .int .i64 t205, .slice Ao20 t206.length co20]) ?_ 0 _ rfl; (with_reducible repeat (first | refine blk_drewN ?_ _ | refine blk_drew ?_ | refine blk_alloc ?_ _)); exact BK209.out))⟩; have n4_ : Aside0 (Below w.heap.size w w29) := ⟨(by rw [hw]; exact (by repeat (first | (with_reducible first | exact HB.out | apply below_alloc | apply pw_below_drewN | apply below_drew1 | refine below_set ?_ GE202.out | refine below_set ?_ GE209.out) | exact HB.out)))⟩; clear hw; clear HO201; clear HO208; clear BK202; clear BK209; clear HB; have HO201 := n0_; have HO208 := n1_; have BK202 := n2_; have BK209 := n3_; have HB := n4_; clear n0_ n1_ n2_ n3_ n4_))
     go_meet
     case rel => exact ⟨_, (y199), (wrap64 (4 + (wrap64 (1 + (Go.bits .and .i64 a1 1023))))), (t204), (t205), (t206), (.slice Ao11 y199.length co11), (.slice Ao20 t206.length co20), H', ⟨by first | omega | exact Nat.le_refl _⟩, ⟨upR HO201.out⟩, ⟨upR HO208.out⟩, ⟨upB BK202.out⟩, ⟨upB BK209.out⟩, ⟨by repeat (first | (with_reducible first | exact HB.out | apply below_alloc | apply pw_below_drewN | apply below_drew1 | refine below_set ?_ GE202.out | refine below_set ?_ GE209.out) | exact HB.out)⟩⟩
    ·rw [if_neg c26] at H
     have c26b0 : ((Int.tmod (IntKind.u64.wrap (a0)) 13) == 1) = false := beq_eq_false_iff_ne.mpr c26
     have c26b1 : ((Int.tmod (IntKind.u64.wrap (a0)) 13) != 1) = true := bne_iff_ne.mpr c26
     by_cases c30 : (Int.tmod (IntKind.u64.wrap (a0)) 13) = 2
     ·rw [if_pos c30] at H
      have c30b0 : ((Int.tmod (IntKind.u64.wrap (a0)) 13) == 2) = true := beq_iff_eq.mpr c30
      have c30b1 : ((Int.tmod (IntKind.u64.wrap (a0)) 13) != 2) = false := bne_eq_false_iff_eq.mpr c30
      clear c30
      have H' := Aside0.mk H
      clear H
      have hnb31 := NB209_202.out
      have hnc31 := NB202_209.out
      have hcz32_0 : w21.cell? ⟨gb209, 0, none⟩ = some (.int .i64 t203) := (blk_cell BK209.out 0).trans rfl
      have hcz32_1 : w21.cell? ⟨gb209, 1, none⟩ = some (.int .i64 t204) := (blk_cell BK209.out 1).trans rfl
      have hcz32_2 : w21.cell? ⟨gb209, 2, none⟩ = some (.int .i64 t205) := (blk_cell BK209.out 2).trans rfl
      have hcz32_3 : w21.cell? ⟨gb209, 3, none⟩ = some (.slice Ao20 t206.length co20) := (blk_cell BK209.out 3).trans rfl
      have hfz32_0 := blk_frozen BK209.out 0
      have hfz32_1 := blk_frozen BK209.out 1
      have hfz32_2 := blk_frozen BK209.out 2
      have hfz32_3 := blk_frozen BK209.out 3
      go_wp2_with (first | ((with_reducible refine gate_store (t := 3) (p := 57) rfl ?_); refine store_event (t := 3) (p := 57) (v := ?vo_w33) (w1 := (w21.setCell ⟨gb209, 1, none⟩ (.int .i64 (wrap64 (1 - (wrap64 (1 + (Go.bits .and .i64 a1 1023)))))))) ?hg ?ho ?hn ?hr ?_; (case ho => rfl); (case hg => rfl); (case hn => rfl); (case hr => first | (go_simp; done) | (go_simp; rfl)); intro w33 hw; have n0_ : Aside0 (Kd.R k49 49 w33 w.heap.size (fun k_ => some k_ ≠ (.slice Ao20 t206.length co20 : Value).ownBlock) (.slice Ao11 y199.length co11) y199) := ⟨(by rw [hw]; exact (by (with_reducible repeat (first | apply Kd.R_alloc | apply Kd.R_drewN | apply Kd.R_drew)); exact Kd.R_mono (Kd.R_far (p := ⟨gb209, 1, none⟩) (Kd.R_types HO201.out BK209.out (by decide)) (fun _ hk => hk.2) (.int .i64 (wrap64 (1 - (wrap64 (1 + (Go.bits .and .i64 a1 1023))))))) (fun _ hk => hk.1)))⟩; have n1_ : Aside0 (Kd.R k49 49 w33 w.heap.size (fun k_ => some k_ ≠ (.slice Ao11 y199.length co11 : Value).ownBlock) (.slice Ao20 t206.length co20) t206) := ⟨(by rw [hw]; exact (by (with_reducible repeat (first | apply Kd.R_alloc | apply Kd.R_drewN | apply Kd.R_drew)); exact Kd.R_mono (Kd.R_far (p := ⟨gb209, 1, none⟩) (Kd.R_types HO208.out BK209.out (by decide)) (fun _ hk => hk.2) (.int .i64 (wrap64 (1 - (wrap64 (1 + (Go.bits .and .i64 a1 1023))))))) (fun _ hk => hk.1)))⟩; have n2_ : Aside0 (w33.heap[gb202]? = some (.cells #[.int .i64 2, .int .i64 5, .int .i64 3, .slice Ao11 y199.length co11] 24 (0, 0))) := ⟨(by rw [hw]; exact (upF NB202_209.out BK202.out))⟩; have n3_ : Aside0 (w33.heap[gb209]? = some (.cells #[.int .i64 t203, .int .i64 (wrap64 (1 - (wrap64 (1 + (Go.bits .and .i64 a1 1023))))), .int .i64 t205, .slice Ao20 t206.length co20] 24 (0, 0))) := ⟨(by rw [hw]; exact (by (with_reducible repeat (first | refine blk_drewN ?_ _ | refine blk_drew ?_ | refine blk_alloc ?_ _)); refine blk_put (cs := #[.int .i64 t203, .int .i64 t204, .int .i64 t205, .slice Ao20 t206.length co20]) ?_ 1 _ rfl; (with_reducible repeat (first | refine blk_drewN ?_ _ | refine blk_drew ?_ | refine blk_alloc ?_ _)); exact BK209.out))⟩; have n4_ : Aside0 (Below w.heap.size w w33) := ⟨(by rw [hw]; exact (by repeat (first | (with_reducible first | exact HB.out | apply below_alloc | apply pw_below_drewN | apply below_drew1 | refine below_set ?_ GE202.out | refine below_set ?_ GE209.out) | exact HB.out)))⟩; clear hw; clear HO201; clear HO208; clear BK202; clear BK209; clear HB; have HO201 := n0_; have HO208 := n1_; have BK202 := n2_; have BK209 := n3_; have HB := n4_; clear n0_ n1_ n2_ n3_ n4_))
      go_meet
      case rel => exact ⟨_, (y199), (t203), (wrap64 (1 - (wrap64 (1 + (Go.bits .and .i64 a1 1023))))), (t205), (t206), (.slice Ao11 y199.length co11), (.slice Ao20 t206.length co20), H', ⟨by first | omega | exact Nat.le_refl _⟩, ⟨upR HO201.out⟩, ⟨upR HO208.out⟩, ⟨upB BK202.out⟩, ⟨upB BK209.out⟩, ⟨by repeat (first | (with_reducible first | exact HB.out | apply below_alloc | apply pw_below_drewN | apply below_drew1 | refine below_set ?_ GE202.out | refine below_set ?_ GE209.out) | exact HB.out)⟩⟩
     ·rw [if_neg c30] at H
      have c30b0 : ((Int.tmod (IntKind.u64.wrap (a0)) 13) == 2) = false := beq_eq_false_iff_ne.mpr c30
      have c30b1 : ((Int.tmod (IntKind.u64.wrap (a0)) 13) != 2) = true := bne_iff_ne.mpr c30
      by_cases c34 : (Int.tmod (IntKind.u64.wrap (a0)) 13) = 3
      ·rw [if_pos c34] at H
       have c34b0 : ((Int.tmod (IntKind.u64.wrap (a0)) 13) == 3) = true := beq_iff_eq.mpr c34
       have c34b1 : ((Int.tmod (IntKind.u64.wrap (a0)) 13) != 3) = false := bne_eq_false_iff_eq.mpr c34
       clear c34
       have H' := Aside0.mk H
       clear H
       have hnb35 := NB209_202.out
       have hnc35 := NB202_209.out
       have hcz36_0 : w21.cell? ⟨gb209, 0, none⟩ = some (.int .i64 t203) := (blk_cell BK209.out 0).trans rfl
       have hcz36_1 : w21.cell? ⟨gb209, 1, none⟩ = some (.int .i64 t204) := (blk_cell BK209.out 1).trans rfl
       have hcz36_2 : w21.cell? ⟨gb209, 2, none⟩ = some (.int .i64 t205) := (blk_cell BK209.out 2).trans rfl
       have hcz36_3 : w21.cell? ⟨gb209, 3, none⟩ = some (.slice Ao20 t206.length co20) := (blk_cell BK209.out 3).trans rfl
       have hfz36_0 := blk_frozen BK209.out 0
       have hfz36_1 := blk_frozen BK209.out 1
       have hfz36_2 := blk_frozen BK209.out 2
       have hfz36_3 := blk_frozen BK209.out 3
       go_wp2_with (first | ((with_reducible refine gate_store (t := 3) (p := 62) rfl ?_); refine store_event (t := 3) (p := 62) (v := ?vo_w37) (w1 := (w21.setCell ⟨gb209, 1, none⟩ (.int .i64 (wrap64 (2147483647 + (wrap64 (1 + (Go.bits .and .i64 a1 1023)))))))) ?hg ?ho ?hn ?hr ?_; (case ho => rfl); (case hg => rfl); (case hn => rfl); (case hr => first | (go_simp; done) | (go_simp; rfl)); intro w37 hw; have n0_ : Aside0 (Kd.R k49 49 w37 w.heap.size (fun k_ => some k_ ≠ (.slice Ao20 t206.length co20 : Value).ownBlock) (.slice Ao11 y199.length co11) y199) := ⟨(by rw [hw]; exact (by (with_reducible repeat (first | apply Kd.R_alloc | apply Kd.R_drewN | apply Kd.R_drew)); exact Kd.R_mono (Kd.R_far (p := ⟨gb209, 1, none⟩) (Kd.R_types HO201.out BK209.out (by decide)) (fun _ hk => hk.2) (.int .i64 (wrap64 (2147483647 + (wrap64 (1 + (Go.bits .and .i64 a1 1023))))))) (fun _ hk => hk.1)))⟩; have n1_ : Aside0 (Kd.R k49 49 w37 w.heap.size (fun k_ => some k_ ≠ (.slice Ao11 y199.length co11 : Value).ownBlock) (.slice Ao20 t206.length co20) t206) := ⟨(by rw [hw]; exact (by (with_reducible repeat (first | apply Kd.R_alloc | apply Kd.R_drewN | apply Kd.R_drew)); exact Kd.R_mono (Kd.R_far (p := ⟨gb209, 1, none⟩) (Kd.R_types HO208.out BK209.out (by decide)) (fun _ hk => hk.2) (.int .i64 (wrap64 (2147483647 + (wrap64 (1 + (Go.bits .and .i64 a1 1023))))))) (fun _ hk => hk.1)))⟩; have n2_ : Aside0 (w37.heap[gb202]? = some (.cells #[.int .i64 2, .int .i64 5, .int .i64 3, .slice Ao11 y199.length co11] 24 (0, 0))) := ⟨(by rw [hw]; exact (upF NB202_209.out BK202.out))⟩; have n3_ : Aside0 (w37.heap[gb209]? = some (.cells #[.int .i64 t203, .int .i64 (wrap64 (2147483647 + (wrap64 (1 + (Go.bits .and .i64 a1 1023))))), .int .i64 t205, .slice Ao20 t206.length co20] 24 (0, 0))) := ⟨(by rw [hw]; exact (by (with_reducible repeat (first | refine blk_drewN ?_ _ | refine blk_drew ?_ | refine blk_alloc ?_ _)); refine blk_put (cs := #[.int .i64 t203, .int .i64 t204, .int .i64 t205, .slice Ao20 t206.length co20]) ?_ 1 _ rfl; (with_reducible repeat (first | refine blk_drewN ?_ _ | refine blk_drew ?_ | refine blk_alloc ?_ _)); exact BK209.out))⟩; have n4_ : Aside0 (Below w.heap.size w w37) := ⟨(by rw [hw]; exact (by repeat (first | (with_reducible first | exact HB.out | apply below_alloc | apply pw_below_drewN | apply below_drew1 | refine below_set ?_ GE202.out | refine below_set ?_ GE209.out) | exact HB.out)))⟩; clear hw; clear HO201; clear HO208; clear BK202; clear BK209; clear HB; have HO201 := n0_; have HO208 := n1_; have BK202 := n2_; have BK209 := n3_; have HB := n4_; clear n0_ n1_ n2_ n3_ n4_))
       go_meet
       case rel => exact ⟨_, (y199), (t203), (wrap64 (2147483647 + (wrap64 (1 + (Go.bits .and .i64 a1 1023))))), (t205), (t206), (.slice Ao11 y199.length co11), (.slice Ao20 t206.length co20), H', ⟨by first | omega | exact Nat.le_refl _⟩, ⟨upR HO201.out⟩, ⟨upR HO208.out⟩, ⟨upB BK202.out⟩, ⟨upB BK209.out⟩, ⟨by repeat (first | (with_reducible first | exact HB.out | apply below_alloc | apply pw_below_drewN | apply below_drew1 | refine below_set ?_ GE202.out | refine below_set ?_ GE209.out) | exact HB.out)⟩⟩
      ·rw [if_neg c34] at H
       have c34b0 : ((Int.tmod (IntKind.u64.wrap (a0)) 13) == 3) = false := beq_eq_false_iff_ne.mpr c34
       have c34b1 : ((Int.tmod (IntKind.u64.wrap (a0)) 13) != 3) = true := bne_iff_ne.mpr c34
       by_cases c38 : (Int.tmod (IntKind.u64.wrap (a0)) 13) = 4
       ·rw [if_pos c38] at H
        have c38b0 : ((Int.tmod (IntKind.u64.wrap (a0)) 13) == 4) = true := beq_iff_eq.mpr c38
        have c38b1 : ((Int.tmod (IntKind.u64.wrap (a0)) 13) != 4) = false := bne_eq_false_iff_eq.mpr c38
        clear c38
        have H' := Aside0.mk H
        clear H
        have hnb39 := NB209_202.out
        have hnc39 := NB202_209.out
        have hcz40_0 : w21.cell? ⟨gb209, 0, none⟩ = some (.int .i64 t203) := (blk_cell BK209.out 0).trans rfl
        have hcz40_1 : w21.cell? ⟨gb209, 1, none⟩ = some (.int .i64 t204) := (blk_cell BK209.out 1).trans rfl
        have hcz40_2 : w21.cell? ⟨gb209, 2, none⟩ = some (.int .i64 t205) := (blk_cell BK209.out 2).trans rfl
        have hcz40_3 : w21.cell? ⟨gb209, 3, none⟩ = some (.slice Ao20 t206.length co20) := (blk_cell BK209.out 3).trans rfl
        have hfz40_0 := blk_frozen BK209.out 0
        have hfz40_1 := blk_frozen BK209.out 1
        have hfz40_2 := blk_frozen BK209.out 2
        have hfz40_3 := blk_frozen BK209.out 3
        go_wp2_with (first | ((with_reducible refine gate_store (t := 3) (p := 67) rfl ?_); refine store_event (t := 3) (p := 67) (v := ?vo_w41) (w1 := (w21.setCell ⟨gb209, 2, none⟩ (.int .i64 (wrap64 (-(wrap64 (1 + (Go.bits .and .i64 a1 1023)))))))) ?hg ?ho ?hn ?hr ?_; (case ho => rfl); (case hg => rfl); (case hn => rfl); (case hr => first | (go_simp; done) | (go_simp; rfl)); intro w41 hw; have n0_ : Aside0 (Kd.R k49 49 w41 w.heap.size (fun k_ => some k_ ≠ (.slice Ao20 t206.length co20 : Value).ownBlock) (.slice Ao11 y199.length co11) y199) := ⟨(by rw [hw]; exact (by (with_reducible repeat (first | apply Kd.R_alloc | apply Kd.R_drewN | apply Kd.R_drew)); exact Kd.R_mono (Kd.R_far (p := ⟨gb209, 2, none⟩) (Kd.R_types HO201.out BK209.out (by decide)) (fun _ hk => hk.2) (.int .i64 (wrap64 (-(wrap64 (1 + (Go.bits .and .i64 a1 1023))))))) (fun _ hk => hk.1)))⟩; have n1_ : Aside0 (Kd.R k49 49 w41 w.heap.size (fun k_ => some k_ ≠ (.slice Ao11 y199.length co11 : Value).ownBlock) (.slice Ao20 t206.length co20) t206) := ⟨(by rw [hw]; exact (by (with_reducible repeat (first | apply Kd.R_alloc | apply Kd.R_drewN | apply Kd.R_drew)); exact Kd.R_mono (Kd.R_far (p := ⟨gb209, 2, none⟩) (Kd.R_types HO208.out BK209.out (by decide)) (fun _ hk => hk.2) (.int .i64 (wrap64 (-(wrap64 (1 + (Go.bits .and .i64 a1 1023))))))) (fun _ hk => hk.1)))⟩; have n2_ : Aside0 (w41.heap[gb202]? = some (.cells #[.int .i64 2, .int .i64 5, .int .i64 3, .slice Ao11 y199.length co11] 24 (0, 0))) := ⟨(by rw [hw]; exact (upF NB202_209.out BK202.out))⟩; have n3_ : Aside0 (w41.heap[gb209]? = some (.cells #[.int .i64 t203, .int .i64 t204, .int .i64 (wrap64 (-(wrap64 (1 + (Go.bits .and .i64 a1 1023))))), .slice Ao20 t206.length co20] 24 (0, 0))) := ⟨(by rw [hw]; exact (by (with_reducible repeat (first | refine blk_drewN ?_ _ | refine blk_drew ?_ | refine blk_alloc ?_ _)); refine blk_put (cs := #[.int .i64 t203, .int .i64 t204, .int .i64 t205, .slice Ao20 t206.length co20]) ?_ 2 _ rfl; (with_reducible repeat (first | refine blk_drewN ?_ _ | refine blk_drew ?_ | refine blk_alloc ?_ _)); exact BK209.out))⟩; have n4_ : Aside0 (Below w.heap.size w w41) := ⟨(by rw [hw]; exact (by repeat (first | (with_reducible first | exact HB.out | apply below_alloc | apply pw_below_drewN | apply below_drew1 | refine below_set ?_ GE202.out | refine below_set ?_ GE209.out) | exact HB.out)))⟩; clear hw; clear HO201; clear HO208; clear BK202; clear BK209; clear HB; have HO201 := n0_; have HO208 := n1_; have BK202 := n2_; have BK209 := n3_; have HB := n4_; clear n0_ n1_ n2_ n3_ n4_))
        go_meet
        case rel => exact ⟨_, (y199), (t203), (t204), (wrap64 (-(wrap64 (1 + (Go.bits .and .i64 a1 1023))))), (t206), (.slice Ao11 y199.length co11), (.slice Ao20 t206.length co20), H', ⟨by first | omega | exact Nat.le_refl _⟩, ⟨upR HO201.out⟩, ⟨upR HO208.out⟩, ⟨upB BK202.out⟩, ⟨upB BK209.out⟩, ⟨by repeat (first | (with_reducible first | exact HB.out | apply below_alloc | apply pw_below_drewN | apply below_drew1 | refine below_set ?_ GE202.out | refine below_set ?_ GE209.out) | exact HB.out)⟩⟩
       ·rw [if_neg c38] at H
        have c38b0 : ((Int.tmod (IntKind.u64.wrap (a0)) 13) == 4) = false := beq_eq_false_iff_ne.mpr c38
        have c38b1 : ((Int.tmod (IntKind.u64.wrap (a0)) 13) != 4) = true := bne_iff_ne.mpr c38
        by_cases c42 : (Int.tmod (IntKind.u64.wrap (a0)) 13) = 5
        ·rw [if_pos c42] at H
         have c42b0 : ((Int.tmod (IntKind.u64.wrap (a0)) 13) == 5) = true := beq_iff_eq.mpr c42
         have c42b1 : ((Int.tmod (IntKind.u64.wrap (a0)) 13) != 5) = false := bne_eq_false_iff_eq.mpr c42
         clear c42
         have H' := Aside0.mk H
         clear H
         have hnb43 := NB209_202.out
         have hnc43 := NB202_209.out
         have hcz44_0 : w21.cell? ⟨gb209, 0, none⟩ = some (.int .i64 t203) := (blk_cell BK209.out 0).trans rfl
         have hcz44_1 : w21.cell? ⟨gb209, 1, none⟩ = some (.int .i64 t204) := (blk_cell BK209.out 1).trans rfl
         have hcz44_2 : w21.cell? ⟨gb209, 2, none⟩ = some (.int .i64 t205) := (blk_cell BK209.out 2).trans rfl
         have hcz44_3 : w21.cell? ⟨gb209, 3, none⟩ = some (.slice Ao20 t206.length co20) := (blk_cell BK209.out 3).trans rfl
         have hfz44_0 := blk_frozen BK209.out 0
         have hfz44_1 := blk_frozen BK209.out 1
         have hfz44_2 := blk_frozen BK209.out 2
         have hfz44_3 := blk_frozen BK209.out 3
         go_wp2_with (first | ((with_reducible refine gate_store (t := 3) (p := 72) rfl ?_); refine store_event (t := 3) (p := 72) (v := ?vo_w45) (w1 := (w21.setCell ⟨gb209, 2, none⟩ (.int .i64 (wrap64 (60 + (wrap64 (1 + (Go.bits .and .i64 a1 1023)))))))) ?hg ?ho ?hn ?hr ?_; (case ho => rfl); (case hg => rfl); (case hn => rfl); (case hr => first | (go_simp; done) | (go_simp; rfl)); intro w45 hw; have n0_ : Aside0 (Kd.R k49 49 w45 w.heap.size (fun k_ => some k_ ≠ (.slice Ao20 t206.length co20 : Value).ownBlock) (.slice Ao11 y199.length co11) y199) := ⟨(by rw [hw]; exact (by (with_reducible repeat (first | apply Kd.R_alloc | apply Kd.R_drewN | apply Kd.R_drew)); exact Kd.R_mono (Kd.R_far (p := ⟨gb209, 2, none⟩) (Kd.R_types HO201.out BK209.out (by decide)) (fun _ hk => hk.2) (.int .i64 (wrap64 (60 + (wrap64 (1 + (Go.bits .and .i64 a1 1023))))))) (fun _ hk => hk.1)))⟩; have n1_ : Aside0 (Kd.R k49 49 w45 w.heap.size (fun k_ => some k_ ≠ (.slice Ao11 y199.length co11 : Value).ownBlock) (.slice Ao20 t206.length co20) t206) := ⟨(by rw [hw]; exact (by (with_reducible repeat (first | apply Kd.R_alloc | apply Kd.R_drewN | apply Kd.R_drew)); exact Kd.R_mono (Kd.R_far (p := ⟨gb209, 2, none⟩) (Kd.R_types HO208.out BK209.out (by decide)) (fun _ hk => hk.2) (.int .i64 (wrap64 (60 + (wrap64 (1 + (Go.bits .and .i64 a1 1023))))))) (fun _ hk => hk.1)))⟩; have n2_ : Aside0 (w45.heap[gb202]? = some (.cells #[.int .i64 2, .int .i64 5, .int .i64 3, .slice Ao11 y199.length co11] 24 (0, 0))) := ⟨(by rw [hw]; exact (upF NB202_209.out BK202.out))⟩; have n3_ : Aside0 (w45.heap[gb209]? = some (.cells #[.int .i64 t203, .int .i64 t204, .int .i64 (wrap64 (60 + (wrap64 (1 + (Go.bits .and .i64 a1 1023))))), .slice Ao20 t206.length co20] 24 (0, 0))) := ⟨(by rw [hw]; exact (by (with_reducible repeat (first | refine blk_drewN ?_ _ | refine blk_drew ?_ | refine blk_alloc ?_ _)); refine blk_put (cs := #[.int .i64 t203, .int .i64 t204, .int .i64 t205, .slice Ao20 t206.length co20]) ?_ 2 _ rfl; (with_reducible repeat (first | refine blk_drewN ?_ _ | refine blk_drew ?_ | refine blk_alloc ?_ _)); exact BK209.out))⟩; have n4_ : Aside0 (Below w.heap.size w w45) := ⟨(by rw [hw]; exact (by repeat (first | (with_reducible first | exact HB.out | apply below_alloc | apply pw_below_drewN | apply below_drew1 | refine below_set ?_ GE202.out | refine below_set ?_ GE209.out) | exact HB.out)))⟩; clear hw; clear HO201; clear HO208; clear BK202; clear BK209; clear HB; have HO201 := n0_; have HO208 := n1_; have BK202 := n2_; have BK209 := n3_; have HB := n4_; clear n0_ n1_ n2_ n3_ n4_))
         go_meet
         case rel => exact ⟨_, (y199), (t203), (t204), (wrap64 (60 + (wrap64 (1 + (Go.bits .and .i64 a1 1023))))), (t206), (.slice Ao11 y199.length co11), (.slice Ao20 t206.length co20), H', ⟨by first | omega | exact Nat.le_refl _⟩, ⟨upR HO201.out⟩, ⟨upR HO208.out⟩, ⟨upB BK202.out⟩, ⟨upB BK209.out⟩, ⟨by repeat (first | (with_reducible first | exact HB.out | apply below_alloc | apply pw_below_drewN | apply below_drew1 | refine below_set ?_ GE202.out | refine below_set ?_ GE209.out) | exact HB.out)⟩⟩
        ·rw [if_neg c42] at H
         have c42b0 : ((Int.tmod (IntKind.u64.wrap (a0)) 13) == 5) = false := beq_eq_false_iff_ne.mpr c42
         have c42b1 : ((Int.tmod (IntKind.u64.wrap (a0)) 13) != 5) = true := bne_iff_ne.mpr c42
         by_cases c46 : (Int.tmod (IntKind.u64.wrap (a0)) 13) = 6
         ·rw [if_pos c46] at H
          have c46b0 : ((Int.tmod (IntKind.u64.wrap (a0)) 13) == 6) = true := beq_iff_eq.mpr c46
          have c46b1 : ((Int.tmod (IntKind.u64.wrap (a0)) 13) != 6) = false := bne_eq_false_iff_eq.mpr c46
          clear c46
          by_cases c47 : 0 < (t206.length : Int)
          ·rw [if_pos c47] at H
           have c47b0 : decide (0 < (t206.length : Int)) = true := decide_eq_true c47
           have c47b1 : decide (0 < t206.length) = true := decide_eq_true (by omega)
           clear c47
           obtain ⟨y210, hy210⟩ : ∃ y_ : List (S49), y_ = (t206.set (0 : Int).toNat (⟨wrap64 (1 - (wrap64 (1 + (Go.bits .and .i64 a1 1023)))), (rd_T49 t206 0).f1⟩ : S49)) := ⟨_, rfl⟩
           replace H : (watchwordlaw7_LsaForms.j0 k a2 (wrap64 (1 + (Go.bits .and .i64 a1 1023))) 2 5 3 y199 t203 t204 t205 y210) = some r := by first | (rw [hy210]; with_reducible exact H) | (have H2_ := (Option.bind_some _ _).symm.trans H; rw [hy210]; with_reducible exact H2_) | (have H2_ := (Option.bind_some _ _).symm.trans H; with_reducible exact H2_) | with_reducible exact H | (rw [hy210]; exact H) | exact H
           have Ny210 := Aside0.mk hy210
           clear hy210
           have H' := Aside0.mk H
           clear H
           have hnb49 := NB209_202.out
           have hnc49 := NB202_209.out
           have hcz50_0 : w21.cell? ⟨gb209, 0, none⟩ = some (.int .i64 t203) := (blk_cell BK209.out 0).trans rfl
           have hcz50_1 : w21.cell? ⟨gb209, 1, none⟩ = some (.int .i64 t204) := (blk_cell BK209.out 1).trans rfl
           have hcz50_2 : w21.cell? ⟨gb209, 2, none⟩ = some (.int .i64 t205) := (blk_cell BK209.out 2).trans rfl
           have hcz50_3 : w21.cell? ⟨gb209, 3, none⟩ = some (.slice Ao20 t206.length co20) := (blk_cell BK209.out 3).trans rfl
           have hfz50_0 := blk_frozen BK209.out 0
           have hfz50_1 := blk_frozen BK209.out 1
           have hfz50_2 := blk_frozen BK209.out 2
           have hfz50_3 := blk_frozen BK209.out 3
           have p48 : 0 ≤ (0 : Int) := (by omega)
           have q48 : (0 : Int) < ((t206.length : Int) : Int) := of_decide_eq_true (by first | (with_reducible assumption) | assumption)
           have qi48 : (0 < t206.length) = True := eq_true (by omega)
           obtain ⟨go48, co48, eo48, gb48, gl48, cl48, HG48⟩ := Kd.R_form HO208.out (by omega)
           (first | cases eo48 | (injection eo48 with ea_ en_ ec_; (first | subst ea_ | (injection ea_ with ea_; subst ea_)); subst ec_; clear en_))
           have GB48 := Aside0.mk gb48
           have GG48 := Aside0.mk HG48
           clear gb48 gl48 HG48
           obtain ⟨ce48, hcl48, hM48, hcc48, hfr48⟩ := Kd.R_elem HO208.out z49 (0 : Int) p48 q48
           obtain rfl := k49_openM hM48
           have hx48_0 : w21.cell? ⟨go48, (0 : Int).toNat * 2, none⟩ = some (.int .i64 ((rd_T49 t206 0).f0)) := hcc48 0 _ rfl
           have hx48_1 : w21.cell? ⟨go48, (0 : Int).toNat * 2 + 1, none⟩ = some (.int .i64 ((rd_T49 t206 0).f1)) := hcc48 1 _ rfl
           have hf48_0 : w21.frozen? ⟨go48, (0 : Int).toNat * 2, none⟩ = false := hfr48 0
           have hf48_1 : w21.frozen? ⟨go48, (0 : Int).toNat * 2 + 1, none⟩ = false := hfr48 1
           clear hcl48 hcc48 hfr48 hM48
           (try rw [show ((0 : Int)).toNat = 0 from rfl] at hx48_0)
           (try simp only [Nat.reduceMul, Nat.zero_mul, Nat.zero_add, Nat.reduceAdd] at hx48_0)
           (try rw [show ((0 : Int)).toNat = 0 from rfl] at hf48_0)
           (try simp only [Nat.reduceMul, Nat.zero_mul, Nat.zero_add, Nat.reduceAdd] at hf48_0)
           (try rw [show ((0 : Int)).toNat = 0 from rfl] at hx48_1)
           (try simp only [Nat.reduceMul, Nat.zero_mul, Nat.zero_add, Nat.reduceAdd] at hx48_1)
           (try rw [show ((0 : Int)).toNat = 0 from rfl] at hf48_1)
           (try simp only [Nat.reduceMul, Nat.zero_mul, Nat.zero_add, Nat.reduceAdd] at hf48_1)
           replace p48 := eq_true p48
           replace q48 := eq_true q48
           have HX51 := Aside0.mk (show Kd.R k49 49 w21 w.heap.size (fun k_ => some k_ ≠ (.slice Ao11 y199.length co11 : Value).ownBlock) (.slice (some ⟨go48, 0, none⟩) t206.length co20) t206 from (upR HO208.out))
           obtain ⟨ce51, hcl51, hM51, hcc51, hfr51⟩ := Kd.R_elem HX51.out z49 (0 : Int) (by omega) (by have h_ : (0 : Int) < ((t206.length : Int) : Int) := of_decide_eq_true (by first | (with_reducible assumption) | assumption); first | exact h_ | (have e_ := (Kd.R_reads' HO208.out).1; omega) | simpa using h_)
           obtain rfl := k49_openM hM51
           have HP51 := Kd.R_seg HX51.out (0 : Int) (by omega) (by have h_ : (0 : Int) < ((t206.length : Int) : Int) := of_decide_eq_true (by first | (with_reducible assumption) | assumption); first | exact h_ | (have e_ := (Kd.R_reads' HO208.out).1; omega) | simpa using h_) (seg := [.int .i64 (wrap64 (1 - (wrap64 (1 + (Go.bits .and .i64 a1 1023)))))]) (j := 0) hcl51 hcc51 (show 1 ≤ 2 from by decide) (x' := (⟨wrap64 (1 - (wrap64 (1 + (Go.bits .and .i64 a1 1023)))), (rd_T49 t206 0).f1⟩ : S49)) (k49_mkM _ _ _ (⟨wrap64 (1 - (wrap64 (1 + (Go.bits .and .i64 a1 1023)))), (rd_T49 t206 0).f1⟩ : S49) ) (fun _ hk => hk)
           have hx51_0 := hcc51 0 _ rfl
           (try simp only [show (k49).sz = 2 from rfl, Nat.mul_one, Nat.add_zero] at hx51_0)
           (try rw [show ((0 : Int)).toNat = 0 from rfl] at hx51_0)
           (try simp only [Nat.reduceMul, Nat.zero_mul, Nat.zero_add, Nat.reduceAdd] at hx51_0)
           have hf51_0 := hfr51 0
           (try simp only [show (k49).sz = 2 from rfl, Nat.mul_one, Nat.add_zero] at hf51_0)
           (try rw [show ((0 : Int)).toNat = 0 from rfl] at hf51_0)
           (try simp only [Nat.reduceMul, Nat.zero_mul, Nat.zero_add, Nat.reduceAdd] at hf51_0)
           clear hcl51 hcc51 hfr51 hM51
           go_wp2_with (first | ((with_reducible refine gate_store (t := 3) (p := 80) rfl ?_); refine store_event (t := 3) (p := 80) (v := ?vo_w52) (w1 := (w21.setCell ⟨go48, 0, none⟩ (.int .i64 (wrap64 (1 - (wrap64 (1 + (Go.bits .and .i64 a1 1023)))))))) ?hg ?ho ?hn ?hr ?_; (case ho => rfl); (case hg => rfl); (case hn => rfl); (case hr => first | (go_simp; done) | (go_simp; rfl)); intro w52 hw; have hg : w21.grownBy w52 (some go48) := (by rw [hw]; exact HP51.2); have hp_ : Kd.R k49 49 w52 w.heap.size (fun k_ => some k_ ≠ (.slice Ao11 y199.length co11 : Value).ownBlock) (.slice (some ⟨go48, 0, none⟩) t206.length co20) y210 := (by rw [hw, Ny210.out]; exact HP51.1); clear HP51; have n0_ := Aside0.mk (Kd.R_after (v := (.slice (some ⟨go48, 0, none⟩) t206.length co20)) (v1 := (.slice (some ⟨go48, 0, none⟩) t206.length co20)) (ok := (fun _ => True)) (by (with_reducible repeat (first | apply Kd.R_alloc | apply Kd.R_drewN | apply Kd.R_drew)); exact Kd.R_mono HO201.out (fun _ hk => ⟨trivial, hk⟩)) hg (.inl rfl)); have n1_ := Aside0.mk (blk_grown (g := gb202) (o := .cells #[.int .i64 2, .int .i64 5, .int .i64 3, .slice Ao11 y199.length co11] 24 (0, 0)) (upB BK202.out) hg (Kd.R_ne HO208.out BK202.out (by decide))); have n2_ := Aside0.mk (hp_); have n3_ := Aside0.mk (blk_grown (g := gb209) (o := .cells #[.int .i64 t203, .int .i64 t204, .int .i64 t205, .slice (some ⟨go48, 0, none⟩) t206.length co20] 24 (0, 0)) (upB BK209.out) hg (Kd.R_ne HO208.out BK209.out (by decide))); have n4_ := Aside0.mk ((by rw [hw]; exact below_set (HB.out) GB48.out : Below w.heap.size w w52)); clear HO201; clear BK202; clear HO208; clear BK209; clear HB; have HO201 := n0_; have BK202 := n1_; have HO208 := n2_; have BK209 := n3_; have HB := n4_; clear n0_ n1_ n2_ n3_ n4_; clear hg hw hp_))
           go_meet
           case rel => exact ⟨_, (y199), (t203), (t204), (t205), (y210), (.slice Ao11 y199.length co11), (.slice (some ⟨go48, 0, none⟩) t206.length co20), H', ⟨by first | omega | exact Nat.le_refl _⟩, ⟨by (with_reducible repeat (first | apply Kd.R_alloc | apply Kd.R_drewN | apply Kd.R_drew)); exact Kd.R_mono HO201.out (fun _ hk => hk.2)⟩, ⟨upR HO208.out⟩, ⟨upB BK202.out⟩, ⟨upB BK209.out⟩, ⟨by repeat (first | (with_reducible first | exact HB.out | apply below_alloc | apply pw_below_drewN | apply below_drew1 | refine below_set ?_ GE202.out | refine below_set ?_ GE209.out) | exact HB.out)⟩⟩
          ·rw [if_neg c47] at H
           exact absurd H (by simp)
         ·rw [if_neg c46] at H
          have c46b0 : ((Int.tmod (IntKind.u64.wrap (a0)) 13) == 6) = false := beq_eq_false_iff_ne.mpr c46
          have c46b1 : ((Int.tmod (IntKind.u64.wrap (a0)) 13) != 6) = true := bne_iff_ne.mpr c46
          by_cases c53 : (Int.tmod (IntKind.u64.wrap (a0)) 13) = 7
          ·rw [if_pos c53] at H
           have c53b0 : ((Int.tmod (IntKind.u64.wrap (a0)) 13) == 7) = true := beq_iff_eq.mpr c53
           have c53b1 : ((Int.tmod (IntKind.u64.wrap (a0)) 13) != 7) = false := bne_eq_false_iff_eq.mpr c53
           clear c53
           by_cases c54 : 1 < (t206.length : Int)
           ·rw [if_pos c54] at H
            have c54b0 : decide (1 < (t206.length : Int)) = true := decide_eq_true c54
            have c54b1 : decide (1 < t206.length) = true := decide_eq_true (by omega)
            clear c54
            obtain ⟨y211, hy211⟩ : ∃ y_ : List (S49), y_ = (t206.set (1 : Int).toNat (⟨wrap64 (4 + (wrap64 (1 + (Go.bits .and .i64 a1 1023)))), (rd_T49 t206 1).f1⟩ : S49)) := ⟨_, rfl⟩
            replace H : (watchwordlaw7_LsaForms.j0 k a2 (wrap64 (1 + (Go.bits .and .i64 a1 1023))) 2 5 3 y199 t203 t204 t205 y211) = some r := by first | (rw [hy211]; with_reducible exact H) | (have H2_ := (Option.bind_some _ _).symm.trans H; rw [hy211]; with_reducible exact H2_) | (have H2_ := (Option.bind_some _ _).symm.trans H; with_reducible exact H2_) | with_reducible exact H | (rw [hy211]; exact H) | exact H
            have Ny211 := Aside0.mk hy211
            clear hy211
            have H' := Aside0.mk H
            clear H
            have hnb56 := NB209_202.out
            have hnc56 := NB202_209.out
            have hcz57_0 : w21.cell? ⟨gb209, 0, none⟩ = some (.int .i64 t203) := (blk_cell BK209.out 0).trans rfl
            have hcz57_1 : w21.cell? ⟨gb209, 1, none⟩ = some (.int .i64 t204) := (blk_cell BK209.out 1).trans rfl
            have hcz57_2 : w21.cell? ⟨gb209, 2, none⟩ = some (.int .i64 t205) := (blk_cell BK209.out 2).trans rfl
            have hcz57_3 : w21.cell? ⟨gb209, 3, none⟩ = some (.slice Ao20 t206.length co20) := (blk_cell BK209.out 3).trans rfl
            have hfz57_0 := blk_frozen BK209.out 0
            have hfz57_1 := blk_frozen BK209.out 1
            have hfz57_2 := blk_frozen BK209.out 2
            have hfz57_3 := blk_frozen BK209.out 3
            have p55 : 0 ≤ (1 : Int) := (by omega)
            have q55 : (1 : Int) < ((t206.length : Int) : Int) := of_decide_eq_true (by first | (with_reducible assumption) | assumption)
            have qi55 : (1 < t206.length) = True := eq_true (by omega)
            obtain ⟨go55, co55, eo55, gb55, gl55, cl55, HG55⟩ := Kd.R_form HO208.out (by omega)
            (first | cases eo55 | (injection eo55 with ea_ en_ ec_; (first | subst ea_ | (injection ea_ with ea_; subst ea_)); subst ec_; clear en_))
            have GB55 := Aside0.mk gb55
            have GG55 := Aside0.mk HG55
            clear gb55 gl55 HG55
            obtain ⟨ce55, hcl55, hM55, hcc55, hfr55⟩ := Kd.R_elem HO208.out z49 (1 : Int) p55 q55
            obtain rfl := k49_openM hM55
            have hx55_0 : w21.cell? ⟨go55, (1 : Int).toNat * 2, none⟩ = some (.int .i64 ((rd_T49 t206 1).f0)) := hcc55 0 _ rfl
            have hx55_1 : w21.cell? ⟨go55, (1 : Int).toNat * 2 + 1, none⟩ = some (.int .i64 ((rd_T49 t206 1).f1)) := hcc55 1 _ rfl
            have hf55_0 : w21.frozen? ⟨go55, (1 : Int).toNat * 2, none⟩ = false := hfr55 0
            have hf55_1 : w21.frozen? ⟨go55, (1 : Int).toNat * 2 + 1, none⟩ = false := hfr55 1
            clear hcl55 hcc55 hfr55 hM55
            (try rw [show ((1 : Int)).toNat = 1 from rfl] at hx55_0)
            (try simp only [Nat.reduceMul, Nat.zero_mul, Nat.zero_add, Nat.reduceAdd] at hx55_0)
            (try rw [show ((1 : Int)).toNat = 1 from rfl] at hf55_0)
            (try simp only [Nat.reduceMul, Nat.zero_mul, Nat.zero_add, Nat.reduceAdd] at hf55_0)
            (try rw [show ((1 : Int)).toNat = 1 from rfl] at hx55_1)
            (try simp only [Nat.reduceMul, Nat.zero_mul, Nat.zero_add, Nat.reduceAdd] at hx55_1)
            (try rw [show ((1 : Int)).toNat = 1 from rfl] at hf55_1)
            (try simp only [Nat.reduceMul, Nat.zero_mul, Nat.zero_add, Nat.reduceAdd] at hf55_1)
            replace p55 := eq_true p55
            replace q55 := eq_true q55
            have HX58 := Aside0.mk (show Kd.R k49 49 w21 w.heap.size (fun k_ => some k_ ≠ (.slice Ao11 y199.length co11 : Value).ownBlock) (.slice (some ⟨go55, 0, none⟩) t206.length co20) t206 from (upR HO208.out))
            obtain ⟨ce58, hcl58, hM58, hcc58, hfr58⟩ := Kd.R_elem HX58.out z49 (1 : Int) (by omega) (by have h_ : (1 : Int) < ((t206.length : Int) : Int) := of_decide_eq_true (by first | (with_reducible assumption) | assumption); first | exact h_ | (have e_ := (Kd.R_reads' HO208.out).1; omega) | simpa using h_)
            obtain rfl := k49_openM hM58
            have HP58 := Kd.R_seg HX58.out (1 : Int) (by omega) (by have h_ : (1 : Int) < ((t206.length : Int) : Int) := of_decide_eq_true (by first | (with_reducible assumption) | assumption); first | exact h_ | (have e_ := (Kd.R_reads' HO208.out).1; omega) | simpa using h_) (seg := [.int .i64 (wrap64 (4 + (wrap64 (1 + (Go.bits .and .i64 a1 1023)))))]) (j := 0) hcl58 hcc58 (show 1 ≤ 2 from by decide) (x' := (⟨wrap64 (4 + (wrap64 (1 + (Go.bits .and .i64 a1 1023)))), (rd_T49 t206 1).f1⟩ : S49)) (k49_mkM _ _ _ (⟨wrap64 (4 + (wrap64 (1 + (Go.bits .and .i64 a1 1023)))), (rd_T49 t206 1).f1⟩ : S49) ) (fun _ hk => hk)
            have hx58_0 := hcc58 0 _ rfl
            (try simp only [show (k49).sz = 2 from rfl, Nat.mul_one, Nat.add_zero] at hx58_0)
            (try rw [show ((1 : Int)).toNat = 1 from rfl] at hx58_0)
            (try simp only [Nat.reduceMul, Nat.zero_mul, Nat.zero_add, Nat.reduceAdd] at hx58_0)
            have hf58_0 := hfr58 0
            (try simp only [show (k49).sz = 2 from rfl, Nat.mul_one, Nat.add_zero] at hf58_0)
            (try rw [show ((1 : Int)).toNat = 1 from rfl] at hf58_0)
            (try simp only [Nat.reduceMul, Nat.zero_mul, Nat.zero_add, Nat.reduceAdd] at hf58_0)
            clear hcl58 hcc58 hfr58 hM58
            go_wp2_with (first | ((with_reducible refine gate_store (t := 3) (p := 88) rfl ?_); refine store_event (t := 3) (p := 88) (v := ?vo_w59) (w1 := (w21.setCell ⟨go55, 2, none⟩ (.int .i64 (wrap64 (4 + (wrap64 (1 + (Go.bits .and .i64 a1 1023)))))))) ?hg ?ho ?hn ?hr ?_; (case ho => rfl); (case hg => rfl); (case hn => rfl); (case hr => first | (go_simp; done) | (go_simp; rfl)); intro w59 hw; have hg : w21.grownBy w59 (some go55) := (by rw [hw]; exact HP58.2); have hp_ : Kd.R k49 49 w59 w.heap.size (fun k_ => some k_ ≠ (.slice Ao11 y199.length co11 : Value).ownBlock) (.slice (some ⟨go55, 0, none⟩) t206.length co20) y211 := (by rw [hw, Ny211.out]; exact HP58.1); clear HP58; have n0_ := Aside0.mk (Kd.R_after (v := (.slice (some ⟨go55, 0, none⟩) t206.length co20)) (v1 := (.slice (some ⟨go55, 0, none⟩) t206.length co20)) (ok := (fun _ => True)) (by (with_reducible repeat (first | apply Kd.R_alloc | apply Kd.R_drewN | apply Kd.R_drew)); exact Kd.R_mono HO201.out (fun _ hk => ⟨trivial, hk⟩)) hg (.inl rfl)); have n1_ := Aside0.mk (blk_grown (g := gb202) (o := .cells #[.int .i64 2, .int .i64 5, .int .i64 3, .slice Ao11 y199.length co11] 24 (0, 0)) (upB BK202.out) hg (Kd.R_ne HO208.out BK202.out (by decide))); have n2_ := Aside0.mk (hp_); have n3_ := Aside0.mk (blk_grown (g := gb209) (o := .cells #[.int .i64 t203, .int .i64 t204, .int .i64 t205, .slice (some ⟨go55, 0, none⟩) t206.length co20] 24 (0, 0)) (upB BK209.out) hg (Kd.R_ne HO208.out BK209.out (by decide))); have n4_ := Aside0.mk ((by rw [hw]; exact below_set (HB.out) GB55.out : Below w.heap.size w w59)); clear HO201; clear BK202; clear HO208; clear BK209; clear HB; have HO201 := n0_; have BK202 := n1_; have HO208 := n2_; have BK209 := n3_; have HB := n4_; clear n0_ n1_ n2_ n3_ n4_; clear hg hw hp_))
            go_meet
            case rel => exact ⟨_, (y199), (t203), (t204), (t205), (y211), (.slice Ao11 y199.length co11), (.slice (some ⟨go55, 0, none⟩) t206.length co20), H', ⟨by first | omega | exact Nat.le_refl _⟩, ⟨by (with_reducible repeat (first | apply Kd.R_alloc | apply Kd.R_drewN | apply Kd.R_drew)); exact Kd.R_mono HO201.out (fun _ hk => hk.2)⟩, ⟨upR HO208.out⟩, ⟨upB BK202.out⟩, ⟨upB BK209.out⟩, ⟨by repeat (first | (with_reducible first | exact HB.out | apply below_alloc | apply pw_below_drewN | apply below_drew1 | refine below_set ?_ GE202.out | refine below_set ?_ GE209.out) | exact HB.out)⟩⟩
           ·rw [if_neg c54] at H
            exact absurd H (by simp)
          ·rw [if_neg c53] at H
           have c53b0 : ((Int.tmod (IntKind.u64.wrap (a0)) 13) == 7) = false := beq_eq_false_iff_ne.mpr c53
           have c53b1 : ((Int.tmod (IntKind.u64.wrap (a0)) 13) != 7) = true := bne_iff_ne.mpr c53
           by_cases c60 : (Int.tmod (IntKind.u64.wrap (a0)) 13) = 8
           ·rw [if_pos c60] at H
            have c60b0 : ((Int.tmod (IntKind.u64.wrap (a0)) 13) == 8) = true := beq_iff_eq.mpr c60
            have c60b1 : ((Int.tmod (IntKind.u64.wrap (a0)) 13) != 8) = false := bne_eq_false_iff_eq.mpr c60
            clear c60
            by_cases c61 : 0 < (t206.length : Int)
            ·rw [if_pos c61] at H
             have c61b0 : decide (0 < (t206.length : Int)) = true := decide_eq_true c61
             have c61b1 : decide (0 < t206.length) = true := decide_eq_true (by omega)
             clear c61
             obtain ⟨y212, hy212⟩ : ∃ y_ : List (S49), y_ = (t206.set (0 : Int).toNat (⟨2, (rd_T49 t206 0).f1⟩ : S49)) := ⟨_, rfl⟩
             replace H : (watchwordlaw7_LsaForms.j0 k a2 (wrap64 (1 + (Go.bits .and .i64 a1 1023))) 2 5 3 y199 t203 t204 t205 y212) = some r := by first | (rw [hy212]; with_reducible exact H) | (have H2_ := (Option.bind_some _ _).symm.trans H; rw [hy212]; with_reducible exact H2_) | (have H2_ := (Option.bind_some _ _).symm.trans H; with_reducible exact H2_) | with_reducible exact H | (rw [hy212]; exact H) | exact H
             have Ny212 := Aside0.mk hy212
             clear hy212
             have H' := Aside0.mk H
             clear H
             have hnb63 := NB209_202.out
             have hnc63 := NB202_209.out
             have hcz64_0 : w21.cell? ⟨gb209, 0, none⟩ = some (.int .i64 t203) := (blk_cell BK209.out 0).trans rfl
             have hcz64_1 : w21.cell? ⟨gb209, 1, none⟩ = some (.int .i64 t204) := (blk_cell BK209.out 1).trans rfl
             have hcz64_2 : w21.cell? ⟨gb209, 2, none⟩ = some (.int .i64 t205) := (blk_cell BK209.out 2).trans rfl
             have hcz64_3 : w21.cell? ⟨gb209, 3, none⟩ = some (.slice Ao20 t206.length co20) := (blk_cell BK209.out 3).trans rfl
             have hfz64_0 := blk_frozen BK209.out 0
             have hfz64_1 := blk_frozen BK209.out 1
             have hfz64_2 := blk_frozen BK209.out 2
             have hfz64_3 := blk_frozen BK209.out 3
             have p62 : 0 ≤ (0 : Int) := (by omega)
             have q62 : (0 : Int) < ((t206.length : Int) : Int) := of_decide_eq_true (by first | (with_reducible assumption) | assumption)
             have qi62 : (0 < t206.length) = True := eq_true (by omega)
             obtain ⟨go62, co62, eo62, gb62, gl62, cl62, HG62⟩ := Kd.R_form HO208.out (by omega)
             (first | cases eo62 | (injection eo62 with ea_ en_ ec_; (first | subst ea_ | (injection ea_ with ea_; subst ea_)); subst ec_; clear en_))
             have GB62 := Aside0.mk gb62
             have GG62 := Aside0.mk HG62
             clear gb62 gl62 HG62
             obtain ⟨ce62, hcl62, hM62, hcc62, hfr62⟩ := Kd.R_elem HO208.out z49 (0 : Int) p62 q62
             obtain rfl := k49_openM hM62
             have hx62_0 : w21.cell? ⟨go62, (0 : Int).toNat * 2, none⟩ = some (.int .i64 ((rd_T49 t206 0).f0)) := hcc62 0 _ rfl
             have hx62_1 : w21.cell? ⟨go62, (0 : Int).toNat * 2 + 1, none⟩ = some (.int .i64 ((rd_T49 t206 0).f1)) := hcc62 1 _ rfl
             have hf62_0 : w21.frozen? ⟨go62, (0 : Int).toNat * 2, none⟩ = false := hfr62 0
             have hf62_1 : w21.frozen? ⟨go62, (0 : Int).toNat * 2 + 1, none⟩ = false := hfr62 1
             clear hcl62 hcc62 hfr62 hM62
             (try rw [show ((0 : Int)).toNat = 0 from rfl] at hx62_0)
             (try simp only [Nat.reduceMul, Nat.zero_mul, Nat.zero_add, Nat.reduceAdd] at hx62_0)
             (try rw [show ((0 : Int)).toNat = 0 from rfl] at hf62_0)
             (try simp only [Nat.reduceMul, Nat.zero_mul, Nat.zero_add, Nat.reduceAdd] at hf62_0)
             (try rw [show ((0 : Int)).toNat = 0 from rfl] at hx62_1)
             (try simp only [Nat.reduceMul, Nat.zero_mul, Nat.zero_add, Nat.reduceAdd] at hx62_1)
             (try rw [show ((0 : Int)).toNat = 0 from rfl] at hf62_1)
             (try simp only [Nat.reduceMul, Nat.zero_mul, Nat.zero_add, Nat.reduceAdd] at hf62_1)
             replace p62 := eq_true p62
             replace q62 := eq_true q62
             have HX65 := Aside0.mk (show Kd.R k49 49 w21 w.heap.size (fun k_ => some k_ ≠ (.slice Ao11 y199.length co11 : Value).ownBlock) (.slice (some ⟨go62, 0, none⟩) t206.length co20) t206 from (upR HO208.out))
             obtain ⟨ce65, hcl65, hM65, hcc65, hfr65⟩ := Kd.R_elem HX65.out z49 (0 : Int) (by omega) (by have h_ : (0 : Int) < ((t206.length : Int) : Int) := of_decide_eq_true (by first | (with_reducible assumption) | assumption); first | exact h_ | (have e_ := (Kd.R_reads' HO208.out).1; omega) | simpa using h_)
             obtain rfl := k49_openM hM65
             have HP65 := Kd.R_seg HX65.out (0 : Int) (by omega) (by have h_ : (0 : Int) < ((t206.length : Int) : Int) := of_decide_eq_true (by first | (with_reducible assumption) | assumption); first | exact h_ | (have e_ := (Kd.R_reads' HO208.out).1; omega) | simpa using h_) (seg := [.int .i64 2]) (j := 0) hcl65 hcc65 (show 1 ≤ 2 from by decide) (x' := (⟨2, (rd_T49 t206 0).f1⟩ : S49)) (k49_mkM _ _ _ (⟨2, (rd_T49 t206 0).f1⟩ : S49) ) (fun _ hk => hk)
             have hx65_0 := hcc65 0 _ rfl
             (try simp only [show (k49).sz = 2 from rfl, Nat.mul_one, Nat.add_zero] at hx65_0)
             (try rw [show ((0 : Int)).toNat = 0 from rfl] at hx65_0)
             (try simp only [Nat.reduceMul, Nat.zero_mul, Nat.zero_add, Nat.reduceAdd] at hx65_0)
             have hf65_0 := hfr65 0
             (try simp only [show (k49).sz = 2 from rfl, Nat.mul_one, Nat.add_zero] at hf65_0)
             (try rw [show ((0 : Int)).toNat = 0 from rfl] at hf65_0)
             (try simp only [Nat.reduceMul, Nat.zero_mul, Nat.zero_add, Nat.reduceAdd] at hf65_0)
             clear hcl65 hcc65 hfr65 hM65
             go_wp2_with (first | ((with_reducible refine gate_store (t := 3) (p := 94) rfl ?_); refine store_event (t := 3) (p := 94) (v := ?vo_w66) (w1 := (w21.setCell ⟨go62, 0, none⟩ (.int .i64 2))) ?hg ?ho ?hn ?hr ?_; (case ho => rfl); (case hg => rfl); (case hn => rfl); (case hr => first | (go_simp; done) | (go_simp; rfl)); intro w66 hw; have hg : w21.grownBy w66 (some go62) := (by rw [hw]; exact HP65.2); have hp_ : Kd.R k49 49 w66 w.heap.size (fun k_ => some k_ ≠ (.slice Ao11 y199.length co11 : Value).ownBlock) (.slice (some ⟨go62, 0, none⟩) t206.length co20) y212 := (by rw [hw, Ny212.out]; exact HP65.1); clear HP65; have n0_ := Aside0.mk (Kd.R_after (v := (.slice (some ⟨go62, 0, none⟩) t206.length co20)) (v1 := (.slice (some ⟨go62, 0, none⟩) t206.length co20)) (ok := (fun _ => True)) (by (with_reducible repeat (first | apply Kd.R_alloc | apply Kd.R_drewN | apply Kd.R_drew)); exact Kd.R_mono HO201.out (fun _ hk => ⟨trivial, hk⟩)) hg (.inl rfl)); have n1_ := Aside0.mk (blk_grown (g := gb202) (o := .cells #[.int .i64 2, .int .i64 5, .int .i64 3, .slice Ao11 y199.length co11] 24 (0, 0)) (upB BK202.out) hg (Kd.R_ne HO208.out BK202.out (by decide))); have n2_ := Aside0.mk (hp_); have n3_ := Aside0.mk (blk_grown (g := gb209) (o := .cells #[.int .i64 t203, .int .i64 t204, .int .i64 t205, .slice (some ⟨go62, 0, none⟩) t206.length co20] 24 (0, 0)) (upB BK209.out) hg (Kd.R_ne HO208.out BK209.out (by decide))); have n4_ := Aside0.mk ((by rw [hw]; exact below_set (HB.out) GB62.out : Below w.heap.size w w66)); clear HO201; clear BK202; clear HO208; clear BK209; clear HB; have HO201 := n0_; have BK202 := n1_; have HO208 := n2_; have BK209 := n3_; have HB := n4_; clear n0_ n1_ n2_ n3_ n4_; clear hg hw hp_))
             go_meet
             case rel => exact ⟨_, (y199), (t203), (t204), (t205), (y212), (.slice Ao11 y199.length co11), (.slice (some ⟨go62, 0, none⟩) t206.length co20), H', ⟨by first | omega | exact Nat.le_refl _⟩, ⟨by (with_reducible repeat (first | apply Kd.R_alloc | apply Kd.R_drewN | apply Kd.R_drew)); exact Kd.R_mono HO201.out (fun _ hk => hk.2)⟩, ⟨upR HO208.out⟩, ⟨upB BK202.out⟩, ⟨upB BK209.out⟩, ⟨by repeat (first | (with_reducible first | exact HB.out | apply below_alloc | apply pw_below_drewN | apply below_drew1 | refine below_set ?_ GE202.out | refine below_set ?_ GE209.out) | exact HB.out)⟩⟩
            ·rw [if_neg c61] at H
             exact absurd H (by simp)
           ·rw [if_neg c60] at H
            have c60b0 : ((Int.tmod (IntKind.u64.wrap (a0)) 13) == 8) = false := beq_eq_false_iff_ne.mpr c60
            have c60b1 : ((Int.tmod (IntKind.u64.wrap (a0)) 13) != 8) = true := bne_iff_ne.mpr c60
            by_cases c67 : (Int.tmod (IntKind.u64.wrap (a0)) 13) = 9
            ·rw [if_pos c67] at H
             have c67b0 : ((Int.tmod (IntKind.u64.wrap (a0)) 13) == 9) = true := beq_iff_eq.mpr c67
             have c67b1 : ((Int.tmod (IntKind.u64.wrap (a0)) 13) != 9) = false := bne_eq_false_iff_eq.mpr c67
             clear c67
             by_cases c68 : 1 < (t206.length : Int)
             ·rw [if_pos c68] at H
              have c68b0 : decide (1 < (t206.length : Int)) = true := decide_eq_true c68
              have c68b1 : decide (1 < t206.length) = true := decide_eq_true (by omega)
              clear c68
              obtain ⟨y213, hy213⟩ : ∃ y_ : List (S49), y_ = (t206.set (1 : Int).toNat (⟨1, (rd_T49 t206 1).f1⟩ : S49)) := ⟨_, rfl⟩
              replace H : (watchwordlaw7_LsaForms.j0 k a2 (wrap64 (1 + (Go.bits .and .i64 a1 1023))) 2 5 3 y199 t203 t204 t205 y213) = some r := by first | (rw [hy213]; with_reducible exact H) | (have H2_ := (Option.bind_some _ _).symm.trans H; rw [hy213]; with_reducible exact H2_) | (have H2_ := (Option.bind_some _ _).symm.trans H; with_reducible exact H2_) | with_reducible exact H | (rw [hy213]; exact H) | exact H
              have Ny213 := Aside0.mk hy213
              clear hy213
              have H' := Aside0.mk H
              clear H
              have hnb70 := NB209_202.out
              have hnc70 := NB202_209.out
              have hcz71_0 : w21.cell? ⟨gb209, 0, none⟩ = some (.int .i64 t203) := (blk_cell BK209.out 0).trans rfl
              have hcz71_1 : w21.cell? ⟨gb209, 1, none⟩ = some (.int .i64 t204) := (blk_cell BK209.out 1).trans rfl
              have hcz71_2 : w21.cell? ⟨gb209, 2, none⟩ = some (.int .i64 t205) := (blk_cell BK209.out 2).trans rfl
              have hcz71_3 : w21.cell? ⟨gb209, 3, none⟩ = some (.slice Ao20 t206.length co20) := (blk_cell BK209.out 3).trans rfl
              have hfz71_0 := blk_frozen BK209.out 0
              have hfz71_1 := blk_frozen BK209.out 1
              have hfz71_2 := blk_frozen BK209.out 2
              have hfz71_3 := blk_frozen BK209.out 3
              have p69 : 0 ≤ (1 : Int) := (by omega)
              have q69 : (1 : Int) < ((t206.length : Int) : Int) := of_decide_eq_true (by first | (with_reducible assumption) | assumption)
              have qi69 : (1 < t206.length) = True := eq_true (by omega)
              obtain ⟨go69, co69, eo69, gb69, gl69, cl69, HG69⟩ := Kd.R_form HO208.out (by omega)
              (first | cases eo69 | (injection eo69 with ea_ en_ ec_; (first | subst ea_ | (injection ea_ with ea_; subst ea_)); subst ec_; clear en_))
              have GB69 := Aside0.mk gb69
              have GG69 := Aside0.mk HG69
              clear gb69 gl69 HG69
              obtain ⟨ce69, hcl69, hM69, hcc69, hfr69⟩ := Kd.R_elem HO208.out z49 (1 : Int) p69 q69
              obtain rfl := k49_openM hM69
              have hx69_0 : w21.cell? ⟨go69, (1 : Int).toNat * 2, none⟩ = some (.int .i64 ((rd_T49 t206 1).f0)) := hcc69 0 _ rfl
              have hx69_1 : w21.cell? ⟨go69, (1 : Int).toNat * 2 + 1, none⟩ = some (.int .i64 ((rd_T49 t206 1).f1)) := hcc69 1 _ rfl
              have hf69_0 : w21.frozen? ⟨go69, (1 : Int).toNat * 2, none⟩ = false := hfr69 0
              have hf69_1 : w21.frozen? ⟨go69, (1 : Int).toNat * 2 + 1, none⟩ = false := hfr69 1
              clear hcl69 hcc69 hfr69 hM69
              (try rw [show ((1 : Int)).toNat = 1 from rfl] at hx69_0)
              (try simp only [Nat.reduceMul, Nat.zero_mul, Nat.zero_add, Nat.reduceAdd] at hx69_0)
              (try rw [show ((1 : Int)).toNat = 1 from rfl] at hf69_0)
              (try simp only [Nat.reduceMul, Nat.zero_mul, Nat.zero_add, Nat.reduceAdd] at hf69_0)
              (try rw [show ((1 : Int)).toNat = 1 from rfl] at hx69_1)
              (try simp only [Nat.reduceMul, Nat.zero_mul, Nat.zero_add, Nat.reduceAdd] at hx69_1)
              (try rw [show ((1 : Int)).toNat = 1 from rfl] at hf69_1)
              (try simp only [Nat.reduceMul, Nat.zero_mul, Nat.zero_add, Nat.reduceAdd] at hf69_1)
              replace p69 := eq_true p69
              replace q69 := eq_true q69
              have HX72 := Aside0.mk (show Kd.R k49 49 w21 w.heap.size (fun k_ => some k_ ≠ (.slice Ao11 y199.length co11 : Value).ownBlock) (.slice (some ⟨go69, 0, none⟩) t206.length co20) t206 from (upR HO208.out))
              obtain ⟨ce72, hcl72, hM72, hcc72, hfr72⟩ := Kd.R_elem HX72.out z49 (1 : Int) (by omega) (by have h_ : (1 : Int) < ((t206.length : Int) : Int) := of_decide_eq_true (by first | (with_reducible assumption) | assumption); first | exact h_ | (have e_ := (Kd.R_reads' HO208.out).1; omega) | simpa using h_)
              obtain rfl := k49_openM hM72
              have HP72 := Kd.R_seg HX72.out (1 : Int) (by omega) (by have h_ : (1 : Int) < ((t206.length : Int) : Int) := of_decide_eq_true (by first | (with_reducible assumption) | assumption); first | exact h_ | (have e_ := (Kd.R_reads' HO208.out).1; omega) | simpa using h_) (seg := [.int .i64 1]) (j := 0) hcl72 hcc72 (show 1 ≤ 2 from by decide) (x' := (⟨1, (rd_T49 t206 1).f1⟩ : S49)) (k49_mkM _ _ _ (⟨1, (rd_T49 t206 1).f1⟩ : S49) ) (fun _ hk => hk)
              have hx72_0 := hcc72 0 _ rfl
              (try simp only [show (k49).sz = 2 from rfl, Nat.mul_one, Nat.add_zero] at hx72_0)
              (try rw [show ((1 : Int)).toNat = 1 from rfl] at hx72_0)
              (try simp only [Nat.reduceMul, Nat.zero_mul, Nat.zero_add, Nat.reduceAdd] at hx72_0)
              have hf72_0 := hfr72 0
              (try simp only [show (k49).sz = 2 from rfl, Nat.mul_one, Nat.add_zero] at hf72_0)
              (try rw [show ((1 : Int)).toNat = 1 from rfl] at hf72_0)
              (try simp only [Nat.reduceMul, Nat.zero_mul, Nat.zero_add, Nat.reduceAdd] at hf72_0)
              clear hcl72 hcc72 hfr72 hM72
              go_wp2_with (first | ((with_reducible refine gate_store (t := 3) (p := 100) rfl ?_); refine store_event (t := 3) (p := 100) (v := ?vo_w73) (w1 := (w21.setCell ⟨go69, 2, none⟩ (.int .i64 1))) ?hg ?ho ?hn ?hr ?_; (case ho => rfl); (case hg => rfl); (case hn => rfl); (case hr => first | (go_simp; done) | (go_simp; rfl)); intro w73 hw; have hg : w21.grownBy w73 (some go69) := (by rw [hw]; exact HP72.2); have hp_ : Kd.R k49 49 w73 w.heap.size (fun k_ => some k_ ≠ (.slice Ao11 y199.length co11 : Value).ownBlock) (.slice (some ⟨go69, 0, none⟩) t206.length co20) y213 := (by rw [hw, Ny213.out]; exact HP72.1); clear HP72; have n0_ := Aside0.mk (Kd.R_after (v := (.slice (some ⟨go69, 0, none⟩) t206.length co20)) (v1 := (.slice (some ⟨go69, 0, none⟩) t206.length co20)) (ok := (fun _ => True)) (by (with_reducible repeat (first | apply Kd.R_alloc | apply Kd.R_drewN | apply Kd.R_drew)); exact Kd.R_mono HO201.out (fun _ hk => ⟨trivial, hk⟩)) hg (.inl rfl)); have n1_ := Aside0.mk (blk_grown (g := gb202) (o := .cells #[.int .i64 2, .int .i64 5, .int .i64 3, .slice Ao11 y199.length co11] 24 (0, 0)) (upB BK202.out) hg (Kd.R_ne HO208.out BK202.out (by decide))); have n2_ := Aside0.mk (hp_); have n3_ := Aside0.mk (blk_grown (g := gb209) (o := .cells #[.int .i64 t203, .int .i64 t204, .int .i64 t205, .slice (some ⟨go69, 0, none⟩) t206.length co20] 24 (0, 0)) (upB BK209.out) hg (Kd.R_ne HO208.out BK209.out (by decide))); have n4_ := Aside0.mk ((by rw [hw]; exact below_set (HB.out) GB69.out : Below w.heap.size w w73)); clear HO201; clear BK202; clear HO208; clear BK209; clear HB; have HO201 := n0_; have BK202 := n1_; have HO208 := n2_; have BK209 := n3_; have HB := n4_; clear n0_ n1_ n2_ n3_ n4_; clear hg hw hp_))
              go_meet
              case rel => exact ⟨_, (y199), (t203), (t204), (t205), (y213), (.slice Ao11 y199.length co11), (.slice (some ⟨go69, 0, none⟩) t206.length co20), H', ⟨by first | omega | exact Nat.le_refl _⟩, ⟨by (with_reducible repeat (first | apply Kd.R_alloc | apply Kd.R_drewN | apply Kd.R_drew)); exact Kd.R_mono HO201.out (fun _ hk => hk.2)⟩, ⟨upR HO208.out⟩, ⟨upB BK202.out⟩, ⟨upB BK209.out⟩, ⟨by repeat (first | (with_reducible first | exact HB.out | apply below_alloc | apply pw_below_drewN | apply below_drew1 | refine below_set ?_ GE202.out | refine below_set ?_ GE209.out) | exact HB.out)⟩⟩
             ·rw [if_neg c68] at H
              exact absurd H (by simp)
            ·rw [if_neg c67] at H
             have c67b0 : ((Int.tmod (IntKind.u64.wrap (a0)) 13) == 9) = false := beq_eq_false_iff_ne.mpr c67
             have c67b1 : ((Int.tmod (IntKind.u64.wrap (a0)) 13) != 9) = true := bne_iff_ne.mpr c67
             by_cases c74 : (Int.tmod (IntKind.u64.wrap (a0)) 13) = 10
             ·rw [if_pos c74] at H
              have c74b0 : ((Int.tmod (IntKind.u64.wrap (a0)) 13) == 10) = true := beq_iff_eq.mpr c74
              have c74b1 : ((Int.tmod (IntKind.u64.wrap (a0)) 13) != 10) = false := bne_eq_false_iff_eq.mpr c74
              clear c74
              by_cases c75 : 0 < (t206.length : Int)
              ·rw [if_pos c75] at H
               have c75b0 : decide (0 < (t206.length : Int)) = true := decide_eq_true c75
               have c75b1 : decide (0 < t206.length) = true := decide_eq_true (by omega)
               clear c75
               obtain ⟨y214, hy214⟩ : ∃ y_ : List (S49), y_ = (t206.set (0 : Int).toNat (⟨(rd_T49 t206 0).f0, wrap64 (1 - (wrap64 (1 + (Go.bits .and .i64 a1 1023))))⟩ : S49)) := ⟨_, rfl⟩
               replace H : (watchwordlaw7_LsaForms.j0 k a2 (wrap64 (1 + (Go.bits .and .i64 a1 1023))) 2 5 3 y199 t203 t204 t205 y214) = some r := by first | (rw [hy214]; with_reducible exact H) | (have H2_ := (Option.bind_some _ _).symm.trans H; rw [hy214]; with_reducible exact H2_) | (have H2_ := (Option.bind_some _ _).symm.trans H; with_reducible exact H2_) | with_reducible exact H | (rw [hy214]; exact H) | exact H
               have Ny214 := Aside0.mk hy214
               clear hy214
               have H' := Aside0.mk H
               clear H
               have hnb77 := NB209_202.out
               have hnc77 := NB202_209.out
               have hcz78_0 : w21.cell? ⟨gb209, 0, none⟩ = some (.int .i64 t203) := (blk_cell BK209.out 0).trans rfl
               have hcz78_1 : w21.cell? ⟨gb209, 1, none⟩ = some (.int .i64 t204) := (blk_cell BK209.out 1).trans rfl
               have hcz78_2 : w21.cell? ⟨gb209, 2, none⟩ = some (.int .i64 t205) := (blk_cell BK209.out 2).trans rfl
               have hcz78_3 : w21.cell? ⟨gb209, 3, none⟩ = some (.slice Ao20 t206.length co20) := (blk_cell BK209.out 3).trans rfl
               have hfz78_0 := blk_frozen BK209.out 0
               have hfz78_1 := blk_frozen BK209.out 1
               have hfz78_2 := blk_frozen BK209.out 2
               have hfz78_3 := blk_frozen BK209.out 3
               have p76 : 0 ≤ (0 : Int) := (by omega)
               have q76 : (0 : Int) < ((t206.length : Int) : Int) := of_decide_eq_true (by first | (with_reducible assumption) | assumption)
               have qi76 : (0 < t206.length) = True := eq_true (by omega)
               obtain ⟨go76, co76, eo76, gb76, gl76, cl76, HG76⟩ := Kd.R_form HO208.out (by omega)
               (first | cases eo76 | (injection eo76 with ea_ en_ ec_; (first | subst ea_ | (injection ea_ with ea_; subst ea_)); subst ec_; clear en_))
               have GB76 := Aside0.mk gb76
               have GG76 := Aside0.mk HG76
               clear gb76 gl76 HG76
               obtain ⟨ce76, hcl76, hM76, hcc76, hfr76⟩ := Kd.R_elem HO208.out z49 (0 : Int) p76 q76
               obtain rfl := k49_openM hM76
               have hx76_0 : w21.cell? ⟨go76, (0 : Int).toNat * 2, none⟩ = some (.int .i64 ((rd_T49 t206 0).f0)) := hcc76 0 _ rfl
               have hx76_1 : w21.cell? ⟨go76, (0 : Int).toNat * 2 + 1, none⟩ = some (.int .i64 ((rd_T49 t206 0).f1)) := hcc76 1 _ rfl
               have hf76_0 : w21.frozen? ⟨go76, (0 : Int).toNat * 2, none⟩ = false := hfr76 0
               have hf76_1 : w21.frozen? ⟨go76, (0 : Int).toNat * 2 + 1, none⟩ = false := hfr76 1
               clear hcl76 hcc76 hfr76 hM76
               (try rw [show ((0 : Int)).toNat = 0 from rfl] at hx76_0)
               (try simp only [Nat.reduceMul, Nat.zero_mul, Nat.zero_add, Nat.reduceAdd] at hx76_0)
               (try rw [show ((0 : Int)).toNat = 0 from rfl] at hf76_0)
               (try simp only [Nat.reduceMul, Nat.zero_mul, Nat.zero_add, Nat.reduceAdd] at hf76_0)
               (try rw [show ((0 : Int)).toNat = 0 from rfl] at hx76_1)
               (try simp only [Nat.reduceMul, Nat.zero_mul, Nat.zero_add, Nat.reduceAdd] at hx76_1)
               (try rw [show ((0 : Int)).toNat = 0 from rfl] at hf76_1)
               (try simp only [Nat.reduceMul, Nat.zero_mul, Nat.zero_add, Nat.reduceAdd] at hf76_1)
               replace p76 := eq_true p76
               replace q76 := eq_true q76
               have HX79 := Aside0.mk (show Kd.R k49 49 w21 w.heap.size (fun k_ => some k_ ≠ (.slice Ao11 y199.length co11 : Value).ownBlock) (.slice (some ⟨go76, 0, none⟩) t206.length co20) t206 from (upR HO208.out))
               obtain ⟨ce79, hcl79, hM79, hcc79, hfr79⟩ := Kd.R_elem HX79.out z49 (0 : Int) (by omega) (by have h_ : (0 : Int) < ((t206.length : Int) : Int) := of_decide_eq_true (by first | (with_reducible assumption) | assumption); first | exact h_ | (have e_ := (Kd.R_reads' HO208.out).1; omega) | simpa using h_)
               obtain rfl := k49_openM hM79
               have HP79 := Kd.R_seg HX79.out (0 : Int) (by omega) (by have h_ : (0 : Int) < ((t206.length : Int) : Int) := of_decide_eq_true (by first | (with_reducible assumption) | assumption); first | exact h_ | (have e_ := (Kd.R_reads' HO208.out).1; omega) | simpa using h_) (seg := [.int .i64 (wrap64 (1 - (wrap64 (1 + (Go.bits .and .i64 a1 1023)))))]) (j := 1) hcl79 hcc79 (show 2 ≤ 2 from by decide) (x' := (⟨(rd_T49 t206 0).f0, wrap64 (1 - (wrap64 (1 + (Go.bits .and .i64 a1 1023))))⟩ : S49)) (k49_mkM _ _ _ (⟨(rd_T49 t206 0).f0, wrap64 (1 - (wrap64 (1 + (Go.bits .and .i64 a1 1023))))⟩ : S49) ) (fun _ hk => hk)
               have hx79_1 := hcc79 1 _ rfl
               (try simp only [show (k49).sz = 2 from rfl, Nat.mul_one, Nat.add_zero] at hx79_1)
               (try rw [show ((0 : Int)).toNat = 0 from rfl] at hx79_1)
               (try simp only [Nat.reduceMul, Nat.zero_mul, Nat.zero_add, Nat.reduceAdd] at hx79_1)
               have hf79_1 := hfr79 1
               (try simp only [show (k49).sz = 2 from rfl, Nat.mul_one, Nat.add_zero] at hf79_1)
               (try rw [show ((0 : Int)).toNat = 0 from rfl] at hf79_1)
               (try simp only [Nat.reduceMul, Nat.zero_mul, Nat.zero_add, Nat.reduceAdd] at hf79_1)
               clear hcl79 hcc79 hfr79 hM79
               go_wp2_with (first | ((with_reducible refine gate_store (t := 3) (p := 108) rfl ?_); refine store_event (t := 3) (p := 108) (v := ?vo_w80) (w1 := (w21.setCell ⟨go76, 1, none⟩ (.int .i64 (wrap64 (1 - (wrap64 (1 + (Go.bits .and .i64 a1 1023)))))))) ?hg ?ho ?hn ?hr ?_; (case ho => rfl); (case hg => rfl); (case hn => rfl); (case hr => first | (go_simp; done) | (go_simp; rfl)); intro w80 hw; have hg : w21.grownBy w80 (some go76) := (by rw [hw]; exact HP79.2); have hp_ : Kd.R k49 49 w80 w.heap.size (fun k_ => some k_ ≠ (.slice Ao11 y199.length co11 : Value).ownBlock) (.slice (some ⟨go76, 0, none⟩) t206.length co20) y214 := (by rw [hw, Ny214.out]; exact HP79.1); clear HP79; have n0_ := Aside0.mk (Kd.R_after (v := (.slice (some ⟨go76, 0, none⟩) t206.length co20)) (v1 := (.slice (some ⟨go76, 0, none⟩) t206.length co20)) (ok := (fun _ => True)) (by (with_reducible repeat (first | apply Kd.R_alloc | apply Kd.R_drewN | apply Kd.R_drew)); exact Kd.R_mono HO201.out (fun _ hk => ⟨trivial, hk⟩)) hg (.inl rfl)); have n1_ := Aside0.mk (blk_grown (g := gb202) (o := .cells #[.int .i64 2, .int .i64 5, .int .i64 3, .slice Ao11 y199.length co11] 24 (0, 0)) (upB BK202.out) hg (Kd.R_ne HO208.out BK202.out (by decide))); have n2_ := Aside0.mk (hp_); have n3_ := Aside0.mk (blk_grown (g := gb209) (o := .cells #[.int .i64 t203, .int .i64 t204, .int .i64 t205, .slice (some ⟨go76, 0, none⟩) t206.length co20] 24 (0, 0)) (upB BK209.out) hg (Kd.R_ne HO208.out BK209.out (by decide))); have n4_ := Aside0.mk ((by rw [hw]; exact below_set (HB.out) GB76.out : Below w.heap.size w w80)); clear HO201; clear BK202; clear HO208; clear BK209; clear HB; have HO201 := n0_; have BK202 := n1_; have HO208 := n2_; have BK209 := n3_; have HB := n4_; clear n0_ n1_ n2_ n3_ n4_; clear hg hw hp_))
               go_meet
               case rel => exact ⟨_, (y199), (t203), (t204), (t205), (y214), (.slice Ao11 y199.length co11), (.slice (some ⟨go76, 0, none⟩) t206.length co20), H', ⟨by first | omega | exact Nat.le_refl _⟩, ⟨by (with_reducible repeat (first | apply Kd.R_alloc | apply Kd.R_drewN | apply Kd.R_drew)); exact Kd.R_mono HO201.out (fun _ hk => hk.2)⟩, ⟨upR HO208.out⟩, ⟨upB BK202.out⟩, ⟨upB BK209.out⟩, ⟨by repeat (first | (with_reducible first | exact HB.out | apply below_alloc | apply pw_below_drewN | apply below_drew1 | refine below_set ?_ GE202.out | refine below_set ?_ GE209.out) | exact HB.out)⟩⟩
              ·rw [if_neg c75] at H
               exact absurd H (by simp)
             ·rw [if_neg c74] at H
              have c74b0 : ((Int.tmod (IntKind.u64.wrap (a0)) 13) == 10) = false := beq_eq_false_iff_ne.mpr c74
              have c74b1 : ((Int.tmod (IntKind.u64.wrap (a0)) 13) != 10) = true := bne_iff_ne.mpr c74
              by_cases c81 : (Int.tmod (IntKind.u64.wrap (a0)) 13) = 11
              ·rw [if_pos c81] at H
               have c81b0 : ((Int.tmod (IntKind.u64.wrap (a0)) 13) == 11) = true := beq_iff_eq.mpr c81
               have c81b1 : ((Int.tmod (IntKind.u64.wrap (a0)) 13) != 11) = false := bne_eq_false_iff_eq.mpr c81
               clear c81
               by_cases c82 : 1 < (t206.length : Int)
               ·rw [if_pos c82] at H
                have c82b0 : decide (1 < (t206.length : Int)) = true := decide_eq_true c82
                have c82b1 : decide (1 < t206.length) = true := decide_eq_true (by omega)
                clear c82
                obtain ⟨y215, hy215⟩ : ∃ y_ : List (S49), y_ = (t206.set (1 : Int).toNat (⟨(rd_T49 t206 1).f0, wrap64 (65535 + (wrap64 (1 + (Go.bits .and .i64 a1 1023))))⟩ : S49)) := ⟨_, rfl⟩
                replace H : (watchwordlaw7_LsaForms.j0 k a2 (wrap64 (1 + (Go.bits .and .i64 a1 1023))) 2 5 3 y199 t203 t204 t205 y215) = some r := by first | (rw [hy215]; with_reducible exact H) | (have H2_ := (Option.bind_some _ _).symm.trans H; rw [hy215]; with_reducible exact H2_) | (have H2_ := (Option.bind_some _ _).symm.trans H; with_reducible exact H2_) | with_reducible exact H | (rw [hy215]; exact H) | exact H
                have Ny215 := Aside0.mk hy215
                clear hy215
                have H' := Aside0.mk H
                clear H
                have hnb84 := NB209_202.out
                have hnc84 := NB202_209.out
                have hcz85_0 : w21.cell? ⟨gb209, 0, none⟩ = some (.int .i64 t203) := (blk_cell BK209.out 0).trans rfl
                have hcz85_1 : w21.cell? ⟨gb209, 1, none⟩ = some (.int .i64 t204) := (blk_cell BK209.out 1).trans rfl
                have hcz85_2 : w21.cell? ⟨gb209, 2, none⟩ = some (.int .i64 t205) := (blk_cell BK209.out 2).trans rfl
                have hcz85_3 : w21.cell? ⟨gb209, 3, none⟩ = some (.slice Ao20 t206.length co20) := (blk_cell BK209.out 3).trans rfl
                have hfz85_0 := blk_frozen BK209.out 0
                have hfz85_1 := blk_frozen BK209.out 1
                have hfz85_2 := blk_frozen BK209.out 2
                have hfz85_3 := blk_frozen BK209.out 3
                have p83 : 0 ≤ (1 : Int) := (by omega)
                have q83 : (1 : Int) < ((t206.length : Int) : Int) := of_decide_eq_true (by first | (with_reducible assumption) | assumption)
                have qi83 : (1 < t206.length) = True := eq_true (by omega)
                obtain ⟨go83, co83, eo83, gb83, gl83, cl83, HG83⟩ := Kd.R_form HO208.out (by omega)
                (first | cases eo83 | (injection eo83 with ea_ en_ ec_; (first | subst ea_ | (injection ea_ with ea_; subst ea_)); subst ec_; clear en_))
                have GB83 := Aside0.mk gb83
                have GG83 := Aside0.mk HG83
                clear gb83 gl83 HG83
                obtain ⟨ce83, hcl83, hM83, hcc83, hfr83⟩ := Kd.R_elem HO208.out z49 (1 : Int) p83 q83
                obtain rfl := k49_openM hM83
                have hx83_0 : w21.cell? ⟨go83, (1 : Int).toNat * 2, none⟩ = some (.int .i64 ((rd_T49 t206 1).f0)) := hcc83 0 _ rfl
                have hx83_1 : w21.cell? ⟨go83, (1 : Int).toNat * 2 + 1, none⟩ = some (.int .i64 ((rd_T49 t206 1).f1)) := hcc83 1 _ rfl
                have hf83_0 : w21.frozen? ⟨go83, (1 : Int).toNat * 2, none⟩ = false := hfr83 0
                have hf83_1 : w21.frozen? ⟨go83, (1 : Int).toNat * 2 + 1, none⟩ = false := hfr83 1
                clear hcl83 hcc83 hfr83 hM83
                (try rw [show ((1 : Int)).toNat = 1 from rfl] at hx83_0)
                (try simp only [Nat.reduceMul, Nat.zero_mul, Nat.zero_add, Nat.reduceAdd] at hx83_0)
                (try rw [show ((1 : Int)).toNat = 1 from rfl] at hf83_0)
                (try simp only [Nat.reduceMul, Nat.zero_mul, Nat.zero_add, Nat.reduceAdd] at hf83_0)
                (try rw [show ((1 : Int)).toNat = 1 from rfl] at hx83_1)
                (try simp only [Nat.reduceMul, Nat.zero_mul, Nat.zero_add, Nat.reduceAdd] at hx83_1)
                (try rw [show ((1 : Int)).toNat = 1 from rfl] at hf83_1)
                (try simp only [Nat.reduceMul, Nat.zero_mul, Nat.zero_add, Nat.reduceAdd] at hf83_1)
                replace p83 := eq_true p83
                replace q83 := eq_true q83
                have HX86 := Aside0.mk (show Kd.R k49 49 w21 w.heap.size (fun k_ => some k_ ≠ (.slice Ao11 y199.length co11 : Value).ownBlock) (.slice (some ⟨go83, 0, none⟩) t206.length co20) t206 from (upR HO208.out))
                obtain ⟨ce86, hcl86, hM86, hcc86, hfr86⟩ := Kd.R_elem HX86.out z49 (1 : Int) (by omega) (by have h_ : (1 : Int) < ((t206.length : Int) : Int) := of_decide_eq_true (by first | (with_reducible assumption) | assumption); first | exact h_ | (have e_ := (Kd.R_reads' HO208.out).1; omega) | simpa using h_)
                obtain rfl := k49_openM hM86
                have HP86 := Kd.R_seg HX86.out (1 : Int) (by omega) (by have h_ : (1 : Int) < ((t206.length : Int) : Int) := of_decide_eq_true (by first | (with_reducible assumption) | assumption); first | exact h_ | (have e_ := (Kd.R_reads' HO208.out).1; omega) | simpa using h_) (seg := [.int .i64 (wrap64 (65535 + (wrap64 (1 + (Go.bits .and .i64 a1 1023)))))]) (j := 1) hcl86 hcc86 (show 2 ≤ 2 from by decide) (x' := (⟨(rd_T49 t206 1).f0, wrap64 (65535 + (wrap64 (1 + (Go.bits .and .i64 a1 1023))))⟩ : S49)) (k49_mkM _ _ _ (⟨(rd_T49 t206 1).f0, wrap64 (65535 + (wrap64 (1 + (Go.bits .and .i64 a1 1023))))⟩ : S49) ) (fun _ hk => hk)
                have hx86_1 := hcc86 1 _ rfl
                (try simp only [show (k49).sz = 2 from rfl, Nat.mul_one, Nat.add_zero] at hx86_1)
                (try rw [show ((1 : Int)).toNat = 1 from rfl] at hx86_1)
                (try simp only [Nat.reduceMul, Nat.zero_mul, Nat.zero_add, Nat.reduceAdd] at hx86_1)
                have hf86_1 := hfr86 1
                (try simp only [show (k49).sz = 2 from rfl, Nat.mul_one, Nat.add_zero] at hf86_1)
                (try rw [show ((1 : Int)).toNat = 1 from rfl] at hf86_1)
                (try simp only [Nat.reduceMul, Nat.zero_mul, Nat.zero_add, Nat.reduceAdd] at hf86_1)
                clear hcl86 hcc86 hfr86 hM86
                go_wp2_with (first | ((with_reducible refine gate_store (t := 3) (p := 116) rfl ?_); refine store_event (t := 3) (p := 116) (v := ?vo_w87) (w1 := (w21.setCell ⟨go83, 3, none⟩ (.int .i64 (wrap64 (65535 + (wrap64 (1 + (Go.bits .and .i64 a1 1023)))))))) ?hg ?ho ?hn ?hr ?_; (case ho => rfl); (case hg => rfl); (case hn => rfl); (case hr => first | (go_simp; done) | (go_simp; rfl)); intro w87 hw; have hg : w21.grownBy w87 (some go83) := (by rw [hw]; exact HP86.2); have hp_ : Kd.R k49 49 w87 w.heap.size (fun k_ => some k_ ≠ (.slice Ao11 y199.length co11 : Value).ownBlock) (.slice (some ⟨go83, 0, none⟩) t206.length co20) y215 := (by rw [hw, Ny215.out]; exact HP86.1); clear HP86; have n0_ := Aside0.mk (Kd.R_after (v := (.slice (some ⟨go83, 0, none⟩) t206.length co20)) (v1 := (.slice (some ⟨go83, 0, none⟩) t206.length co20)) (ok := (fun _ => True)) (by (with_reducible repeat (first | apply Kd.R_alloc | apply Kd.R_drewN | apply Kd.R_drew)); exact Kd.R_mono HO201.out (fun _ hk => ⟨trivial, hk⟩)) hg (.inl rfl)); have n1_ := Aside0.mk (blk_grown (g := gb202) (o := .cells #[.int .i64 2, .int .i64 5, .int .i64 3, .slice Ao11 y199.length co11] 24 (0, 0)) (upB BK202.out) hg (Kd.R_ne HO208.out BK202.out (by decide))); have n2_ := Aside0.mk (hp_); have n3_ := Aside0.mk (blk_grown (g := gb209) (o := .cells #[.int .i64 t203, .int .i64 t204, .int .i64 t205, .slice (some ⟨go83, 0, none⟩) t206.length co20] 24 (0, 0)) (upB BK209.out) hg (Kd.R_ne HO208.out BK209.out (by decide))); have n4_ := Aside0.mk ((by rw [hw]; exact below_set (HB.out) GB83.out : Below w.heap.size w w87)); clear HO201; clear BK202; clear HO208; clear BK209; clear HB; have HO201 := n0_; have BK202 := n1_; have HO208 := n2_; have BK209 := n3_; have HB := n4_; clear n0_ n1_ n2_ n3_ n4_; clear hg hw hp_))
                go_meet
                case rel => exact ⟨_, (y199), (t203), (t204), (t205), (y215), (.slice Ao11 y199.length co11), (.slice (some ⟨go83, 0, none⟩) t206.length co20), H', ⟨by first | omega | exact Nat.le_refl _⟩, ⟨by (with_reducible repeat (first | apply Kd.R_alloc | apply Kd.R_drewN | apply Kd.R_drew)); exact Kd.R_mono HO201.out (fun _ hk => hk.2)⟩, ⟨upR HO208.out⟩, ⟨upB BK202.out⟩, ⟨upB BK209.out⟩, ⟨by repeat (first | (with_reducible first | exact HB.out | apply below_alloc | apply pw_below_drewN | apply below_drew1 | refine below_set ?_ GE202.out | refine below_set ?_ GE209.out) | exact HB.out)⟩⟩
               ·rw [if_neg c82] at H
                exact absurd H (by simp)
              ·rw [if_neg c81] at H
               have c81b0 : ((Int.tmod (IntKind.u64.wrap (a0)) 13) == 11) = false := beq_eq_false_iff_ne.mpr c81
               have c81b1 : ((Int.tmod (IntKind.u64.wrap (a0)) 13) != 11) = true := bne_iff_ne.mpr c81
               have H' := Aside0.mk H
               clear H
               have hnb88 := NB209_202.out
               have hnc88 := NB202_209.out
               have hcz89_0 : w21.cell? ⟨gb209, 0, none⟩ = some (.int .i64 t203) := (blk_cell BK209.out 0).trans rfl
               have hcz89_1 : w21.cell? ⟨gb209, 1, none⟩ = some (.int .i64 t204) := (blk_cell BK209.out 1).trans rfl
               have hcz89_2 : w21.cell? ⟨gb209, 2, none⟩ = some (.int .i64 t205) := (blk_cell BK209.out 2).trans rfl
               have hcz89_3 : w21.cell? ⟨gb209, 3, none⟩ = some (.slice Ao20 t206.length co20) := (blk_cell BK209.out 3).trans rfl
               have hfz89_0 := blk_frozen BK209.out 0
               have hfz89_1 := blk_frozen BK209.out 1
               have hfz89_2 := blk_frozen BK209.out 2
               have hfz89_3 := blk_frozen BK209.out 3
               go_wp2_with (first | ((with_reducible refine gate_store (t := 3) (p := 42) rfl ?_); refine store_event (t := 3) (p := 42) (v := ?vo_w90) (w1 := (w21.setCell ⟨gb209, 0, none⟩ (.int .i64 3))) ?hg ?ho ?hn ?hr ?_; (case ho => rfl); (case hg => rfl); (case hn => rfl); (case hr => first | (go_simp; done) | (go_simp; rfl)); intro w90 hw; have n0_ : Aside0 (Kd.R k49 49 w90 w.heap.size (fun k_ => some k_ ≠ (.slice Ao20 t206.length co20 : Value).ownBlock) (.slice Ao11 y199.length co11) y199) := ⟨(by rw [hw]; exact (by (with_reducible repeat (first | apply Kd.R_alloc | apply Kd.R_drewN | apply Kd.R_drew)); exact Kd.R_mono (Kd.R_far (p := ⟨gb209, 0, none⟩) (Kd.R_types HO201.out BK209.out (by decide)) (fun _ hk => hk.2) (.int .i64 3)) (fun _ hk => hk.1)))⟩; have n1_ : Aside0 (Kd.R k49 49 w90 w.heap.size (fun k_ => some k_ ≠ (.slice Ao11 y199.length co11 : Value).ownBlock) (.slice Ao20 t206.length co20) t206) := ⟨(by rw [hw]; exact (by (with_reducible repeat (first | apply Kd.R_alloc | apply Kd.R_drewN | apply Kd.R_drew)); exact Kd.R_mono (Kd.R_far (p := ⟨gb209, 0, none⟩) (Kd.R_types HO208.out BK209.out (by decide)) (fun _ hk => hk.2) (.int .i64 3)) (fun _ hk => hk.1)))⟩; have n2_ : Aside0 (w90.heap[gb202]? = some (.cells #[.int .i64 2, .int .i64 5, .int .i64 3, .slice Ao11 y199.length co11] 24 (0, 0))) := ⟨(by rw [hw]; exact (upF NB202_209.out BK202.out))⟩; have n3_ : Aside0 (w90.heap[gb209]? = some (.cells #[.int .i64 3, .int .i64 t204, .int .i64 t205, .slice Ao20 t206.length co20] 24 (0, 0))) := ⟨(by rw [hw]; exact (by (with_reducible repeat (first | refine blk_drewN ?_ _ | refine blk_drew ?_ | refine blk_alloc ?_ _)); refine blk_put (cs := #[.int .i64 t203, .int .i64 t204, .int .i64 t205, .slice Ao20 t206.length co20]) ?_ 0 _ rfl; (with_reducible repeat (first | refine blk_drewN ?_ _ | refine blk_drew ?_ | refine blk_alloc ?_ _)); exact BK209.out))⟩; have n4_ : Aside0 (Below w.heap.size w w90) := ⟨(by rw [hw]; exact (by repeat (first | (with_reducible first | exact HB.out | apply below_alloc | apply pw_below_drewN | apply below_drew1 | refine below_set ?_ GE202.out | refine below_set ?_ GE209.out) | exact HB.out)))⟩; clear hw; clear HO201; clear HO208; clear BK202; clear BK209; clear HB; have HO201 := n0_; have HO208 := n1_; have BK202 := n2_; have BK209 := n3_; have HB := n4_; clear n0_ n1_ n2_ n3_ n4_))
               go_meet
               case rel => exact ⟨_, (y199), (3), (t204), (t205), (t206), (.slice Ao11 y199.length co11), (.slice Ao20 t206.length co20), H', ⟨by first | omega | exact Nat.le_refl _⟩, ⟨upR HO201.out⟩, ⟨upR HO208.out⟩, ⟨upB BK202.out⟩, ⟨upB BK209.out⟩, ⟨by repeat (first | (with_reducible first | exact HB.out | apply below_alloc | apply pw_below_drewN | apply below_drew1 | refine below_set ?_ GE202.out | refine below_set ?_ GE209.out) | exact HB.out)⟩⟩
  case rest =>
   clear HC7
   try clear c1
   try clear c2
   try clear p2
   try clear c3
   try clear c4
   try clear p4
   try clear q4
   try clear hx4
   try clear qi4
   try clear hf4
   try clear c5
   try clear p5
   try clear q5
   try clear hx5
   try clear qi5
   try clear hf5
   try clear c6
   try clear p6
   try clear q6
   try clear hx6
   try clear qi6
   try clear hf6
   try clear c7
   try clear p7
   try clear q7
   try clear hx7
   try clear qi7
   try clear hf7
   try clear c8
   try clear p8
   try clear q8
   try clear hx8
   try clear qi8
   try clear hf8
   try clear c12
   try clear c18
   try clear c22
   try clear c22b0
   try clear c22b1
   try clear c23
   try clear c24
   try clear c26
   try clear c26b0
   try clear c26b1
   try clear c27
   try clear c30
   try clear c30b0
   try clear c30b1
   try clear c31
   try clear c34
   try clear c34b0
   try clear c34b1
   try clear c35
   try clear c38
   try clear c38b0
   try clear c38b1
   try clear c39
   try clear c42
   try clear c42b0
   try clear c42b1
   try clear c43
   try clear c46
   try clear c46b0
   try clear c46b1
   try clear c47
   try clear c47b0
   try clear c47b1
   try clear c48
   try clear p48
   try clear q48
   try clear hx48
   try clear qi48
   try clear hf48
   try clear c49
   try clear c51
   try clear hx51
   try clear hf51
   try clear c53
   try clear c53b0
   try clear c53b1
   try clear c54
   try clear c54b0
   try clear c54b1
   try clear c55
   try clear p55
   try clear q55
   try clear hx55
   try clear qi55
   try clear hf55
   try clear c56
   try clear c58
   try clear hx58
   try clear hf58
   try clear c60
   try clear c60b0
   try clear c60b1
   try clear c61
   try clear c61b0
   try clear c61b1
   try clear c62
   try clear p62
   try clear q62
   try clear hx62
   try clear qi62
   try clear hf62
   try clear c63
   try clear p64
   try clear c65
   try clear hx65
   try clear hf65
   try clear c67
   try clear c67b0
   try clear c67b1
   try clear c68
   try clear c68b0
   try clear c68b1
   try clear c69
   try clear p69
   try clear q69
   try clear hx69
   try clear qi69
   try clear hf69
   try clear c70
   try clear c72
   try clear hx72
   try clear hf72
   try clear c74
   try clear c74b0
   try clear c74b1
   try clear c75
   try clear c75b0
   try clear c75b1
   try clear c76
   try clear p76
   try clear q76
   try clear hx76
   try clear qi76
   try clear hf76
   try clear c77
   try clear c79
   try clear hx79
   try clear hf79
   try clear c81
   try clear c81b0
   try clear c81b1
   try clear c82
   try clear c82b0
   try clear c82b1
   try clear c83
   try clear p83
   try clear q83
   try clear hx83
   try clear qi83
   try clear hf83
   try clear c84
   try clear c86
   try clear hx86
   try clear hf86
   try clear c88
   try clear hcz13_0
   try clear hcz13_1
   try clear hcz13_2
   try clear hcz13_3
   try clear hcz15_0
   try clear hcz15_1
   try clear hcz15_2
   try clear hcz15_3
   try clear hcz19_0
   try clear hcz19_1
   try clear hcz19_2
   try clear hcz19_3
   try clear hcz24_0
   try clear hcz24_1
   try clear hcz24_2
   try clear hcz24_3
   try clear hcz28_0
   try clear hcz28_1
   try clear hcz28_2
   try clear hcz28_3
   try clear hcz32_0
   try clear hcz32_1
   try clear hcz32_2
   try clear hcz32_3
   try clear hcz36_0
   try clear hcz36_1
   try clear hcz36_2
   try clear hcz36_3
   try clear hcz40_0
   try clear hcz40_1
   try clear hcz40_2
   try clear hcz40_3
   try clear hcz44_0
   try clear hcz44_1
   try clear hcz44_2
   try clear hcz44_3
   try clear hcz50_0
   try clear hcz50_1
   try clear hcz50_2
   try clear hcz50_3
   try clear hcz57_0
   try clear hcz57_1
   try clear hcz57_2
   try clear hcz57_3
   try clear hcz64_0
   try clear hcz64_1
   try clear hcz64_2
   try clear hcz64_3
   try clear hcz71_0
   try clear hcz71_1
   try clear hcz71_2
   try clear hcz71_3
   try clear hcz78_0
   try clear hcz78_1
   try clear hcz78_2
   try clear hcz78_3
   try clear hcz85_0
   try clear hcz85_1
   try clear hcz85_2
   try clear hcz85_3
   try clear hcz89_0
   try clear hcz89_1
   try clear hcz89_2
   try clear hcz89_3
   try clear hfz13_0
   try clear hfz13_1
   try clear hfz13_2
   try clear hfz13_3
   try clear hfz15_0
   try clear hfz15_1
   try clear hfz15_2
   try clear hfz15_3
   try clear hfz19_0
   try clear hfz19_1
   try clear hfz19_2
   try clear hfz19_3
   try clear hfz24_0
   try clear hfz24_1
   try clear hfz24_2
   try clear hfz24_3
   try clear hfz28_0
   try clear hfz28_1
   try clear hfz28_2
   try clear hfz28_3
   try clear hfz32_0
   try clear hfz32_1
   try clear hfz32_2
   try clear hfz32_3
   try clear hfz36_0
   try clear hfz36_1
   try clear hfz36_2
   try clear hfz36_3
   try clear hfz40_0
   try clear hfz40_1
   try clear hfz40_2
   try clear hfz40_3
   try clear hfz44_0
   try clear hfz44_1
   try clear hfz44_2
   try clear hfz44_3
   try clear hfz50_0
   try clear hfz50_1
   try clear hfz50_2
   try clear hfz50_3
   try clear hfz57_0
   try clear hfz57_1
   try clear hfz57_2
   try clear hfz57_3
   try clear hfz64_0
   try clear hfz64_1
   try clear hfz64_2
   try clear hfz64_3
   try clear hfz71_0
   try clear hfz71_1
   try clear hfz71_2
   try clear hfz71_3
   try clear hfz78_0
   try clear hfz78_1
   try clear hfz78_2
   try clear hfz78_3
   try clear hfz85_0
   try clear hfz85_1
   try clear hfz85_2
   try clear hfz85_3
   try clear hfz89_0
   try clear hfz89_1
   try clear hfz89_2
   try clear hfz89_3
   try clear hx48_0
   try clear hx48_1
   try clear hx51_0
   try clear hx55_0
   try clear hx55_1
   try clear hx58_0
   try clear hx62_0
   try clear hx62_1
   try clear hx65_0
   try clear hx69_0
   try clear hx69_1
   try clear hx72_0
   try clear hx76_0
   try clear hx76_1
   try clear hx79_1
   try clear hx83_0
   try clear hx83_1
   try clear hx86_1
   try clear p48
   try clear p55
   try clear p62
   try clear p69
   try clear p76
   try clear p83
   try clear q48
   try clear q55
   try clear q62
   try clear q69
   try clear q76
   try clear q83
   obtain ⟨kq, x203003_6, x210000_6, x210001_6, x210002_6, x210003_6, u203003, u210003, HA, HJ6, HO_203003, HO_210003, BK202, BK209, HB⟩ := hcut
   cases kq with
   | zero => exact absurd HA.out (by simp [watchwordlaw7_LsaForms.j0])
   | succ kj6 =>
    have H := HA.out
    clear HA
    simp only [watchwordlaw7_LsaForms.j0] at H
    replace H := Option.bind_eq_some_iff.mp H
    obtain ⟨⟨t216, t217⟩, A910, H⟩ := H
    replace H : ((lsa_Head.f kj6 x210000_6 x210001_6 x210002_6 x210003_6).bind fun bt218 => ((lsa_Put.f kj6 2 5 3 x203003_6).bind fun bt224 => ((watchwordlaw0_Num.f bt224.2).bind fun t226 => (if t226 = 0 then (watchwordlaw7_LsaForms.j1 kj6 a2 (wrap64 (1 + (Go.bits .and .i64 a1 1023))) t216 t217 bt218.2.2.2.2 bt224.1 ((bt224.1.size : Int) != 15) 2 5 3 x203003_6 x210000_6 x210001_6 x210002_6 x210003_6) else (watchwordlaw7_LsaForms.j1 kj6 a2 (wrap64 (1 + (Go.bits .and .i64 a1 1023))) t216 t217 bt218.2.2.2.2 bt224.1 true 2 5 3 x203003_6 x210000_6 x210001_6 x210002_6 x210003_6))))) = some r := H
    have A91 := Aside0.mk A910
    clear A910
    replace H := Option.bind_eq_some_iff.mp H
    obtain ⟨⟨t218, t219, t220, t221, t222⟩, A920, H⟩ := H
    replace H : ((lsa_Put.f kj6 2 5 3 x203003_6).bind fun bt224 => ((watchwordlaw0_Num.f bt224.2).bind fun t226 => (if t226 = 0 then (watchwordlaw7_LsaForms.j1 kj6 a2 (wrap64 (1 + (Go.bits .and .i64 a1 1023))) t216 t217 t222 bt224.1 ((bt224.1.size : Int) != 15) 2 5 3 x203003_6 x210000_6 x210001_6 x210002_6 x210003_6) else (watchwordlaw7_LsaForms.j1 kj6 a2 (wrap64 (1 + (Go.bits .and .i64 a1 1023))) t216 t217 t222 bt224.1 true 2 5 3 x203003_6 x210000_6 x210001_6 x210002_6 x210003_6)))) = some r := H
    have A92 := Aside0.mk A920
    clear A920
    replace H := Option.bind_eq_some_iff.mp H
    obtain ⟨⟨t224, t225⟩, A930, H⟩ := H
    replace H : ((watchwordlaw0_Num.f t225).bind fun t226 => (if t226 = 0 then (watchwordlaw7_LsaForms.j1 kj6 a2 (wrap64 (1 + (Go.bits .and .i64 a1 1023))) t216 t217 t222 t224 ((t224.size : Int) != 15) 2 5 3 x203003_6 x210000_6 x210001_6 x210002_6 x210003_6) else (watchwordlaw7_LsaForms.j1 kj6 a2 (wrap64 (1 + (Go.bits .and .i64 a1 1023))) t216 t217 t222 t224 true 2 5 3 x203003_6 x210000_6 x210001_6 x210002_6 x210003_6))) = some r := H
    have A93 := Aside0.mk A930
    clear A930
    have HC94 := Aside0.mk H
    clear H
    have hnb95 := NB209_202.out
    have hnc95 := NB202_209.out
    have hcz96_0 : wc.cell? ⟨gb209, 0, none⟩ = some (.int .i64 x210000_6) := (blk_cell BK209.out 0).trans rfl
    have hcz96_1 : wc.cell? ⟨gb209, 1, none⟩ = some (.int .i64 x210001_6) := (blk_cell BK209.out 1).trans rfl
    have hcz96_2 : wc.cell? ⟨gb209, 2, none⟩ = some (.int .i64 x210002_6) := (blk_cell BK209.out 2).trans rfl
    have hcz96_3 : wc.cell? ⟨gb209, 3, none⟩ = some (u210003) := (blk_cell BK209.out 3).trans rfl
    have hfz96_0 := blk_frozen BK209.out 0
    have hfz96_1 := blk_frozen BK209.out 1
    have hfz96_2 := blk_frozen BK209.out 2
    have hfz96_3 := blk_frozen BK209.out 3
    obtain ⟨Ao97, co97, eo97⟩ := Kd.R_slice HO_210003.out
    subst eo97
    go_upto_region 35 with (first | ((with_reducible refine gate_callee (f := 13) rfl ?_); refine goesL_ (some 119) rfl rfl Try.func13 (by kernel_rfl) rfl #[.agg #[.int .i64 x210000_6, .int .i64 x210001_6, .int .i64 x210002_6, .slice Ao97 x210003_6.length co97]] rfl (by (try simp only [List.map_toArray, List.map_cons, List.map_nil]); first | done | rfl | (simp only [List.length_drop, List.length_take]; rfl)) ?_; (with_reducible refine (lsa_Put.calls kj6 x210000_6 x210001_6 x210002_6 _ _ x210003_6 t216 t217 _ ?side1 ?side2 A91.out).mono ?_); (case side1 => repeat (first | exact (Kd.R_reads' HO_210003.out).2.2 | (with_reducible refine Kd.C_alloc ?_ _) | (with_reducible refine Kd.C_drewN ?_ _) | (with_reducible refine Kd.C_drew ?_))); (case side2 => exact (Kd.R_reads' HO_210003.out).2.1); rintro e w98 ⟨rfl, hb⟩; refine ⟨_, rfl, ?_⟩; have n0_ := Aside0.mk (Kd.R_below (upR HO_203003.out) hb); have n1_ := Aside0.mk (Kd.R_below (upR HO_210003.out) hb); have n2_ := Aside0.mk (blk_below (upB BK202.out) hb); have n3_ := Aside0.mk (blk_below (upB BK209.out) hb); have n4_ := Aside0.mk (below_step (by repeat (first | (with_reducible first | exact HB.out | apply below_alloc | apply pw_below_drewN | apply below_drew1 | refine below_set ?_ GE202.out | refine below_set ?_ GE209.out) | exact HB.out)) hb); clear HO_203003; clear HO_210003; clear BK202; clear BK209; clear HB; have HO_203003 := n0_; have HO_210003 := n1_; have BK202 := n2_; have BK209 := n3_; have HB := n4_; clear n0_ n1_ n2_ n3_ n4_; (try clear hb); (try clear hb2); (try clear hk); (try clear hi); have hcz99_0 : w98.cell? ⟨gb209, 0, none⟩ = some (.int .i64 x210000_6) := (blk_cell BK209.out 0).trans rfl; have hcz99_1 : w98.cell? ⟨gb209, 1, none⟩ = some (.int .i64 x210001_6) := (blk_cell BK209.out 1).trans rfl; have hcz99_2 : w98.cell? ⟨gb209, 2, none⟩ = some (.int .i64 x210002_6) := (blk_cell BK209.out 2).trans rfl; have hcz99_3 : w98.cell? ⟨gb209, 3, none⟩ = some (.slice Ao97 x210003_6.length co97) := (blk_cell BK209.out 3).trans rfl; have hfz99_0 := blk_frozen BK209.out 0; have hfz99_1 := blk_frozen BK209.out 1; have hfz99_2 := blk_frozen BK209.out 2; have hfz99_3 := blk_frozen BK209.out 3) | ((with_reducible refine gate_callee (f := 17) rfl ?_); refine goesL_ (some 124) rfl rfl Try.func17 (by kernel_rfl) rfl #[.agg #[.int .i64 x210000_6, .int .i64 x210001_6, .int .i64 x210002_6, .slice Ao97 x210003_6.length co97]] rfl (by (try simp only [List.map_toArray, List.map_cons, List.map_nil]); first | done | rfl | (simp only [List.length_drop, List.length_take]; rfl)) ?_; (with_reducible refine (lsa_Head.calls kj6 x210000_6 x210001_6 x210002_6 _ _ x210003_6 t218 t219 t220 t221 t222 _ ?side1 ?side2 A92.out).mono ?_); (case side1 => repeat (first | exact (Kd.R_reads' HO_210003.out).2.2 | (with_reducible refine Kd.C_alloc ?_ _) | (with_reducible refine Kd.C_drewN ?_ _) | (with_reducible refine Kd.C_drew ?_))); (case side2 => exact (Kd.R_reads' HO_210003.out).2.1); rintro e w100 ⟨rfl, hb⟩; refine ⟨_, rfl, ?_⟩; have n0_ := Aside0.mk (Kd.R_below (upR HO_203003.out) hb); have n1_ := Aside0.mk (Kd.R_below (upR HO_210003.out) hb); have n2_ := Aside0.mk (blk_below (upB BK202.out) hb); have n3_ := Aside0.mk (blk_below (upB BK209.out) hb); have n4_ := Aside0.mk (below_step (by repeat (first | (with_reducible first | exact HB.out | apply below_alloc | apply pw_below_drewN | apply below_drew1 | refine below_set ?_ GE202.out | refine below_set ?_ GE209.out) | exact HB.out)) hb); clear HO_203003; clear HO_210003; clear BK202; clear BK209; clear HB; have HO_203003 := n0_; have HO_210003 := n1_; have BK202 := n2_; have BK209 := n3_; have HB := n4_; clear n0_ n1_ n2_ n3_ n4_; (try clear hb); (try clear hb2); (try clear hk); (try clear hi)) | ((with_reducible refine gate_dst (N := 10) rfl ?_); (try (refine gate_guard (by rfl) ?_; dsimp only)); refine box_event ?hg (N := 10) ?hd (cs := #[.int .i64 0, .int .i64 0, .int .i64 0, .int .i64 0]) (t := 36) ?hr ?_; (case hd => rfl); (case hg => rfl); (case hr => first | (go_simp; done) | (go_simp; rfl)); intro gb223 hg w101 hbox hb; have n0_ := Aside0.mk (Kd.R_below (upR HO_203003.out) hb); have n1_ := Aside0.mk (Kd.R_below (upR HO_210003.out) hb); have n2_ := Aside0.mk (blk_below (upB BK202.out) hb); have n3_ := Aside0.mk (blk_below (upB BK209.out) hb); have n4_ := Aside0.mk (below_step (by repeat (first | (with_reducible first | exact HB.out | apply below_alloc | apply pw_below_drewN | apply below_drew1 | refine below_set ?_ GE202.out | refine below_set ?_ GE209.out) | exact HB.out)) hb); have n5_ := Aside0.mk (hbox); have n6_ := Aside0.mk ((by rw [hg]; exact (below_size (by repeat (first | (with_reducible first | exact HB.out | apply below_alloc | apply pw_below_drewN | apply below_drew1 | refine below_set ?_ GE202.out | refine below_set ?_ GE209.out) | exact HB.out))) : w.heap.size ≤ gb223)); have n7_ := Aside0.mk ((by rw [hg]; exact (below_size (by repeat (first | (with_reducible first | exact HB.out | apply below_alloc | apply pw_below_drewN | apply below_drew1 | refine below_set ?_ GE202.out | refine below_set ?_ GE209.out) | exact HB.out))) : w.heap.size ≤ gb223)); have n8_ := Aside0.mk ((by rw [hg]; exact Nat.ne_of_lt (blk_lt (g := gb202) (o := .cells #[.int .i64 2, .int .i64 5, .int .i64 3, u203003] 24 (0, 0)) (upB BK202.out)) : gb202 ≠ gb223)); have n9_ := Aside0.mk ((by rw [hg]; exact Nat.ne_of_gt (blk_lt (g := gb202) (o := .cells #[.int .i64 2, .int .i64 5, .int .i64 3, u203003] 24 (0, 0)) (upB BK202.out)) : gb223 ≠ gb202)); have n10_ := Aside0.mk ((by rw [hg]; exact Nat.ne_of_lt (blk_lt (g := gb209) (o := .cells #[.int .i64 x210000_6, .int .i64 x210001_6, .int .i64 x210002_6, .slice Ao97 x210003_6.length co97] 24 (0, 0)) (upB BK209.out)) : gb209 ≠ gb223)); have n11_ := Aside0.mk ((by rw [hg]; exact Nat.ne_of_gt (blk_lt (g := gb209) (o := .cells #[.int .i64 x210000_6, .int .i64 x210001_6, .int .i64 x210002_6, .slice Ao97 x210003_6.length co97] 24 (0, 0)) (upB BK209.out)) : gb223 ≠ gb209)); clear HO_203003; clear HO_210003; clear BK202; clear BK209; clear HB; have HO_203003 := n0_; have HO_210003 := n1_; have BK202 := n2_; have BK209 := n3_; have HB := n4_; have BK223 := n5_; have GW223 := n6_; have GE223 := n7_; have NB202_223 := n8_; have NB223_202 := n9_; have NB209_223 := n10_; have NB223_209 := n11_; clear n0_ n1_ n2_ n3_ n4_ n5_ n6_ n7_ n8_ n9_ n10_ n11_; clear hb hbox hg; have hnb102 := NB223_202.out; have hnc102 := NB202_223.out; have hnb103 := NB223_209.out; have hnc103 := NB209_223.out; have hcz104_0 : w101.cell? ⟨gb223, 0, none⟩ = some (.int .i64 0) := (blk_cell BK223.out 0).trans rfl; have hcz104_1 : w101.cell? ⟨gb223, 1, none⟩ = some (.int .i64 0) := (blk_cell BK223.out 1).trans rfl; have hcz104_2 : w101.cell? ⟨gb223, 2, none⟩ = some (.int .i64 0) := (blk_cell BK223.out 2).trans rfl; have hcz104_3 : w101.cell? ⟨gb223, 3, none⟩ = some (.int .i64 0) := (blk_cell BK223.out 3).trans rfl; have hfz104_0 := blk_frozen BK223.out 0; have hfz104_1 := blk_frozen BK223.out 1; have hfz104_2 := blk_frozen BK223.out 2; have hfz104_3 := blk_frozen BK223.out 3) | ((with_reducible refine gate_store (t := 36) (p := 10) rfl ?_); refine store_event (t := 36) (p := 10) (v := ?vo_w105) (w1 := ((((w101.setCell ⟨gb223, 0, none⟩ (.int .i64 t218)).setCell ⟨gb223, 1, none⟩ (.int .i64 t219)).setCell ⟨gb223, 2, none⟩ (.int .i64 t220)).setCell ⟨gb223, 3, none⟩ (.int .i64 t221))) ?hg ?ho ?hn ?hr ?_; (case ho => rfl); (case hg => rfl); (case hn => rfl); (case hr => first | (go_simp; done) | (go_simp; rfl)); intro w105 hw; have n0_ : Aside0 (Kd.R k49 49 w105 w.heap.size (fun k_ => some k_ ≠ (.slice Ao97 x210003_6.length co97 : Value).ownBlock) u203003 x203003_6) := ⟨(by rw [hw]; exact (by (with_reducible repeat (first | apply Kd.R_alloc | apply Kd.R_drewN | apply Kd.R_drew)); exact Kd.R_mono (Kd.R_far (p := ⟨gb223, 3, none⟩) (Kd.R_far (p := ⟨gb223, 2, none⟩) (Kd.R_far (p := ⟨gb223, 1, none⟩) (Kd.R_far (p := ⟨gb223, 0, none⟩) (Kd.R_types HO_203003.out BK223.out (by decide)) (fun _ hk => hk.2) (.int .i64 t218)) (fun _ hk => hk.2) (.int .i64 t219)) (fun _ hk => hk.2) (.int .i64 t220)) (fun _ hk => hk.2) (.int .i64 t221)) (fun _ hk => hk.1)))⟩; have n1_ : Aside0 (Kd.R k49 49 w105 w.heap.size (fun k_ => some k_ ≠ (u203003 : Value).ownBlock) (.slice Ao97 x210003_6.length co97) x210003_6) := ⟨(by rw [hw]; exact (by (with_reducible repeat (first | apply Kd.R_alloc | apply Kd.R_drewN | apply Kd.R_drew)); exact Kd.R_mono (Kd.R_far (p := ⟨gb223, 3, none⟩) (Kd.R_far (p := ⟨gb223, 2, none⟩) (Kd.R_far (p := ⟨gb223, 1, none⟩) (Kd.R_far (p := ⟨gb223, 0, none⟩) (Kd.R_types HO_210003.out BK223.out (by decide)) (fun _ hk => hk.2) (.int .i64 t218)) (fun _ hk => hk.2) (.int .i64 t219)) (fun _ hk => hk.2) (.int .i64 t220)) (fun _ hk => hk.2) (.int .i64 t221)) (fun _ hk => hk.1)))⟩; have n2_ : Aside0 (w105.heap[gb202]? = some (.cells #[.int .i64 2, .int .i64 5, .int .i64 3, u203003] 24 (0, 0))) := ⟨(by rw [hw]; exact (upF NB202_223.out BK202.out))⟩; have n3_ : Aside0 (w105.heap[gb209]? = some (.cells #[.int .i64 x210000_6, .int .i64 x210001_6, .int .i64 x210002_6, .slice Ao97 x210003_6.length co97] 24 (0, 0))) := ⟨(by rw [hw]; exact (upF NB209_223.out BK209.out))⟩; have n4_ : Aside0 (w105.heap[gb223]? = some (.cells #[.int .i64 t218, .int .i64 t219, .int .i64 t220, .int .i64 t221] 36 (0, 0))) := ⟨(by rw [hw]; exact (by (with_reducible repeat (first | refine blk_drewN ?_ _ | refine blk_drew ?_ | refine blk_alloc ?_ _)); refine blk_put (cs := #[.int .i64 t218, .int .i64 t219, .int .i64 t220, .int .i64 0]) ?_ 3 _ rfl; (with_reducible repeat (first | refine blk_drewN ?_ _ | refine blk_drew ?_ | refine blk_alloc ?_ _)); refine blk_put (cs := #[.int .i64 t218, .int .i64 t219, .int .i64 0, .int .i64 0]) ?_ 2 _ rfl; (with_reducible repeat (first | refine blk_drewN ?_ _ | refine blk_drew ?_ | refine blk_alloc ?_ _)); refine blk_put (cs := #[.int .i64 t218, .int .i64 0, .int .i64 0, .int .i64 0]) ?_ 1 _ rfl; (with_reducible repeat (first | refine blk_drewN ?_ _ | refine blk_drew ?_ | refine blk_alloc ?_ _)); refine blk_put (cs := #[.int .i64 0, .int .i64 0, .int .i64 0, .int .i64 0]) ?_ 0 _ rfl; (with_reducible repeat (first | refine blk_drewN ?_ _ | refine blk_drew ?_ | refine blk_alloc ?_ _)); exact BK223.out))⟩; have n5_ : Aside0 (Below w.heap.size w w105) := ⟨(by rw [hw]; exact (by repeat (first | (with_reducible first | exact HB.out | apply below_alloc | apply pw_below_drewN | apply below_drew1 | refine below_set ?_ GE202.out | refine below_set ?_ GE209.out | refine below_set ?_ GE223.out) | exact HB.out)))⟩; clear hw; clear HO_203003; clear HO_210003; clear BK202; clear BK209; clear BK223; clear HB; have HO_203003 := n0_; have HO_210003 := n1_; have BK202 := n2_; have BK209 := n3_; have BK223 := n4_; have HB := n5_; clear n0_ n1_ n2_ n3_ n4_ n5_; have hcz106_0 : w105.cell? ⟨gb202, 0, none⟩ = some (.int .i64 2) := (blk_cell BK202.out 0).trans rfl; have hcz106_1 : w105.cell? ⟨gb202, 1, none⟩ = some (.int .i64 5) := (blk_cell BK202.out 1).trans rfl; have hcz106_2 : w105.cell? ⟨gb202, 2, none⟩ = some (.int .i64 3) := (blk_cell BK202.out 2).trans rfl; have hcz106_3 : w105.cell? ⟨gb202, 3, none⟩ = some (u203003) := (blk_cell BK202.out 3).trans rfl; have hfz106_0 := blk_frozen BK202.out 0; have hfz106_1 := blk_frozen BK202.out 1; have hfz106_2 := blk_frozen BK202.out 2; have hfz106_3 := blk_frozen BK202.out 3; obtain ⟨Ao107, co107, eo107⟩ := Kd.R_slice HO_203003.out; subst eo107) | ((with_reducible refine gate_callee (f := 13) rfl ?_); refine goesL_ (some 129) rfl rfl Try.func13 (by kernel_rfl) rfl #[.agg #[.int .i64 2, .int .i64 5, .int .i64 3, .slice Ao107 x203003_6.length co107]] rfl (by (try simp only [List.map_toArray, List.map_cons, List.map_nil]); first | done | rfl | (simp only [List.length_drop, List.length_take]; rfl)) ?_; (with_reducible refine (lsa_Put.calls kj6 2 5 3 _ _ x203003_6 t224 t225 _ ?side1 ?side2 A93.out).mono ?_); (case side1 => repeat (first | exact (Kd.R_reads' HO_203003.out).2.2 | (with_reducible refine Kd.C_alloc ?_ _) | (with_reducible refine Kd.C_drewN ?_ _) | (with_reducible refine Kd.C_drew ?_))); (case side2 => exact (Kd.R_reads' HO_203003.out).2.1); rintro e w108 ⟨rfl, hb⟩; refine ⟨_, rfl, ?_⟩; have n0_ := Aside0.mk (Kd.R_below (upR HO_203003.out) hb); have n1_ := Aside0.mk (Kd.R_below (upR HO_210003.out) hb); have n2_ := Aside0.mk (blk_below (upB BK202.out) hb); have n3_ := Aside0.mk (blk_below (upB BK209.out) hb); have n4_ := Aside0.mk (blk_below (upB BK223.out) hb); have n5_ := Aside0.mk (below_step (by repeat (first | (with_reducible first | exact HB.out | apply below_alloc | apply pw_below_drewN | apply below_drew1 | refine below_set ?_ GE202.out | refine below_set ?_ GE209.out | refine below_set ?_ GE223.out) | exact HB.out)) hb); clear HO_203003; clear HO_210003; clear BK202; clear BK209; clear BK223; clear HB; have HO_203003 := n0_; have HO_210003 := n1_; have BK202 := n2_; have BK209 := n3_; have BK223 := n4_; have HB := n5_; clear n0_ n1_ n2_ n3_ n4_ n5_; (try clear hb); (try clear hb2); (try clear hk); (try clear hi)))
    (try simp only [Act.put, List.setIfInBounds_toArray, List.set_cons_zero, List.set_cons_succ])
    go_cut [139] (fun v139 wc => ∃ (kq : Nat) (x139_93 : Bool), v139 = .bool x139_93 ∧ Aside0 (watchwordlaw7_LsaForms.j1 kq a2 (wrap64 (1 + (Go.bits .and .i64 a1 1023))) t216 t217 t222 t224 x139_93 2 5 3 x203003_6 x210000_6 x210001_6 x210002_6 x210003_6 = some r) ∧ Aside0 (kq ≤ kj6) ∧ Aside0 (Kd.R k49 49 wc w.heap.size (fun k_ => some k_ ≠ ((.slice Ao97 x210003_6.length co97) : Value).ownBlock) (.slice Ao107 x203003_6.length co107) x203003_6) ∧ Aside0 (Kd.R k49 49 wc w.heap.size (fun k_ => some k_ ≠ ((.slice Ao107 x203003_6.length co107) : Value).ownBlock) (.slice Ao97 x210003_6.length co97) x210003_6) ∧ Aside0 (wc.heap[gb202]? = some (.cells #[.int .i64 2, .int .i64 5, .int .i64 3, (.slice Ao107 x203003_6.length co107)] 24 (0, 0))) ∧ Aside0 (wc.heap[gb209]? = some (.cells #[.int .i64 x210000_6, .int .i64 x210001_6, .int .i64 x210002_6, (.slice Ao97 x210003_6.length co97)] 24 (0, 0))) ∧ Aside0 (wc.heap[gb223]? = some (.cells #[.int .i64 t218, .int .i64 t219, .int .i64 t220, .int .i64 t221] 36 (0, 0))) ∧ Aside0 (Below w.heap.size w wc))
    case first =>
     have H := HC94.out
     clear HC94
     replace H := Option.bind_eq_some_iff.mp H
     obtain ⟨t226, A1090, H⟩ := H
     replace H : (if t226 = 0 then (watchwordlaw7_LsaForms.j1 kj6 a2 (wrap64 (1 + (Go.bits .and .i64 a1 1023))) t216 t217 t222 t224 ((t224.size : Int) != 15) 2 5 3 x203003_6 x210000_6 x210001_6 x210002_6 x210003_6) else (watchwordlaw7_LsaForms.j1 kj6 a2 (wrap64 (1 + (Go.bits .and .i64 a1 1023))) t216 t217 t222 t224 true 2 5 3 x203003_6 x210000_6 x210001_6 x210002_6 x210003_6)) = some r := H
     have A109 := Aside0.mk A1090
     clear A1090
     by_cases c110 : t226 = 0
     ·rw [if_pos c110] at H
      have c110b0 : (t226 == 0) = true := beq_iff_eq.mpr c110
      have c110b1 : (t226 != 0) = false := bne_eq_false_iff_eq.mpr c110
      clear c110
      (first | rw [c110b0] | (simp only [i64_w, i32_w]; rw [c110b0]) | skip)
      have H' := Aside0.mk H
      clear H
      go_wp2_with (first | ((with_reducible refine gate_callee (f := 19) rfl ?_); refine goesL_ (some 133) rfl rfl Try.func19 (by kernel_rfl) rfl #[.int .i64 t225] rfl (by (try simp only [List.map_toArray, List.map_cons, List.map_nil]); first | done | rfl | (simp only [List.length_drop, List.length_take]; rfl)) ?_; (with_reducible refine (watchwordlaw0_Num.calls t225 t226 _ A109.out).mono ?_); rintro e w' ⟨rfl, ⟨nd, rfl⟩⟩; refine ⟨_, rfl, ?_⟩))
      go_meet
      case rel => exact ⟨_, (((t224.size : Int) != 15)), (by first | rfl | (simp; done) | (simp [*]; done)), H', ⟨by have := HJ6.out; first | omega | exact Nat.le_refl _⟩, ⟨upR HO_203003.out⟩, ⟨upR HO_210003.out⟩, ⟨upB BK202.out⟩, ⟨upB BK209.out⟩, ⟨upB BK223.out⟩, ⟨by repeat (first | (with_reducible first | exact HB.out | apply below_alloc | apply pw_below_drewN | apply below_drew1 | refine below_set ?_ GE202.out | refine below_set ?_ GE209.out | refine below_set ?_ GE223.out) | exact HB.out)⟩⟩
     ·rw [if_neg c110] at H
      have c110b0 : (t226 == 0) = false := beq_eq_false_iff_ne.mpr c110
      have c110b1 : (t226 != 0) = true := bne_iff_ne.mpr c110
      (first | rw [c110b0] | (simp only [i64_w, i32_w]; rw [c110b0]) | skip)
      exact absurd H (fun h_ => (by
       have hd_ : ∀ k_, watchwordlaw7_LsaForms.j1 k_ a2 (wrap64 (1 + (Go.bits .and .i64 a1 1023))) t216 t217 t222 t224 true 2 5 3 x203003_6 x210000_6 x210001_6 x210002_6 x210003_6 = some r → False := by
        intro k_ h_
        cases k_ with
        | zero => exact absurd h_ (by simp [watchwordlaw7_LsaForms.j1])
        | succ k_ =>
         simp only [watchwordlaw7_LsaForms.j1, if_true] at h_
         exact absurd (Option.some.inj h_) (by rw [HT.out]; decide)
       exact hd_ _ h_))
    case rest =>
     clear HC94
     try clear c1
     try clear c2
     try clear p2
     try clear c3
     try clear c4
     try clear p4
     try clear q4
     try clear hx4
     try clear qi4
     try clear hf4
     try clear c5
     try clear p5
     try clear q5
     try clear hx5
     try clear qi5
     try clear hf5
     try clear c6
     try clear p6
     try clear q6
     try clear hx6
     try clear qi6
     try clear hf6
     try clear c7
     try clear p7
     try clear q7
     try clear hx7
     try clear qi7
     try clear hf7
     try clear c8
     try clear p8
     try clear q8
     try clear hx8
     try clear qi8
     try clear hf8
     try clear c9
     try clear c10
     try clear c11
     try clear c12
     try clear c13
     try clear c17
     try clear c18
     try clear c19
     try clear c22
     try clear c22b0
     try clear c22b1
     try clear c23
     try clear c24
     try clear c26
     try clear c26b0
     try clear c26b1
     try clear c27
     try clear c30
     try clear c30b0
     try clear c30b1
     try clear c31
     try clear c34
     try clear c34b0
     try clear c34b1
     try clear c35
     try clear c38
     try clear c38b0
     try clear c38b1
     try clear c39
     try clear c42
     try clear c42b0
     try clear c42b1
     try clear c43
     try clear c46
     try clear c46b0
     try clear c46b1
     try clear c47
     try clear c47b0
     try clear c47b1
     try clear c48
     try clear p48
     try clear q48
     try clear hx48
     try clear qi48
     try clear hf48
     try clear c49
     try clear c51
     try clear hx51
     try clear hf51
     try clear c53
     try clear c53b0
     try clear c53b1
     try clear c54
     try clear c54b0
     try clear c54b1
     try clear c55
     try clear p55
     try clear q55
     try clear hx55
     try clear qi55
     try clear hf55
     try clear c56
     try clear c58
     try clear hx58
     try clear hf58
     try clear c60
     try clear c60b0
     try clear c60b1
     try clear c61
     try clear c61b0
     try clear c61b1
     try clear c62
     try clear p62
     try clear q62
     try clear hx62
     try clear qi62
     try clear hf62
     try clear c63
     try clear p64
     try clear c65
     try clear hx65
     try clear hf65
     try clear c67
     try clear c67b0
     try clear c67b1
     try clear c68
     try clear c68b0
     try clear c68b1
     try clear c69
     try clear p69
     try clear q69
     try clear hx69
     try clear qi69
     try clear hf69
     try clear c70
     try clear c72
     try clear hx72
     try clear hf72
     try clear c74
     try clear c74b0
     try clear c74b1
     try clear c75
     try clear c75b0
     try clear c75b1
     try clear c76
     try clear p76
     try clear q76
     try clear hx76
     try clear qi76
     try clear hf76
     try clear c77
     try clear c79
     try clear hx79
     try clear hf79
     try clear c81
     try clear c81b0
     try clear c81b1
     try clear c82
     try clear c82b0
     try clear c82b1
     try clear c83
     try clear p83
     try clear q83
     try clear hx83
     try clear qi83
     try clear hf83
     try clear c84
     try clear c86
     try clear hx86
     try clear hf86
     try clear c88
     try clear c95
     try clear c102
     try clear c103
     try clear c110
     try clear c110b0
     try clear c110b1
     try clear hcz104_0
     try clear hcz104_1
     try clear hcz104_2
     try clear hcz104_3
     try clear hcz106_0
     try clear hcz106_1
     try clear hcz106_2
     try clear hcz106_3
     try clear hcz13_0
     try clear hcz13_1
     try clear hcz13_2
     try clear hcz13_3
     try clear hcz15_0
     try clear hcz15_1
     try clear hcz15_2
     try clear hcz15_3
     try clear hcz19_0
     try clear hcz19_1
     try clear hcz19_2
     try clear hcz19_3
     try clear hcz24_0
     try clear hcz24_1
     try clear hcz24_2
     try clear hcz24_3
     try clear hcz28_0
     try clear hcz28_1
     try clear hcz28_2
     try clear hcz28_3
     try clear hcz32_0
     try clear hcz32_1
     try clear hcz32_2
     try clear hcz32_3
     try clear hcz36_0
     try clear hcz36_1
     try clear hcz36_2
     try clear hcz36_3
     try clear hcz40_0
     try clear hcz40_1
     try clear hcz40_2
     try clear hcz40_3
     try clear hcz44_0
     try clear hcz44_1
     try clear hcz44_2
     try clear hcz44_3
     try clear hcz50_0
     try clear hcz50_1
     try clear hcz50_2
     try clear hcz50_3
     try clear hcz57_0
     try clear hcz57_1
     try clear hcz57_2
     try clear hcz57_3
     try clear hcz64_0
     try clear hcz64_1
     try clear hcz64_2
     try clear hcz64_3
     try clear hcz71_0
     try clear hcz71_1
     try clear hcz71_2
     try clear hcz71_3
     try clear hcz78_0
     try clear hcz78_1
     try clear hcz78_2
     try clear hcz78_3
     try clear hcz85_0
     try clear hcz85_1
     try clear hcz85_2
     try clear hcz85_3
     try clear hcz89_0
     try clear hcz89_1
     try clear hcz89_2
     try clear hcz89_3
     try clear hcz96_0
     try clear hcz96_1
     try clear hcz96_2
     try clear hcz96_3
     try clear hcz99_0
     try clear hcz99_1
     try clear hcz99_2
     try clear hcz99_3
     try clear hfz104_0
     try clear hfz104_1
     try clear hfz104_2
     try clear hfz104_3
     try clear hfz106_0
     try clear hfz106_1
     try clear hfz106_2
     try clear hfz106_3
     try clear hfz13_0
     try clear hfz13_1
     try clear hfz13_2
     try clear hfz13_3
     try clear hfz15_0
     try clear hfz15_1
     try clear hfz15_2
     try clear hfz15_3
     try clear hfz19_0
     try clear hfz19_1
     try clear hfz19_2
     try clear hfz19_3
     try clear hfz24_0
     try clear hfz24_1
     try clear hfz24_2
     try clear hfz24_3
     try clear hfz28_0
     try clear hfz28_1
     try clear hfz28_2
     try clear hfz28_3
     try clear hfz32_0
     try clear hfz32_1
     try clear hfz32_2
     try clear hfz32_3
     try clear hfz36_0
     try clear hfz36_1
     try clear hfz36_2
     try clear hfz36_3
     try clear hfz40_0
     try clear hfz40_1
     try clear hfz40_2
     try clear hfz40_3
     try clear hfz44_0
     try clear hfz44_1
     try clear hfz44_2
     try clear hfz44_3
     try clear hfz50_0
     try clear hfz50_1
     try clear hfz50_2
     try clear hfz50_3
     try clear hfz57_0
     try clear hfz57_1
     try clear hfz57_2
     try clear hfz57_3
     try clear hfz64_0
     try clear hfz64_1
     try clear hfz64_2
     try clear hfz64_3
     try clear hfz71_0
     try clear hfz71_1
     try clear hfz71_2
     try clear hfz71_3
     try clear hfz78_0
     try clear hfz78_1
     try clear hfz78_2
     try clear hfz78_3
     try clear hfz85_0
     try clear hfz85_1
     try clear hfz85_2
     try clear hfz85_3
     try clear hfz89_0
     try clear hfz89_1
     try clear hfz89_2
     try clear hfz89_3
     try clear hfz96_0
     try clear hfz96_1
     try clear hfz96_2
     try clear hfz96_3
     try clear hfz99_0
     try clear hfz99_1
     try clear hfz99_2
     try clear hfz99_3
     try clear hx48_0
     try clear hx48_1
     try clear hx51_0
     try clear hx55_0
     try clear hx55_1
     try clear hx58_0
     try clear hx62_0
     try clear hx62_1
     try clear hx65_0
     try clear hx69_0
     try clear hx69_1
     try clear hx72_0
     try clear hx76_0
     try clear hx76_1
     try clear hx79_1
     try clear hx83_0
     try clear hx83_1
     try clear hx86_1
     try clear p2
     try clear p4
     try clear p48
     try clear p5
     try clear p55
     try clear p6
     try clear p62
     try clear p64
     try clear p69
     try clear p7
     try clear p76
     try clear p8
     try clear p83
     try clear q4
     try clear q48
     try clear q5
     try clear q55
     try clear q6
     try clear q62
     try clear q69
     try clear q7
     try clear q76
     try clear q8
     try clear q83
     obtain ⟨kq, x139_93, rfl, HA, HJ93, HO_203003, HO_210003, BK202, BK209, BK223, HB⟩ := hcut
     cases kq with
     | zero => exact absurd HA.out (by simp [watchwordlaw7_LsaForms.j1])
     | succ kj93 =>
      have H := HA.out
      clear HA
      simp only [watchwordlaw7_LsaForms.j1] at H
      by_cases c111 : x139_93 = true
      ·subst c111
       have H1 : (some false) = some r := by rw [if_pos rfl] at H; exact H
       clear H
       have H := H1
       clear H1
       exact absurd (Option.some.inj H) (by rw [HT.out]; decide)
      ·replace c111 := Bool.eq_false_iff.mpr c111
       subst c111
       have H1 : (if t224.size = 15 then ((lsa_Get.f kj93 (a2 t224) 0).bind fun bt227 => (if 0 ≤ 14 then (if 14 ≤ (t224.size : Int) then ((lsa_Get.f kj93 (t224.extract 0 14) 0).bind fun bt236 => ((lsa_Get.f kj93 t224 (wrap64 (-(wrap64 (1 + (Go.bits .and .i64 a1 1023)))))).bind fun bt245 => ((lsa_Get.f kj93 t224 (wrap64 (15 + (wrap64 (1 + (Go.bits .and .i64 a1 1023)))))).bind fun bt254 => ((lsa_May.f kj93 x210000_6 x210001_6 x210002_6 x210003_6).bind fun t263 => (if t263 = true then (some false) else ((lsa_May.f kj93 2 5 3 x203003_6).bind fun t264 => (if t264 = true then (if t216.toList = ([] : List UInt8) then ((watchwordlaw0_Num.f t217).bind fun t265 => (if t265 = 700 then ((watchwordlaw0_Num.f t222).bind fun t266 => (if t266 = 700 then ((watchwordlaw0_Num.f bt227.2.2.2.2.2).bind fun t267 => (if t267 = 700 then ((watchwordlaw0_Num.f bt236.2.2.2.2.2).bind fun t268 => (if t268 = 700 then ((watchwordlaw0_Num.f bt245.2.2.2.2.2).bind fun t269 => (if t269 = 700 then ((watchwordlaw0_Num.f bt254.2.2.2.2.2).bind fun t270 => (some (t270 == 700))) else (some false))) else (some false))) else (some false))) else (some false))) else (some false))) else (some false)) else (some false)))))))) else (none)) else (none))) else none) = some r := by rw [if_neg (show ¬ (false = true) by decide)] at H; exact H
       clear H
       have H := H1
       clear H1
       have hs15 : t224.size = 15 := by
        by_cases hne : t224.size = 15
        · exact hne
        · rw [if_neg hne] at H; exact absurd H (by simp)
       rw [if_pos hs15] at H
       replace H := Option.bind_eq_some_iff.mp H
       obtain ⟨⟨t227, t228, t229, t230, t233, t234⟩, A1120, H⟩ := H
       replace H : (if 0 ≤ 14 then (if 14 ≤ (t224.size : Int) then ((lsa_Get.f kj93 (t224.extract 0 14) 0).bind fun bt236 => ((lsa_Get.f kj93 t224 (wrap64 (-(wrap64 (1 + (Go.bits .and .i64 a1 1023)))))).bind fun bt245 => ((lsa_Get.f kj93 t224 (wrap64 (15 + (wrap64 (1 + (Go.bits .and .i64 a1 1023)))))).bind fun bt254 => ((lsa_May.f kj93 x210000_6 x210001_6 x210002_6 x210003_6).bind fun t263 => (if t263 = true then (some false) else ((lsa_May.f kj93 2 5 3 x203003_6).bind fun t264 => (if t264 = true then (if t216.toList = ([] : List UInt8) then ((watchwordlaw0_Num.f t217).bind fun t265 => (if t265 = 700 then ((watchwordlaw0_Num.f t222).bind fun t266 => (if t266 = 700 then ((watchwordlaw0_Num.f t234).bind fun t267 => (if t267 = 700 then ((watchwordlaw0_Num.f bt236.2.2.2.2.2).bind fun t268 => (if t268 = 700 then ((watchwordlaw0_Num.f bt245.2.2.2.2.2).bind fun t269 => (if t269 = 700 then ((watchwordlaw0_Num.f bt254.2.2.2.2.2).bind fun t270 => (some (t270 == 700))) else (some false))) else (some false))) else (some false))) else (some false))) else (some false))) else (some false)) else (some false)))))))) else (none)) else (none)) = some r := H
       have A112 := Aside0.mk A1120
       clear A1120
       by_cases c113 : 0 ≤ 14
       ·rw [if_pos c113] at H
        have c113b0 := eq_true c113
        have c113b1 : decide (0 ≤ 14) = true := decide_eq_true c113
        clear c113
        by_cases c114 : 14 ≤ (t224.size : Int)
        ·rw [if_pos c114] at H
         have c114p : 14 ≤ t224.size := by omega
         have c114b0 := eq_true c114
         have c114b1 : decide (14 ≤ (t224.size : Int)) = true := decide_eq_true c114
         clear c114
         replace H := Option.bind_eq_some_iff.mp H
         obtain ⟨⟨t236, t237, t238, t239, t242, t243⟩, A1150, H⟩ := H
         replace H : ((lsa_Get.f kj93 t224 (wrap64 (-(wrap64 (1 + (Go.bits .and .i64 a1 1023)))))).bind fun bt245 => ((lsa_Get.f kj93 t224 (wrap64 (15 + (wrap64 (1 + (Go.bits .and .i64 a1 1023)))))).bind fun bt254 => ((lsa_May.f kj93 x210000_6 x210001_6 x210002_6 x210003_6).bind fun t263 => (if t263 = true then (some false) else ((lsa_May.f kj93 2 5 3 x203003_6).bind fun t264 => (if t264 = true then (if t216.toList = ([] : List UInt8) then ((watchwordlaw0_Num.f t217).bind fun t265 => (if t265 = 700 then ((watchwordlaw0_Num.f t222).bind fun t266 => (if t266 = 700 then ((watchwordlaw0_Num.f t234).bind fun t267 => (if t267 = 700 then ((watchwordlaw0_Num.f t243).bind fun t268 => (if t268 = 700 then ((watchwordlaw0_Num.f bt245.2.2.2.2.2).bind fun t269 => (if t269 = 700 then ((watchwordlaw0_Num.f bt254.2.2.2.2.2).bind fun t270 => (some (t270 == 700))) else (some false))) else (some false))) else (some false))) else (some false))) else (some false))) else (some false)) else (some false))))))) = some r := H
         have A115 := Aside0.mk A1150
         clear A1150
         replace H := Option.bind_eq_some_iff.mp H
         obtain ⟨⟨t245, t246, t247, t248, t251, t252⟩, A1160, H⟩ := H
         replace H : ((lsa_Get.f kj93 t224 (wrap64 (15 + (wrap64 (1 + (Go.bits .and .i64 a1 1023)))))).bind fun bt254 => ((lsa_May.f kj93 x210000_6 x210001_6 x210002_6 x210003_6).bind fun t263 => (if t263 = true then (some false) else ((lsa_May.f kj93 2 5 3 x203003_6).bind fun t264 => (if t264 = true then (if t216.toList = ([] : List UInt8) then ((watchwordlaw0_Num.f t217).bind fun t265 => (if t265 = 700 then ((watchwordlaw0_Num.f t222).bind fun t266 => (if t266 = 700 then ((watchwordlaw0_Num.f t234).bind fun t267 => (if t267 = 700 then ((watchwordlaw0_Num.f t243).bind fun t268 => (if t268 = 700 then ((watchwordlaw0_Num.f t252).bind fun t269 => (if t269 = 700 then ((watchwordlaw0_Num.f bt254.2.2.2.2.2).bind fun t270 => (some (t270 == 700))) else (some false))) else (some false))) else (some false))) else (some false))) else (some false))) else (some false)) else (some false)))))) = some r := H
         have A116 := Aside0.mk A1160
         clear A1160
         replace H := Option.bind_eq_some_iff.mp H
         obtain ⟨⟨t254, t255, t256, t257, t260, t261⟩, A1170, H⟩ := H
         replace H : ((lsa_May.f kj93 x210000_6 x210001_6 x210002_6 x210003_6).bind fun t263 => (if t263 = true then (some false) else ((lsa_May.f kj93 2 5 3 x203003_6).bind fun t264 => (if t264 = true then (if t216.toList = ([] : List UInt8) then ((watchwordlaw0_Num.f t217).bind fun t265 => (if t265 = 700 then ((watchwordlaw0_Num.f t222).bind fun t266 => (if t266 = 700 then ((watchwordlaw0_Num.f t234).bind fun t267 => (if t267 = 700 then ((watchwordlaw0_Num.f t243).bind fun t268 => (if t268 = 700 then ((watchwordlaw0_Num.f t252).bind fun t269 => (if t269 = 700 then ((watchwordlaw0_Num.f t261).bind fun t270 => (some (t270 == 700))) else (some false))) else (some false))) else (some false))) else (some false))) else (some false))) else (some false)) else (some false))))) = some r := H
         have A117 := Aside0.mk A1170
         clear A1170
         replace H := Option.bind_eq_some_iff.mp H
         obtain ⟨t263, A1180, H⟩ := H
         replace H : (if t263 = true then (some false) else ((lsa_May.f kj93 2 5 3 x203003_6).bind fun t264 => (if t264 = true then (if t216.toList = ([] : List UInt8) then ((watchwordlaw0_Num.f t217).bind fun t265 => (if t265 = 700 then ((watchwordlaw0_Num.f t222).bind fun t266 => (if t266 = 700 then ((watchwordlaw0_Num.f t234).bind fun t267 => (if t267 = 700 then ((watchwordlaw0_Num.f t243).bind fun t268 => (if t268 = 700 then ((watchwordlaw0_Num.f t252).bind fun t269 => (if t269 = 700 then ((watchwordlaw0_Num.f t261).bind fun t270 => (some (t270 == 700))) else (some false))) else (some false))) else (some false))) else (some false))) else (some false))) else (some false)) else (some false)))) = some r := H
         have A118 := Aside0.mk A1180
         clear A1180
         by_cases c119 : t263 = true
         ·subst c119
          have H1 : (some false) = some r := by rw [if_pos rfl] at H; exact H
          clear H
          have H := H1
          clear H1
          exact absurd (Option.some.inj H) (by rw [HT.out]; decide)
         ·replace c119 := Bool.eq_false_iff.mpr c119
          subst c119
          have H1 : ((lsa_May.f kj93 2 5 3 x203003_6).bind fun t264 => (if t264 = true then (if t216.toList = ([] : List UInt8) then ((watchwordlaw0_Num.f t217).bind fun t265 => (if t265 = 700 then ((watchwordlaw0_Num.f t222).bind fun t266 => (if t266 = 700 then ((watchwordlaw0_Num.f t234).bind fun t267 => (if t267 = 700 then ((watchwordlaw0_Num.f t243).bind fun t268 => (if t268 = 700 then ((watchwordlaw0_Num.f t252).bind fun t269 => (if t269 = 700 then ((watchwordlaw0_Num.f t261).bind fun t270 => (some (t270 == 700))) else (some false))) else (some false))) else (some false))) else (some false))) else (some false))) else (some false)) else (some false))) = some r := by rw [if_neg (show ¬ (false = true) by decide)] at H; exact H
          clear H
          have H := H1
          clear H1
          replace H := Option.bind_eq_some_iff.mp H
          obtain ⟨t264, A1200, H⟩ := H
          replace H : (if t264 = true then (if t216.toList = ([] : List UInt8) then ((watchwordlaw0_Num.f t217).bind fun t265 => (if t265 = 700 then ((watchwordlaw0_Num.f t222).bind fun t266 => (if t266 = 700 then ((watchwordlaw0_Num.f t234).bind fun t267 => (if t267 = 700 then ((watchwordlaw0_Num.f t243).bind fun t268 => (if t268 = 700 then ((watchwordlaw0_Num.f t252).bind fun t269 => (if t269 = 700 then ((watchwordlaw0_Num.f t261).bind fun t270 => (some (t270 == 700))) else (some false))) else (some false))) else (some false))) else (some false))) else (some false))) else (some false)) else (some false)) = some r := H
          have A120 := Aside0.mk A1200
          clear A1200
          by_cases c121 : t264 = true
          ·subst c121
           have H1 : (if t216.toList = ([] : List UInt8) then ((watchwordlaw0_Num.f t217).bind fun t265 => (if t265 = 700 then ((watchwordlaw0_Num.f t222).bind fun t266 => (if t266 = 700 then ((watchwordlaw0_Num.f t234).bind fun t267 => (if t267 = 700 then ((watchwordlaw0_Num.f t243).bind fun t268 => (if t268 = 700 then ((watchwordlaw0_Num.f t252).bind fun t269 => (if t269 = 700 then ((watchwordlaw0_Num.f t261).bind fun t270 => (some (t270 == 700))) else (some false))) else (some false))) else (some false))) else (some false))) else (some false))) else (some false)) = some r := by rw [if_pos rfl] at H; exact H
           clear H
           have H := H1
           clear H1
           by_cases c122 : t216.toList = ([] : List UInt8)
           ·rw [if_pos c122] at H
            have c122b0 : (t216.toList == ([] : List UInt8)) = true := beq_iff_eq.mpr c122
            have c122b1 : (t216.toList != ([] : List UInt8)) = false := bne_eq_false_iff_eq.mpr c122
            clear c122
            replace H := Option.bind_eq_some_iff.mp H
            obtain ⟨t265, A1230, H⟩ := H
            replace H : (if t265 = 700 then ((watchwordlaw0_Num.f t222).bind fun t266 => (if t266 = 700 then ((watchwordlaw0_Num.f t234).bind fun t267 => (if t267 = 700 then ((watchwordlaw0_Num.f t243).bind fun t268 => (if t268 = 700 then ((watchwordlaw0_Num.f t252).bind fun t269 => (if t269 = 700 then ((watchwordlaw0_Num.f t261).bind fun t270 => (some (t270 == 700))) else (some false))) else (some false))) else (some false))) else (some false))) else (some false)) = some r := H
            have A123 := Aside0.mk A1230
            clear A1230
            by_cases c124 : t265 = 700
            ·rw [if_pos c124] at H
             have c124b0 : (t265 == 700) = true := beq_iff_eq.mpr c124
             have c124b1 : (t265 != 700) = false := bne_eq_false_iff_eq.mpr c124
             clear c124
             replace H := Option.bind_eq_some_iff.mp H
             obtain ⟨t266, A1250, H⟩ := H
             replace H : (if t266 = 700 then ((watchwordlaw0_Num.f t234).bind fun t267 => (if t267 = 700 then ((watchwordlaw0_Num.f t243).bind fun t268 => (if t268 = 700 then ((watchwordlaw0_Num.f t252).bind fun t269 => (if t269 = 700 then ((watchwordlaw0_Num.f t261).bind fun t270 => (some (t270 == 700))) else (some false))) else (some false))) else (some false))) else (some false)) = some r := H
             have A125 := Aside0.mk A1250
             clear A1250
             by_cases c126 : t266 = 700
             ·rw [if_pos c126] at H
              have c126b0 : (t266 == 700) = true := beq_iff_eq.mpr c126
              have c126b1 : (t266 != 700) = false := bne_eq_false_iff_eq.mpr c126
              clear c126
              replace H := Option.bind_eq_some_iff.mp H
              obtain ⟨t267, A1270, H⟩ := H
              replace H : (if t267 = 700 then ((watchwordlaw0_Num.f t243).bind fun t268 => (if t268 = 700 then ((watchwordlaw0_Num.f t252).bind fun t269 => (if t269 = 700 then ((watchwordlaw0_Num.f t261).bind fun t270 => (some (t270 == 700))) else (some false))) else (some false))) else (some false)) = some r := H
              have A127 := Aside0.mk A1270
              clear A1270
              by_cases c128 : t267 = 700
              ·rw [if_pos c128] at H
               have c128b0 : (t267 == 700) = true := beq_iff_eq.mpr c128
               have c128b1 : (t267 != 700) = false := bne_eq_false_iff_eq.mpr c128
               clear c128
               replace H := Option.bind_eq_some_iff.mp H
               obtain ⟨t268, A1290, H⟩ := H
               replace H : (if t268 = 700 then ((watchwordlaw0_Num.f t252).bind fun t269 => (if t269 = 700 then ((watchwordlaw0_Num.f t261).bind fun t270 => (some (t270 == 700))) else (some false))) else (some false)) = some r := H
               have A129 := Aside0.mk A1290
               clear A1290
               by_cases c130 : t268 = 700
               ·rw [if_pos c130] at H
                have c130b0 : (t268 == 700) = true := beq_iff_eq.mpr c130
                have c130b1 : (t268 != 700) = false := bne_eq_false_iff_eq.mpr c130
                clear c130
                replace H := Option.bind_eq_some_iff.mp H
                obtain ⟨t269, A1310, H⟩ := H
                replace H : (if t269 = 700 then ((watchwordlaw0_Num.f t261).bind fun t270 => (some (t270 == 700))) else (some false)) = some r := H
                have A131 := Aside0.mk A1310
                clear A1310
                by_cases c132 : t269 = 700
                ·rw [if_pos c132] at H
                 have c132b0 : (t269 == 700) = true := beq_iff_eq.mpr c132
                 have c132b1 : (t269 != 700) = false := bne_eq_false_iff_eq.mpr c132
                 clear c132
                 replace H := Option.bind_eq_some_iff.mp H
                 obtain ⟨t270, A1330, H⟩ := H
                 replace H : (some (t270 == 700)) = some r := H
                 have A133 := Aside0.mk A1330
                 clear A1330
                 obtain rfl := Option.some.inj H
                 have kb := fun W => print_bytes (P := Try.prog) 9 50 5 Try.underlying9 Try.underlying50 Try.underlying5 t224 W
                 go_upto_region 38 with fail
                 clear kb
                 obtain ⟨gU, hgU⟩ : ∃ g, g = wc.heap.size := ⟨_, rfl⟩
                 have hbW : Below wc.heap.size wc (Lib.bytesWorld wc 5 t224) := bytes_below (Below.refl _ _) (Nat.le_refl _) 5 t224
                 have n5_ : Aside0 (∀ j, j < t224.size → (Lib.bytesWorld wc 5 t224).cell? ⟨gU, j, none⟩ = some (.int .u8 (bt t224 (j : Int)))) := ⟨fun j hj => by
                   rw [hgU, Lib.bytesWorld_cell wc 5 t224 j hj]
                   have h' : j < t224.data.toList.length := by rw [data_length]; exact hj
                   simp only [bt, Int.toNat_natCast, List.getD_eq_getElem?_getD, List.getElem?_eq_getElem h', Option.getD_some, dif_pos hj]
                   rfl⟩
                 have n6_ : Aside0 (∀ j, j < t224.size → (Lib.bytesWorld wc 5 t224).frozen? ⟨gU, j, none⟩ = false) := ⟨fun j hj => by
                   have hsz : t224.size ≤ (Lib.bytesCells wc 5 t224).size := by simp [Lib.bytesCells]
                   rw [hgU]
                   simp only [World.frozen?, Lib.bytesWorld_at_new]
                   simp; omega⟩
                 have n7_ : wc.heap.size ≤ gU := Nat.le_of_eq hgU.symm
                 rw [← hgU]
                 generalize Lib.bytesWorld wc 5 t224 = wB at n5_ n6_ hbW ⊢
                 clear hgU
                 go_upto_region 39 with fail
                 have hiN : wrap64 (1 + wrap64 (Int.tmod (IntKind.u64.wrap a0) 14)) = ((idxB a0 : Nat) : Int) := idxB_eq a0
                 rw [hiN]
                 have hi1 := idxB_pos a0
                 have hi2 := idxB_lt a0
                 generalize hiE : idxB a0 = iN at hi1 hi2 hiN ⊢
                 have hcI := n5_.out iN (by omega)
                 have hfI := n6_.out iN (by omega)
                 go_upto_region 40 with fail
                 have kst : ∀ c, (convert 50 9 (.slice (some ⟨gU, 0, none⟩) 15 c)).run Try.prog (wB.setCell ⟨gU, iN, none⟩ (.int .u8 (Go.bits .xor .u8 (bt t224 (iN : Int)) (wrap64 (1 + Go.bits .and .i64 a1 127) % 256)))) = .ok (.string (a2 t224)) (wB.setCell ⟨gU, iN, none⟩ (.int .u8 (Go.bits .xor .u8 (bt t224 (iN : Int)) (wrap64 (1 + Go.bits .and .i64 a1 127) % 256)))) := fun c => by
                   rw [ha2]
                   unfold alterB
                   rw [hiE]
                   refine string_of_reads Try.underlying50 Try.underlying5 Try.underlying9 ⟨by rw [List.length_set, bytesOf_length]; exact hs15, by omega, fun _ => ⟨_, rfl, fun j hj => ?_⟩⟩
                   rw [add_plain]
                   have hbj : (bytesOf t224).getD j 0 = bt t224 (j : Int) := by
                     have h' : j < t224.data.toList.length := by rw [data_length]; omega
                     have h2 : j < t224.size := by omega
                     simp only [bytesOf, bt, Int.toNat_natCast, List.getD_eq_getElem?_getD, List.getElem?_map, List.getElem?_eq_getElem h', Option.map_some, Option.getD_some, dif_pos h2]
                     rfl
                   by_cases hji : iN = j
                   · subst hji
                     rw [World.cell?_setCell_same' _ _ _ (by rw [hcI]; rfl), List.getD_eq_getElem?_getD, List.getElem?_set_self (by rw [bytesOf_length]; omega)]
                     rfl
                   · rw [World.cell?_setCell_other _ _ _ _ (fun e => hji (by injection e)), n5_.out j (by omega), List.getD_eq_getElem?_getD, List.getElem?_set_ne hji, ← List.getD_eq_getElem?_getD, hbj]
                 have hb1 : Below wc.heap.size wc (wB.setCell ⟨gU, iN, none⟩ (.int .u8 (Go.bits .xor .u8 (bt t224 (iN : Int)) (wrap64 (1 + Go.bits .and .i64 a1 127) % 256)))) := below_set hbW n7_
                 have n0_ := Aside0.mk (Kd.R_below HO_203003.out hb1)
                 have n1_ := Aside0.mk (Kd.R_below HO_210003.out hb1)
                 have n2_ := Aside0.mk (blk_below BK202.out hb1)
                 have n3_ := Aside0.mk (blk_below BK209.out hb1)
                 have n9_ := Aside0.mk (blk_below BK223.out hb1)
                 have n4_ := Aside0.mk (below_step HB.out hb1)
                 generalize (wB.setCell ⟨gU, iN, none⟩ (.int .u8 (Go.bits .xor .u8 (bt t224 (iN : Int)) (wrap64 (1 + Go.bits .and .i64 a1 127) % 256)))) = wq at n0_ n1_ n2_ n3_ n4_ n9_ kst ⊢
                 clear hb1 hbW HO_203003 HO_210003 BK202 BK209 BK223 HB hcI hfI n5_ n6_ n7_
                 have HO_203003 := n0_
                 have HO_210003 := n1_
                 have BK202 := n2_
                 have BK209 := n3_
                 have BK223 := n9_
                 have HB := n4_
                 clear n0_ n1_ n2_ n3_ n4_ n9_ ha2
                 go_wp2_with (first | ((with_reducible refine gate_callee (f := 15) rfl ?_); refine goesL_ (some 162) rfl rfl Try.func15 (by kernel_rfl) rfl #[.string (a2 t224), .int .i64 0] rfl (by (try simp only [List.map_toArray, List.map_cons, List.map_nil]); first | done | rfl | (simp only [List.length_drop, List.length_take]; rfl)) ?_; (with_reducible refine (lsa_Get.calls kj93 (a2 t224) 0 t227 t228 t229 t230 t233 t234 _ A112.out).mono ?_); rintro e w134 ⟨v231, rfl, ho0, hb⟩; refine ⟨_, rfl, ?_⟩; have n0_ := Aside0.mk (Kd.R_elder' (upR HO_203003.out) (Kd.R_base ho0) hb); have n1_ := Aside0.mk (Kd.R_elder' (upR HO_210003.out) (Kd.R_base ho0) hb); have n2_ := Aside0.mk (Kd.R_lower (Kd.R_new' (Kd.R_new' ho0 (Kd.R_lt (upR HO_203003.out))) (Kd.R_lt (upR HO_210003.out))) (below_size (by repeat (first | (with_reducible first | exact HB.out | apply below_alloc | apply pw_below_drewN | apply below_drew1 | refine below_set ?_ GE202.out | refine below_set ?_ GE209.out | refine below_set ?_ GE223.out) | exact HB.out)))); have n3_ := Aside0.mk (blk_below (upB BK202.out) hb); have n4_ := Aside0.mk (blk_below (upB BK209.out) hb); have n5_ := Aside0.mk (blk_below (upB BK223.out) hb); have n6_ := Aside0.mk (below_step (by repeat (first | (with_reducible first | exact HB.out | apply below_alloc | apply pw_below_drewN | apply below_drew1 | refine below_set ?_ GE202.out | refine below_set ?_ GE209.out | refine below_set ?_ GE223.out) | exact HB.out)) hb); clear HO_203003; clear HO_210003; clear BK202; clear BK209; clear BK223; clear HB; have HO_203003 := n0_; have HO_210003 := n1_; have HO232 := n2_; have BK202 := n3_; have BK209 := n4_; have BK223 := n5_; have HB := n6_; clear n0_ n1_ n2_ n3_ n4_ n5_ n6_; (try clear hb); (try clear hb2); (try clear hk); (try clear hi); (try clear ho0)) | ((with_reducible refine gate_dst (N := 16) rfl ?_); (try (refine gate_guard (by rfl) ?_; dsimp only)); refine box_event ?hg (N := 16) ?hd (cs := #[.int .i64 0, .int .i64 0, .int .i64 0, .slice none 0 0]) (t := 24) ?hr ?_; (case hd => rfl); (case hg => rfl); (case hr => first | (go_simp; done) | (go_simp; rfl)); intro gb235 hg w135 hbox hb; have n0_ := Aside0.mk (Kd.R_below (upR HO_203003.out) hb); have n1_ := Aside0.mk (Kd.R_below (upR HO_210003.out) hb); have n2_ := Aside0.mk (Kd.R_below (upR HO232.out) hb); have n3_ := Aside0.mk (blk_below (upB BK202.out) hb); have n4_ := Aside0.mk (blk_below (upB BK209.out) hb); have n5_ := Aside0.mk (blk_below (upB BK223.out) hb); have n6_ := Aside0.mk (below_step (by repeat (first | (with_reducible first | exact HB.out | apply below_alloc | apply pw_below_drewN | apply below_drew1 | refine below_set ?_ GE202.out | refine below_set ?_ GE209.out | refine below_set ?_ GE223.out) | exact HB.out)) hb); have n7_ := Aside0.mk (hbox); have n8_ := Aside0.mk ((by rw [hg]; exact (below_size (by repeat (first | (with_reducible first | exact HB.out | apply below_alloc | apply pw_below_drewN | apply below_drew1 | refine below_set ?_ GE202.out | refine below_set ?_ GE209.out | refine below_set ?_ GE223.out) | exact HB.out))) : w.heap.size ≤ gb235)); have n9_ := Aside0.mk ((by rw [hg]; exact (below_size (by repeat (first | (with_reducible first | exact HB.out | apply below_alloc | apply pw_below_drewN | apply below_drew1 | refine below_set ?_ GE202.out | refine below_set ?_ GE209.out | refine below_set ?_ GE223.out) | exact HB.out))) : w.heap.size ≤ gb235)); have n10_ := Aside0.mk ((by rw [hg]; exact Nat.ne_of_lt (blk_lt (g := gb202) (o := .cells #[.int .i64 2, .int .i64 5, .int .i64 3, .slice Ao107 x203003_6.length co107] 24 (0, 0)) (upB BK202.out)) : gb202 ≠ gb235)); have n11_ := Aside0.mk ((by rw [hg]; exact Nat.ne_of_gt (blk_lt (g := gb202) (o := .cells #[.int .i64 2, .int .i64 5, .int .i64 3, .slice Ao107 x203003_6.length co107] 24 (0, 0)) (upB BK202.out)) : gb235 ≠ gb202)); have n12_ := Aside0.mk ((by rw [hg]; exact Nat.ne_of_lt (blk_lt (g := gb209) (o := .cells #[.int .i64 x210000_6, .int .i64 x210001_6, .int .i64 x210002_6, .slice Ao97 x210003_6.length co97] 24 (0, 0)) (upB BK209.out)) : gb209 ≠ gb235)); have n13_ := Aside0.mk ((by rw [hg]; exact Nat.ne_of_gt (blk_lt (g := gb209) (o := .cells #[.int .i64 x210000_6, .int .i64 x210001_6, .int .i64 x210002_6, .slice Ao97 x210003_6.length co97] 24 (0, 0)) (upB BK209.out)) : gb235 ≠ gb209)); have n14_ := Aside0.mk ((by rw [hg]; exact Nat.ne_of_lt (blk_lt (g := gb223) (o := .cells #[.int .i64 t218, .int .i64 t219, .int .i64 t220, .int .i64 t221] 36 (0, 0)) (upB BK223.out)) : gb223 ≠ gb235)); have n15_ := Aside0.mk ((by rw [hg]; exact Nat.ne_of_gt (blk_lt (g := gb223) (o := .cells #[.int .i64 t218, .int .i64 t219, .int .i64 t220, .int .i64 t221] 36 (0, 0)) (upB BK223.out)) : gb235 ≠ gb223)); clear HO_203003; clear HO_210003; clear HO232; clear BK202; clear BK209; clear BK223; clear HB; have HO_203003 := n0_; have HO_210003 := n1_; have HO232 := n2_; have BK202 := n3_; have BK209 := n4_; have BK223 := n5_; have HB := n6_; have BK235 := n7_; have GW235 := n8_; have GE235 := n9_; have NB202_235 := n10_; have NB235_202 := n11_; have NB209_235 := n12_; have NB235_209 := n13_; have NB223_235 := n14_; have NB235_223 := n15_; clear n0_ n1_ n2_ n3_ n4_ n5_ n6_ n7_ n8_ n9_ n10_ n11_ n12_ n13_ n14_ n15_; clear hb hbox hg; have hnb136 := NB235_202.out; have hnc136 := NB202_235.out; have hnb137 := NB235_209.out; have hnc137 := NB209_235.out; have hnb138 := NB235_223.out; have hnc138 := NB223_235.out; have hcz139_0 : w135.cell? ⟨gb235, 0, none⟩ = some (.int .i64 0) := (blk_cell BK235.out 0).trans rfl; have hcz139_1 : w135.cell? ⟨gb235, 1, none⟩ = some (.int .i64 0) := (blk_cell BK235.out 1).trans rfl; have hcz139_2 : w135.cell? ⟨gb235, 2, none⟩ = some (.int .i64 0) := (blk_cell BK235.out 2).trans rfl; have hcz139_3 : w135.cell? ⟨gb235, 3, none⟩ = some (.slice none 0 0) := (blk_cell BK235.out 3).trans rfl; have hfz139_0 := blk_frozen BK235.out 0; have hfz139_1 := blk_frozen BK235.out 1; have hfz139_2 := blk_frozen BK235.out 2; have hfz139_3 := blk_frozen BK235.out 3; obtain ⟨Ao140, co140, eo140⟩ := Kd.R_slice HO232.out; subst eo140) | ((with_reducible refine gate_store (t := 24) (p := 16) rfl ?_); refine store_event (t := 24) (p := 16) (v := ?vo_w141) (w1 := ((((w135.setCell ⟨gb235, 0, none⟩ (.int .i64 t227)).setCell ⟨gb235, 1, none⟩ (.int .i64 t228)).setCell ⟨gb235, 2, none⟩ (.int .i64 t229)).setCell ⟨gb235, 3, none⟩ (.slice Ao140 t230.length co140))) ?hg ?ho ?hn ?hr ?_; (case ho => rfl); (case hg => rfl); (case hn => rfl); (case hr => first | (go_simp; done) | (go_simp; rfl)); intro w141 hw; have n0_ : Aside0 (Kd.R k49 49 w141 w.heap.size (fun k_ => some k_ ≠ (.slice Ao97 x210003_6.length co97 : Value).ownBlock ∧ some k_ ≠ (.slice Ao140 t230.length co140 : Value).ownBlock) (.slice Ao107 x203003_6.length co107) x203003_6) := ⟨(by rw [hw]; exact (by (with_reducible repeat (first | apply Kd.R_alloc | apply Kd.R_drewN | apply Kd.R_drew)); exact Kd.R_mono (Kd.R_far (p := ⟨gb235, 3, none⟩) (Kd.R_far (p := ⟨gb235, 2, none⟩) (Kd.R_far (p := ⟨gb235, 1, none⟩) (Kd.R_far (p := ⟨gb235, 0, none⟩) (Kd.R_types HO_203003.out BK235.out (by decide)) (fun _ hk => hk.2) (.int .i64 t227)) (fun _ hk => hk.2) (.int .i64 t228)) (fun _ hk => hk.2) (.int .i64 t229)) (fun _ hk => hk.2) (.slice Ao140 t230.length co140)) (fun _ hk => ⟨hk.1.1, hk.1.2⟩)))⟩; have n1_ : Aside0 (Kd.R k49 49 w141 w.heap.size (fun k_ => some k_ ≠ (.slice Ao107 x203003_6.length co107 : Value).ownBlock ∧ some k_ ≠ (.slice Ao140 t230.length co140 : Value).ownBlock) (.slice Ao97 x210003_6.length co97) x210003_6) := ⟨(by rw [hw]; exact (by (with_reducible repeat (first | apply Kd.R_alloc | apply Kd.R_drewN | apply Kd.R_drew)); exact Kd.R_mono (Kd.R_far (p := ⟨gb235, 3, none⟩) (Kd.R_far (p := ⟨gb235, 2, none⟩) (Kd.R_far (p := ⟨gb235, 1, none⟩) (Kd.R_far (p := ⟨gb235, 0, none⟩) (Kd.R_types HO_210003.out BK235.out (by decide)) (fun _ hk => hk.2) (.int .i64 t227)) (fun _ hk => hk.2) (.int .i64 t228)) (fun _ hk => hk.2) (.int .i64 t229)) (fun _ hk => hk.2) (.slice Ao140 t230.length co140)) (fun _ hk => ⟨hk.1.1, hk.1.2⟩)))⟩; have n2_ : Aside0 (Kd.R k49 49 w141 w.heap.size (fun k_ => some k_ ≠ (.slice Ao107 x203003_6.length co107 : Value).ownBlock ∧ some k_ ≠ (.slice Ao97 x210003_6.length co97 : Value).ownBlock) (.slice Ao140 t230.length co140) t230) := ⟨(by rw [hw]; exact (by (with_reducible repeat (first | apply Kd.R_alloc | apply Kd.R_drewN | apply Kd.R_drew)); exact Kd.R_mono (Kd.R_far (p := ⟨gb235, 3, none⟩) (Kd.R_far (p := ⟨gb235, 2, none⟩) (Kd.R_far (p := ⟨gb235, 1, none⟩) (Kd.R_far (p := ⟨gb235, 0, none⟩) (Kd.R_types HO232.out BK235.out (by decide)) (fun _ hk => hk.2) (.int .i64 t227)) (fun _ hk => hk.2) (.int .i64 t228)) (fun _ hk => hk.2) (.int .i64 t229)) (fun _ hk => hk.2) (.slice Ao140 t230.length co140)) (fun _ hk => ⟨hk.1.1.2, hk.1.2⟩)))⟩; have n3_ : Aside0 (w141.heap[gb202]? = some (.cells #[.int .i64 2, .int .i64 5, .int .i64 3, .slice Ao107 x203003_6.length co107] 24 (0, 0))) := ⟨(by rw [hw]; exact (upF NB202_235.out BK202.out))⟩; have n4_ : Aside0 (w141.heap[gb209]? = some (.cells #[.int .i64 x210000_6, .int .i64 x210001_6, .int .i64 x210002_6, .slice Ao97 x210003_6.length co97] 24 (0, 0))) := ⟨(by rw [hw]; exact (upF NB209_235.out BK209.out))⟩; have n5_ : Aside0 (w141.heap[gb223]? = some (.cells #[.int .i64 t218, .int .i64 t219, .int .i64 t220, .int .i64 t221] 36 (0, 0))) := ⟨(by rw [hw]; exact (upF NB223_235.out BK223.out))⟩; have n6_ : Aside0 (w141.heap[gb235]? = some (.cells #[.int .i64 t227, .int .i64 t228, .int .i64 t229, .slice Ao140 t230.length co140] 24 (0, 0))) := ⟨(by rw [hw]; exact (by (with_reducible repeat (first | refine blk_drewN ?_ _ | refine blk_drew ?_ | refine blk_alloc ?_ _)); refine blk_put (cs := #[.int .i64 t227, .int .i64 t228, .int .i64 t229, .slice none 0 0]) ?_ 3 _ rfl; (with_reducible repeat (first | refine blk_drewN ?_ _ | refine blk_drew ?_ | refine blk_alloc ?_ _)); refine blk_put (cs := #[.int .i64 t227, .int .i64 t228, .int .i64 0, .slice none 0 0]) ?_ 2 _ rfl; (with_reducible repeat (first | refine blk_drewN ?_ _ | refine blk_drew ?_ | refine blk_alloc ?_ _)); refine blk_put (cs := #[.int .i64 t227, .int .i64 0, .int .i64 0, .slice none 0 0]) ?_ 1 _ rfl; (with_reducible repeat (first | refine blk_drewN ?_ _ | refine blk_drew ?_ | refine blk_alloc ?_ _)); refine blk_put (cs := #[.int .i64 0, .int .i64 0, .int .i64 0, .slice none 0 0]) ?_ 0 _ rfl; (with_reducible repeat (first | refine blk_drewN ?_ _ | refine blk_drew ?_ | refine blk_alloc ?_ _)); exact BK235.out))⟩; have n7_ : Aside0 (Below w.heap.size w w141) := ⟨(by rw [hw]; exact (by repeat (first | (with_reducible first | exact HB.out | apply below_alloc | apply pw_below_drewN | apply below_drew1 | refine below_set ?_ GE202.out | refine below_set ?_ GE209.out | refine below_set ?_ GE223.out | refine below_set ?_ GE235.out) | exact HB.out)))⟩; clear hw; clear HO_203003; clear HO_210003; clear HO232; clear BK202; clear BK209; clear BK223; clear BK235; clear HB; have HO_203003 := n0_; have HO_210003 := n1_; have HO232 := n2_; have BK202 := n3_; have BK209 := n4_; have BK223 := n5_; have BK235 := n6_; have HB := n7_; clear n0_ n1_ n2_ n3_ n4_ n5_ n6_ n7_) | ((with_reducible refine gate_callee (f := 15) rfl ?_); refine goesL_ (some 169) rfl rfl Try.func15 (by kernel_rfl) rfl #[.string (t224.extract 0 14), .int .i64 0] rfl (by (try simp only [List.map_toArray, List.map_cons, List.map_nil]); first | done | rfl | (simp only [List.length_drop, List.length_take]; rfl)) ?_; (with_reducible refine (lsa_Get.calls kj93 (t224.extract 0 14) 0 t236 t237 t238 t239 t242 t243 _ A115.out).mono ?_); rintro e w142 ⟨v240, rfl, ho0, hb⟩; refine ⟨_, rfl, ?_⟩; have n0_ := Aside0.mk (Kd.R_elder' (upR HO_203003.out) (Kd.R_base ho0) hb); have n1_ := Aside0.mk (Kd.R_elder' (upR HO_210003.out) (Kd.R_base ho0) hb); have n2_ := Aside0.mk (Kd.R_elder' (upR HO232.out) (Kd.R_base ho0) hb); have n3_ := Aside0.mk (Kd.R_lower (Kd.R_new' (Kd.R_new' (Kd.R_new' ho0 (Kd.R_lt (upR HO_203003.out))) (Kd.R_lt (upR HO_210003.out))) (Kd.R_lt (upR HO232.out))) (below_size (by repeat (first | (with_reducible first | exact HB.out | apply below_alloc | apply pw_below_drewN | apply below_drew1 | refine below_set ?_ GE202.out | refine below_set ?_ GE209.out | refine below_set ?_ GE223.out | refine below_set ?_ GE235.out) | exact HB.out)))); have n4_ := Aside0.mk (blk_below (upB BK202.out) hb); have n5_ := Aside0.mk (blk_below (upB BK209.out) hb); have n6_ := Aside0.mk (blk_below (upB BK223.out) hb); have n7_ := Aside0.mk (blk_below (upB BK235.out) hb); have n8_ := Aside0.mk (below_step (by repeat (first | (with_reducible first | exact HB.out | apply below_alloc | apply pw_below_drewN | apply below_drew1 | refine below_set ?_ GE202.out | refine below_set ?_ GE209.out | refine below_set ?_ GE223.out | refine below_set ?_ GE235.out) | exact HB.out)) hb); clear HO_203003; clear HO_210003; clear HO232; clear BK202; clear BK209; clear BK223; clear BK235; clear HB; have HO_203003 := n0_; have HO_210003 := n1_; have HO232 := n2_; have HO241 := n3_; have BK202 := n4_; have BK209 := n5_; have BK223 := n6_; have BK235 := n7_; have HB := n8_; clear n0_ n1_ n2_ n3_ n4_ n5_ n6_ n7_ n8_; (try clear hb); (try clear hb2); (try clear hk); (try clear hi); (try clear ho0)) | ((with_reducible refine gate_dst (N := 19) rfl ?_); (try (refine gate_guard (by rfl) ?_; dsimp only)); refine box_event ?hg (N := 19) ?hd (cs := #[.int .i64 0, .int .i64 0, .int .i64 0, .slice none 0 0]) (t := 24) ?hr ?_; (case hd => rfl); (case hg => rfl); (case hr => first | (go_simp; done) | (go_simp; rfl)); intro gb244 hg w143 hbox hb; have n0_ := Aside0.mk (Kd.R_below (upR HO_203003.out) hb); have n1_ := Aside0.mk (Kd.R_below (upR HO_210003.out) hb); have n2_ := Aside0.mk (Kd.R_below (upR HO232.out) hb); have n3_ := Aside0.mk (Kd.R_below (upR HO241.out) hb); have n4_ := Aside0.mk (blk_below (upB BK202.out) hb); have n5_ := Aside0.mk (blk_below (upB BK209.out) hb); have n6_ := Aside0.mk (blk_below (upB BK223.out) hb); have n7_ := Aside0.mk (blk_below (upB BK235.out) hb); have n8_ := Aside0.mk (below_step (by repeat (first | (with_reducible first | exact HB.out | apply below_alloc | apply pw_below_drewN | apply below_drew1 | refine below_set ?_ GE202.out | refine below_set ?_ GE209.out | refine below_set ?_ GE223.out | refine below_set ?_ GE235.out) | exact HB.out)) hb); have n9_ := Aside0.mk (hbox); have n10_ := Aside0.mk ((by rw [hg]; exact (below_size (by repeat (first | (with_reducible first | exact HB.out | apply below_alloc | apply pw_below_drewN | apply below_drew1 | refine below_set ?_ GE202.out | refine below_set ?_ GE209.out | refine below_set ?_ GE223.out | refine below_set ?_ GE235.out) | exact HB.out))) : w.heap.size ≤ gb244)); have n11_ := Aside0.mk ((by rw [hg]; exact (below_size (by repeat (first | (with_reducible first | exact HB.out | apply below_alloc | apply pw_below_drewN | apply below_drew1 | refine below_set ?_ GE202.out | refine below_set ?_ GE209.out | refine below_set ?_ GE223.out | refine below_set ?_ GE235.out) | exact HB.out))) : w.heap.size ≤ gb244)); have n12_ := Aside0.mk ((by rw [hg]; exact Nat.ne_of_lt (blk_lt (g := gb202) (o := .cells #[.int .i64 2, .int .i64 5, .int .i64 3, .slice Ao107 x203003_6.length co107] 24 (0, 0)) (upB BK202.out)) : gb202 ≠ gb244)); have n13_ := Aside0.mk ((by rw [hg]; exact Nat.ne_of_gt (blk_lt (g := gb202) (o := .cells #[.int .i64 2, .int .i64 5, .int .i64 3, .slice Ao107 x203003_6.length co107] 24 (0, 0)) (upB BK202.out)) : gb244 ≠ gb202)); have n14_ := Aside0.mk ((by rw [hg]; exact Nat.ne_of_lt (blk_lt (g := gb209) (o := .cells #[.int .i64 x210000_6, .int .i64 x210001_6, .int .i64 x210002_6, .slice Ao97 x210003_6.length co97] 24 (0, 0)) (upB BK209.out)) : gb209 ≠ gb244)); have n15_ := Aside0.mk ((by rw [hg]; exact Nat.ne_of_gt (blk_lt (g := gb209) (o := .cells #[.int .i64 x210000_6, .int .i64 x210001_6, .int .i64 x210002_6, .slice Ao97 x210003_6.length co97] 24 (0, 0)) (upB BK209.out)) : gb244 ≠ gb209)); have n16_ := Aside0.mk ((by rw [hg]; exact Nat.ne_of_lt (blk_lt (g := gb223) (o := .cells #[.int .i64 t218, .int .i64 t219, .int .i64 t220, .int .i64 t221] 36 (0, 0)) (upB BK223.out)) : gb223 ≠ gb244)); have n17_ := Aside0.mk ((by rw [hg]; exact Nat.ne_of_gt (blk_lt (g := gb223) (o := .cells #[.int .i64 t218, .int .i64 t219, .int .i64 t220, .int .i64 t221] 36 (0, 0)) (upB BK223.out)) : gb244 ≠ gb223)); have n18_ := Aside0.mk ((by rw [hg]; exact Nat.ne_of_lt (blk_lt (g := gb235) (o := .cells #[.int .i64 t227, .int .i64 t228, .int .i64 t229, .slice Ao140 t230.length co140] 24 (0, 0)) (upB BK235.out)) : gb235 ≠ gb244)); have n19_ := Aside0.mk ((by rw [hg]; exact Nat.ne_of_gt (blk_lt (g := gb235) (o := .cells #[.int .i64 t227, .int .i64 t228, .int .i64 t229, .slice Ao140 t230.length co140] 24 (0, 0)) (upB BK235.out)) : gb244 ≠ gb235)); clear HO_203003; clear HO_210003; clear HO232; clear HO241; clear BK202; clear BK209; clear BK223; clear BK235; clear HB; have HO_203003 := n0_; have HO_210003 := n1_; have HO232 := n2_; have HO241 := n3_; have BK202 := n4_; have BK209 := n5_; have BK223 := n6_; have BK235 := n7_; have HB := n8_; have BK244 := n9_; have GW244 := n10_; have GE244 := n11_; have NB202_244 := n12_; have NB244_202 := n13_; have NB209_244 := n14_; have NB244_209 := n15_; have NB223_244 := n16_; have NB244_223 := n17_; have NB235_244 := n18_; have NB244_235 := n19_; clear n0_ n1_ n2_ n3_ n4_ n5_ n6_ n7_ n8_ n9_ n10_ n11_ n12_ n13_ n14_ n15_ n16_ n17_ n18_ n19_; clear hb hbox hg; have hnb144 := NB244_202.out; have hnc144 := NB202_244.out; have hnb145 := NB244_209.out; have hnc145 := NB209_244.out; have hnb146 := NB244_223.out; have hnc146 := NB223_244.out; have hnb147 := NB244_235.out; have hnc147 := NB235_244.out; have hcz148_0 : w143.cell? ⟨gb244, 0, none⟩ = some (.int .i64 0) := (blk_cell BK244.out 0).trans rfl; have hcz148_1 : w143.cell? ⟨gb244, 1, none⟩ = some (.int .i64 0) := (blk_cell BK244.out 1).trans rfl; have hcz148_2 : w143.cell? ⟨gb244, 2, none⟩ = some (.int .i64 0) := (blk_cell BK244.out 2).trans rfl; have hcz148_3 : w143.cell? ⟨gb244, 3, none⟩ = some (.slice none 0 0) := (blk_cell BK244.out 3).trans rfl; have hfz148_0 := blk_frozen BK244.out 0; have hfz148_1 := blk_frozen BK244.out 1; have hfz148_2 := blk_frozen BK244.out 2; have hfz148_3 := blk_frozen BK244.out 3; obtain ⟨Ao149, co149, eo149⟩ := Kd.R_slice HO241.out; subst eo149) | ((with_reducible refine gate_store (t := 24) (p := 19) rfl ?_); refine store_event (t := 24) (p := 19) (v := ?vo_w150) (w1 := ((((w143.setCell ⟨gb244, 0, none⟩ (.int .i64 t236)).setCell ⟨gb244, 1, none⟩ (.int .i64 t237)).setCell ⟨gb244, 2, none⟩ (.int .i64 t238)).setCell ⟨gb244, 3, none⟩ (.slice Ao149 t239.length co149))) ?hg ?ho ?hn ?hr ?_; (case ho => rfl); (case hg => rfl); (case hn => rfl); (case hr => first | (go_simp; done) | (go_simp; rfl)); intro w150 hw; have n0_ : Aside0 (Kd.R k49 49 w150 w.heap.size (fun k_ => some k_ ≠ (.slice Ao97 x210003_6.length co97 : Value).ownBlock ∧ some k_ ≠ (.slice Ao140 t230.length co140 : Value).ownBlock ∧ some k_ ≠ (.slice Ao149 t239.length co149 : Value).ownBlock) (.slice Ao107 x203003_6.length co107) x203003_6) := ⟨(by rw [hw]; exact (by (with_reducible repeat (first | apply Kd.R_alloc | apply Kd.R_drewN | apply Kd.R_drew)); exact Kd.R_mono (Kd.R_far (p := ⟨gb244, 3, none⟩) (Kd.R_far (p := ⟨gb244, 2, none⟩) (Kd.R_far (p := ⟨gb244, 1, none⟩) (Kd.R_far (p := ⟨gb244, 0, none⟩) (Kd.R_types HO_203003.out BK244.out (by decide)) (fun _ hk => hk.2) (.int .i64 t236)) (fun _ hk => hk.2) (.int .i64 t237)) (fun _ hk => hk.2) (.int .i64 t238)) (fun _ hk => hk.2) (.slice Ao149 t239.length co149)) (fun _ hk => ⟨hk.1.1.1, ⟨hk.1.1.2, hk.1.2⟩⟩)))⟩; have n1_ : Aside0 (Kd.R k49 49 w150 w.heap.size (fun k_ => some k_ ≠ (.slice Ao107 x203003_6.length co107 : Value).ownBlock ∧ some k_ ≠ (.slice Ao140 t230.length co140 : Value).ownBlock ∧ some k_ ≠ (.slice Ao149 t239.length co149 : Value).ownBlock) (.slice Ao97 x210003_6.length co97) x210003_6) := ⟨(by rw [hw]; exact (by (with_reducible repeat (first | apply Kd.R_alloc | apply Kd.R_drewN | apply Kd.R_drew)); exact Kd.R_mono (Kd.R_far (p := ⟨gb244, 3, none⟩) (Kd.R_far (p := ⟨gb244, 2, none⟩) (Kd.R_far (p := ⟨gb244, 1, none⟩) (Kd.R_far (p := ⟨gb244, 0, none⟩) (Kd.R_types HO_210003.out BK244.out (by decide)) (fun _ hk => hk.2) (.int .i64 t236)) (fun _ hk => hk.2) (.int .i64 t237)) (fun _ hk => hk.2) (.int .i64 t238)) (fun _ hk => hk.2) (.slice Ao149 t239.length co149)) (fun _ hk => ⟨hk.1.1.1, ⟨hk.1.1.2, hk.1.2⟩⟩)))⟩; have n2_ : Aside0 (Kd.R k49 49 w150 w.heap.size (fun k_ => some k_ ≠ (.slice Ao107 x203003_6.length co107 : Value).ownBlock ∧ some k_ ≠ (.slice Ao97 x210003_6.length co97 : Value).ownBlock ∧ some k_ ≠ (.slice Ao149 t239.length co149 : Value).ownBlock) (.slice Ao140 t230.length co140) t230) := ⟨(by rw [hw]; exact (by (with_reducible repeat (first | apply Kd.R_alloc | apply Kd.R_drewN | apply Kd.R_drew)); exact Kd.R_mono (Kd.R_far (p := ⟨gb244, 3, none⟩) (Kd.R_far (p := ⟨gb244, 2, none⟩) (Kd.R_far (p := ⟨gb244, 1, none⟩) (Kd.R_far (p := ⟨gb244, 0, none⟩) (Kd.R_types HO232.out BK244.out (by decide)) (fun _ hk => hk.2) (.int .i64 t236)) (fun _ hk => hk.2) (.int .i64 t237)) (fun _ hk => hk.2) (.int .i64 t238)) (fun _ hk => hk.2) (.slice Ao149 t239.length co149)) (fun _ hk => ⟨hk.1.1.1, ⟨hk.1.1.2, hk.1.2⟩⟩)))⟩; have n3_ : Aside0 (Kd.R k49 49 w150 w.heap.size (fun k_ => some k_ ≠ (.slice Ao107 x203003_6.length co107 : Value).ownBlock ∧ some k_ ≠ (.slice Ao97 x210003_6.length co97 : Value).ownBlock ∧ some k_ ≠ (.slice Ao140 t230.length co140 : Value).ownBlock) (.slice Ao149 t239.length co149) t239) := ⟨(by rw [hw]; exact (by (with_reducible repeat (first | apply Kd.R_alloc | apply Kd.R_drewN | apply Kd.R_drew)); exact Kd.R_mono (Kd.R_far (p := ⟨gb244, 3, none⟩) (Kd.R_far (p := ⟨gb244, 2, none⟩) (Kd.R_far (p := ⟨gb244, 1, none⟩) (Kd.R_far (p := ⟨gb244, 0, none⟩) (Kd.R_types HO241.out BK244.out (by decide)) (fun _ hk => hk.2) (.int .i64 t236)) (fun _ hk => hk.2) (.int .i64 t237)) (fun _ hk => hk.2) (.int .i64 t238)) (fun _ hk => hk.2) (.slice Ao149 t239.length co149)) (fun _ hk => ⟨hk.1.1.1.2, ⟨hk.1.1.2, hk.1.2⟩⟩)))⟩; have n4_ : Aside0 (w150.heap[gb202]? = some (.cells #[.int .i64 2, .int .i64 5, .int .i64 3, .slice Ao107 x203003_6.length co107] 24 (0, 0))) := ⟨(by rw [hw]; exact (upF NB202_244.out BK202.out))⟩; have n5_ : Aside0 (w150.heap[gb209]? = some (.cells #[.int .i64 x210000_6, .int .i64 x210001_6, .int .i64 x210002_6, .slice Ao97 x210003_6.length co97] 24 (0, 0))) := ⟨(by rw [hw]; exact (upF NB209_244.out BK209.out))⟩; have n6_ : Aside0 (w150.heap[gb223]? = some (.cells #[.int .i64 t218, .int .i64 t219, .int .i64 t220, .int .i64 t221] 36 (0, 0))) := ⟨(by rw [hw]; exact (upF NB223_244.out BK223.out))⟩; have n7_ : Aside0 (w150.heap[gb235]? = some (.cells #[.int .i64 t227, .int .i64 t228, .int .i64 t229, .slice Ao140 t230.length co140] 24 (0, 0))) := ⟨(by rw [hw]; exact (upF NB235_244.out BK235.out))⟩; have n8_ : Aside0 (w150.heap[gb244]? = some (.cells #[.int .i64 t236, .int .i64 t237, .int .i64 t238, .slice Ao149 t239.length co149] 24 (0, 0))) := ⟨(by rw [hw]; exact (by (with_reducible repeat (first | refine blk_drewN ?_ _ | refine blk_drew ?_ | refine blk_alloc ?_ _)); refine blk_put (cs := #[.int .i64 t236, .int .i64 t237, .int .i64 t238, .slice none 0 0]) ?_ 3 _ rfl; (with_reducible repeat (first | refine blk_drewN ?_ _ | refine blk_drew ?_ | refine blk_alloc ?_ _)); refine blk_put (cs := #[.int .i64 t236, .int .i64 t237, .int .i64 0, .slice none 0 0]) ?_ 2 _ rfl; (with_reducible repeat (first | refine blk_drewN ?_ _ | refine blk_drew ?_ | refine blk_alloc ?_ _)); refine blk_put (cs := #[.int .i64 t236, .int .i64 0, .int .i64 0, .slice none 0 0]) ?_ 1 _ rfl; (with_reducible repeat (first | refine blk_drewN ?_ _ | refine blk_drew ?_ | refine blk_alloc ?_ _)); refine blk_put (cs := #[.int .i64 0, .int .i64 0, .int .i64 0, .slice none 0 0]) ?_ 0 _ rfl; (with_reducible repeat (first | refine blk_drewN ?_ _ | refine blk_drew ?_ | refine blk_alloc ?_ _)); exact BK244.out))⟩; have n9_ : Aside0 (Below w.heap.size w w150) := ⟨(by rw [hw]; exact (by repeat (first | (with_reducible first | exact HB.out | apply below_alloc | apply pw_below_drewN | apply below_drew1 | refine below_set ?_ GE202.out | refine below_set ?_ GE209.out | refine below_set ?_ GE223.out | refine below_set ?_ GE235.out | refine below_set ?_ GE244.out) | exact HB.out)))⟩; clear hw; clear HO_203003; clear HO_210003; clear HO232; clear HO241; clear BK202; clear BK209; clear BK223; clear BK235; clear BK244; clear HB; have HO_203003 := n0_; have HO_210003 := n1_; have HO232 := n2_; have HO241 := n3_; have BK202 := n4_; have BK209 := n5_; have BK223 := n6_; have BK235 := n7_; have BK244 := n8_; have HB := n9_; clear n0_ n1_ n2_ n3_ n4_ n5_ n6_ n7_ n8_ n9_) | ((with_reducible refine gate_callee (f := 15) rfl ?_); refine goesL_ (some 177) rfl rfl Try.func15 (by kernel_rfl) rfl #[.string t224, .int .i64 (wrap64 (-(wrap64 (1 + (Go.bits .and .i64 a1 1023)))))] rfl (by (try simp only [List.map_toArray, List.map_cons, List.map_nil]); first | done | rfl | (simp only [List.length_drop, List.length_take]; rfl)) ?_; (with_reducible refine (lsa_Get.calls kj93 t224 (wrap64 (-(wrap64 (1 + (Go.bits .and .i64 a1 1023))))) t245 t246 t247 t248 t251 t252 _ A116.out).mono ?_); rintro e w151 ⟨v249, rfl, ho0, hb⟩; refine ⟨_, rfl, ?_⟩; have n0_ := Aside0.mk (Kd.R_elder' (upR HO_203003.out) (Kd.R_base ho0) hb); have n1_ := Aside0.mk (Kd.R_elder' (upR HO_210003.out) (Kd.R_base ho0) hb); have n2_ := Aside0.mk (Kd.R_elder' (upR HO232.out) (Kd.R_base ho0) hb); have n3_ := Aside0.mk (Kd.R_elder' (upR HO241.out) (Kd.R_base ho0) hb); have n4_ := Aside0.mk (Kd.R_lower (Kd.R_new' (Kd.R_new' (Kd.R_new' (Kd.R_new' ho0 (Kd.R_lt (upR HO_203003.out))) (Kd.R_lt (upR HO_210003.out))) (Kd.R_lt (upR HO232.out))) (Kd.R_lt (upR HO241.out))) (below_size (by repeat (first | (with_reducible first | exact HB.out | apply below_alloc | apply pw_below_drewN | apply below_drew1 | refine below_set ?_ GE202.out | refine below_set ?_ GE209.out | refine below_set ?_ GE223.out | refine below_set ?_ GE235.out | refine below_set ?_ GE244.out) | exact HB.out)))); have n5_ := Aside0.mk (blk_below (upB BK202.out) hb); have n6_ := Aside0.mk (blk_below (upB BK209.out) hb); have n7_ := Aside0.mk (blk_below (upB BK223.out) hb); have n8_ := Aside0.mk (blk_below (upB BK235.out) hb); have n9_ := Aside0.mk (blk_below (upB BK244.out) hb); have n10_ := Aside0.mk (below_step (by repeat (first | (with_reducible first | exact HB.out | apply below_alloc | apply pw_below_drewN | apply below_drew1 | refine below_set ?_ GE202.out | refine below_set ?_ GE209.out | refine below_set ?_ GE223.out | refine below_set ?_ GE235.out | refine below_set ?_ GE244.out) | exact HB.out)) hb); clear HO_203003; clear HO_210003; clear HO232; clear HO241; clear BK202; clear BK209; clear BK223; clear BK235; clear BK244; clear HB; have HO_203003 := n0_; have HO_210003 := n1_; have HO232 := n2_; have HO241 := n3_; have HO250 := n4_; have BK202 := n5_; have BK209 := n6_; have BK223 := n7_; have BK235 := n8_; have BK244 := n9_; have HB := n10_; clear n0_ n1_ n2_ n3_ n4_ n5_ n6_ n7_ n8_ n9_ n10_; (try clear hb); (try clear hb2); (try clear hk); (try clear hi); (try clear ho0)) | ((with_reducible refine gate_dst (N := 22) rfl ?_); (try (refine gate_guard (by rfl) ?_; dsimp only)); refine box_event ?hg (N := 22) ?hd (cs := #[.int .i64 0, .int .i64 0, .int .i64 0, .slice none 0 0]) (t := 24) ?hr ?_; (case hd => rfl); (case hg => rfl); (case hr => first | (go_simp; done) | (go_simp; rfl)); intro gb253 hg w152 hbox hb; have n0_ := Aside0.mk (Kd.R_below (upR HO_203003.out) hb); have n1_ := Aside0.mk (Kd.R_below (upR HO_210003.out) hb); have n2_ := Aside0.mk (Kd.R_below (upR HO232.out) hb); have n3_ := Aside0.mk (Kd.R_below (upR HO241.out) hb); have n4_ := Aside0.mk (Kd.R_below (upR HO250.out) hb); have n5_ := Aside0.mk (blk_below (upB BK202.out) hb); have n6_ := Aside0.mk (blk_below (upB BK209.out) hb); have n7_ := Aside0.mk (blk_below (upB BK223.out) hb); have n8_ := Aside0.mk (blk_below (upB BK235.out) hb); have n9_ := Aside0.mk (blk_below (upB BK244.out) hb); have n10_ := Aside0.mk (below_step (by repeat (first | (with_reducible first | exact HB.out | apply below_alloc | apply pw_below_drewN | apply below_drew1 | refine below_set ?_ GE202.out | refine below_set ?_ GE209.out | refine below_set ?_ GE223.out | refine below_set ?_ GE235.out | refine below_set ?_ GE244.out) | exact HB.out)) hb); have n11_ := Aside0.mk (hbox); have n12_ := Aside0.mk ((by rw [hg]; exact (below_size (by repeat (first | (with_reducible first | exact HB.out | apply below_alloc | apply pw_below_drewN | apply below_drew1 | refine below_set ?_ GE202.out | refine below_set ?_ GE209.out | refine below_set ?_ GE223.out | refine below_set ?_ GE235.out | refine below_set ?_ GE244.out) | exact HB.out))) : w.heap.size ≤ gb253)); have n13_ := Aside0.mk ((by rw [hg]; exact (below_size (by repeat (first | (with_reducible first | exact HB.out | apply below_alloc | apply pw_below_drewN | apply below_drew1 | refine below_set ?_ GE202.out | refine below_set ?_ GE209.out | refine below_set ?_ GE223.out | refine below_set ?_ GE235.out | refine below_set ?_ GE244.out) | exact HB.out))) : w.heap.size ≤ gb253)); have n14_ := Aside0.mk ((by rw [hg]; exact Nat.ne_of_lt (blk_lt (g := gb202) (o := .cells #[.int .i64 2, .int .i64 5, .int .i64 3, .slice Ao107 x203003_6.length co107] 24 (0, 0)) (upB BK202.out)) : gb202 ≠ gb253)); have n15_ := Aside0.mk ((by rw [hg]; exact Nat.ne_of_gt (blk_lt (g := gb202) (o := .cells #[.int .i64 2, .int .i64 5, .int .i64 3, .slice Ao107 x203003_6.length co107] 24 (0, 0)) (upB BK202.out)) : gb253 ≠ gb202)); have n16_ := Aside0.mk ((by rw [hg]; exact Nat.ne_of_lt (blk_lt (g := gb209) (o := .cells #[.int .i64 x210000_6, .int .i64 x210001_6, .int .i64 x210002_6, .slice Ao97 x210003_6.length co97] 24 (0, 0)) (upB BK209.out)) : gb209 ≠ gb253)); have n17_ := Aside0.mk ((by rw [hg]; exact Nat.ne_of_gt (blk_lt (g := gb209) (o := .cells #[.int .i64 x210000_6, .int .i64 x210001_6, .int .i64 x210002_6, .slice Ao97 x210003_6.length co97] 24 (0, 0)) (upB BK209.out)) : gb253 ≠ gb209)); have n18_ := Aside0.mk ((by rw [hg]; exact Nat.ne_of_lt (blk_lt (g := gb223) (o := .cells #[.int .i64 t218, .int .i64 t219, .int .i64 t220, .int .i64 t221] 36 (0, 0)) (upB BK223.out)) : gb223 ≠ gb253)); have n19_ := Aside0.mk ((by rw [hg]; exact Nat.ne_of_gt (blk_lt (g := gb223) (o := .cells #[.int .i64 t218, .int .i64 t219, .int .i64 t220, .int .i64 t221] 36 (0, 0)) (upB BK223.out)) : gb253 ≠ gb223)); have n20_ := Aside0.mk ((by rw [hg]; exact Nat.ne_of_lt (blk_lt (g := gb235) (o := .cells #[.int .i64 t227, .int .i64 t228, .int .i64 t229, .slice Ao140 t230.length co140] 24 (0, 0)) (upB BK235.out)) : gb235 ≠ gb253)); have n21_ := Aside0.mk ((by rw [hg]; exact Nat.ne_of_gt (blk_lt (g := gb235) (o := .cells #[.int .i64 t227, .int .i64 t228, .int .i64 t229, .slice Ao140 t230.length co140] 24 (0, 0)) (upB BK235.out)) : gb253 ≠ gb235)); have n22_ := Aside0.mk ((by rw [hg]; exact Nat.ne_of_lt (blk_lt (g := gb244) (o := .cells #[.int .i64 t236, .int .i64 t237, .int .i64 t238, .slice Ao149 t239.length co149] 24 (0, 0)) (upB BK244.out)) : gb244 ≠ gb253)); have n23_ := Aside0.mk ((by rw [hg]; exact Nat.ne_of_gt (blk_lt (g := gb244) (o := .cells #[.int .i64 t236, .int .i64 t237, .int .i64 t238, .slice Ao149 t239.length co149] 24 (0, 0)) (upB BK244.out)) : gb253 ≠ gb244)); clear HO_203003; clear HO_210003; clear HO232; clear HO241; clear HO250; clear BK202; clear BK209; clear BK223; clear BK235; clear BK244; clear HB; have HO_203003 := n0_; have HO_210003 := n1_; have HO232 := n2_; have HO241 := n3_; have HO250 := n4_; have BK202 := n5_; have BK209 := n6_; have BK223 := n7_; have BK235 := n8_; have BK244 := n9_; have HB := n10_; have BK253 := n11_; have GW253 := n12_; have GE253 := n13_; have NB202_253 := n14_; have NB253_202 := n15_; have NB209_253 := n16_; have NB253_209 := n17_; have NB223_253 := n18_; have NB253_223 := n19_; have NB235_253 := n20_; have NB253_235 := n21_; have NB244_253 := n22_; have NB253_244 := n23_; clear n0_ n1_ n2_ n3_ n4_ n5_ n6_ n7_ n8_ n9_ n10_ n11_ n12_ n13_ n14_ n15_ n16_ n17_ n18_ n19_ n20_ n21_ n22_ n23_; clear hb hbox hg; have hnb153 := NB253_202.out; have hnc153 := NB202_253.out; have hnb154 := NB253_209.out; have hnc154 := NB209_253.out; have hnb155 := NB253_223.out; have hnc155 := NB223_253.out; have hnb156 := NB253_235.out; have hnc156 := NB235_253.out; have hnb157 := NB253_244.out; have hnc157 := NB244_253.out; have hcz158_0 : w152.cell? ⟨gb253, 0, none⟩ = some (.int .i64 0) := (blk_cell BK253.out 0).trans rfl; have hcz158_1 : w152.cell? ⟨gb253, 1, none⟩ = some (.int .i64 0) := (blk_cell BK253.out 1).trans rfl; have hcz158_2 : w152.cell? ⟨gb253, 2, none⟩ = some (.int .i64 0) := (blk_cell BK253.out 2).trans rfl; have hcz158_3 : w152.cell? ⟨gb253, 3, none⟩ = some (.slice none 0 0) := (blk_cell BK253.out 3).trans rfl; have hfz158_0 := blk_frozen BK253.out 0; have hfz158_1 := blk_frozen BK253.out 1; have hfz158_2 := blk_frozen BK253.out 2; have hfz158_3 := blk_frozen BK253.out 3; obtain ⟨Ao159, co159, eo159⟩ := Kd.R_slice HO250.out; subst eo159) | ((with_reducible refine gate_store (t := 24) (p := 22) rfl ?_); refine store_event (t := 24) (p := 22) (v := ?vo_w160) (w1 := ((((w152.setCell ⟨gb253, 0, none⟩ (.int .i64 t245)).setCell ⟨gb253, 1, none⟩ (.int .i64 t246)).setCell ⟨gb253, 2, none⟩ (.int .i64 t247)).setCell ⟨gb253, 3, none⟩ (.slice Ao159 t248.length co159))) ?hg ?ho ?hn ?hr ?_; (case ho => rfl); (case hg => rfl); (case hn => rfl); (case hr => first | (go_simp; done) | (go_simp; rfl)); intro w160 hw; have n0_ : Aside0 (Kd.R k49 49 w160 w.heap.size (fun k_ => some k_ ≠ (.slice Ao97 x210003_6.length co97 : Value).ownBlock ∧ some k_ ≠ (.slice Ao140 t230.length co140 : Value).ownBlock ∧ some k_ ≠ (.slice Ao149 t239.length co149 : Value).ownBlock ∧ some k_ ≠ (.slice Ao159 t248.length co159 : Value).ownBlock) (.slice Ao107 x203003_6.length co107) x203003_6) := ⟨(by rw [hw]; exact (by (with_reducible repeat (first | apply Kd.R_alloc | apply Kd.R_drewN | apply Kd.R_drew)); exact Kd.R_mono (Kd.R_far (p := ⟨gb253, 3, none⟩) (Kd.R_far (p := ⟨gb253, 2, none⟩) (Kd.R_far (p := ⟨gb253, 1, none⟩) (Kd.R_far (p := ⟨gb253, 0, none⟩) (Kd.R_types HO_203003.out BK253.out (by decide)) (fun _ hk => hk.2) (.int .i64 t245)) (fun _ hk => hk.2) (.int .i64 t246)) (fun _ hk => hk.2) (.int .i64 t247)) (fun _ hk => hk.2) (.slice Ao159 t248.length co159)) (fun _ hk => ⟨hk.1.1.1, ⟨hk.1.1.2.1, ⟨hk.1.1.2.2, hk.1.2⟩⟩⟩)))⟩; have n1_ : Aside0 (Kd.R k49 49 w160 w.heap.size (fun k_ => some k_ ≠ (.slice Ao107 x203003_6.length co107 : Value).ownBlock ∧ some k_ ≠ (.slice Ao140 t230.length co140 : Value).ownBlock ∧ some k_ ≠ (.slice Ao149 t239.length co149 : Value).ownBlock ∧ some k_ ≠ (.slice Ao159 t248.length co159 : Value).ownBlock) (.slice Ao97 x210003_6.length co97) x210003_6) := ⟨(by rw [hw]; exact (by (with_reducible repeat (first | apply Kd.R_alloc | apply Kd.R_drewN | apply Kd.R_drew)); exact Kd.R_mono (Kd.R_far (p := ⟨gb253, 3, none⟩) (Kd.R_far (p := ⟨gb253, 2, none⟩) (Kd.R_far (p := ⟨gb253, 1, none⟩) (Kd.R_far (p := ⟨gb253, 0, none⟩) (Kd.R_types HO_210003.out BK253.out (by decide)) (fun _ hk => hk.2) (.int .i64 t245)) (fun _ hk => hk.2) (.int .i64 t246)) (fun _ hk => hk.2) (.int .i64 t247)) (fun _ hk => hk.2) (.slice Ao159 t248.length co159)) (fun _ hk => ⟨hk.1.1.1, ⟨hk.1.1.2.1, ⟨hk.1.1.2.2, hk.1.2⟩⟩⟩)))⟩; have n2_ : Aside0 (Kd.R k49 49 w160 w.heap.size (fun k_ => some k_ ≠ (.slice Ao107 x203003_6.length co107 : Value).ownBlock ∧ some k_ ≠ (.slice Ao97 x210003_6.length co97 : Value).ownBlock ∧ some k_ ≠ (.slice Ao149 t239.length co149 : Value).ownBlock ∧ some k_ ≠ (.slice Ao159 t248.length co159 : Value).ownBlock) (.slice Ao140 t230.length co140) t230) := ⟨(by rw [hw]; exact (by (with_reducible repeat (first | apply Kd.R_alloc | apply Kd.R_drewN | apply Kd.R_drew)); exact Kd.R_mono (Kd.R_far (p := ⟨gb253, 3, none⟩) (Kd.R_far (p := ⟨gb253, 2, none⟩) (Kd.R_far (p := ⟨gb253, 1, none⟩) (Kd.R_far (p := ⟨gb253, 0, none⟩) (Kd.R_types HO232.out BK253.out (by decide)) (fun _ hk => hk.2) (.int .i64 t245)) (fun _ hk => hk.2) (.int .i64 t246)) (fun _ hk => hk.2) (.int .i64 t247)) (fun _ hk => hk.2) (.slice Ao159 t248.length co159)) (fun _ hk => ⟨hk.1.1.1, ⟨hk.1.1.2.1, ⟨hk.1.1.2.2, hk.1.2⟩⟩⟩)))⟩; have n3_ : Aside0 (Kd.R k49 49 w160 w.heap.size (fun k_ => some k_ ≠ (.slice Ao107 x203003_6.length co107 : Value).ownBlock ∧ some k_ ≠ (.slice Ao97 x210003_6.length co97 : Value).ownBlock ∧ some k_ ≠ (.slice Ao140 t230.length co140 : Value).ownBlock ∧ some k_ ≠ (.slice Ao159 t248.length co159 : Value).ownBlock) (.slice Ao149 t239.length co149) t239) := ⟨(by rw [hw]; exact (by (with_reducible repeat (first | apply Kd.R_alloc | apply Kd.R_drewN | apply Kd.R_drew)); exact Kd.R_mono (Kd.R_far (p := ⟨gb253, 3, none⟩) (Kd.R_far (p := ⟨gb253, 2, none⟩) (Kd.R_far (p := ⟨gb253, 1, none⟩) (Kd.R_far (p := ⟨gb253, 0, none⟩) (Kd.R_types HO241.out BK253.out (by decide)) (fun _ hk => hk.2) (.int .i64 t245)) (fun _ hk => hk.2) (.int .i64 t246)) (fun _ hk => hk.2) (.int .i64 t247)) (fun _ hk => hk.2) (.slice Ao159 t248.length co159)) (fun _ hk => ⟨hk.1.1.1, ⟨hk.1.1.2.1, ⟨hk.1.1.2.2, hk.1.2⟩⟩⟩)))⟩; have n4_ : Aside0 (Kd.R k49 49 w160 w.heap.size (fun k_ => some k_ ≠ (.slice Ao107 x203003_6.length co107 : Value).ownBlock ∧ some k_ ≠ (.slice Ao97 x210003_6.length co97 : Value).ownBlock ∧ some k_ ≠ (.slice Ao140 t230.length co140 : Value).ownBlock ∧ some k_ ≠ (.slice Ao149 t239.length co149 : Value).ownBlock) (.slice Ao159 t248.length co159) t248) := ⟨(by rw [hw]; exact (by (with_reducible repeat (first | apply Kd.R_alloc | apply Kd.R_drewN | apply Kd.R_drew)); exact Kd.R_mono (Kd.R_far (p := ⟨gb253, 3, none⟩) (Kd.R_far (p := ⟨gb253, 2, none⟩) (Kd.R_far (p := ⟨gb253, 1, none⟩) (Kd.R_far (p := ⟨gb253, 0, none⟩) (Kd.R_types HO250.out BK253.out (by decide)) (fun _ hk => hk.2) (.int .i64 t245)) (fun _ hk => hk.2) (.int .i64 t246)) (fun _ hk => hk.2) (.int .i64 t247)) (fun _ hk => hk.2) (.slice Ao159 t248.length co159)) (fun _ hk => ⟨hk.1.1.1.1.2, ⟨hk.1.1.1.2, ⟨hk.1.1.2, hk.1.2⟩⟩⟩)))⟩; have n5_ : Aside0 (w160.heap[gb202]? = some (.cells #[.int .i64 2, .int .i64 5, .int .i64 3, .slice Ao107 x203003_6.length co107] 24 (0, 0))) := ⟨(by rw [hw]; exact (upF NB202_253.out BK202.out))⟩; have n6_ : Aside0 (w160.heap[gb209]? = some (.cells #[.int .i64 x210000_6, .int .i64 x210001_6, .int .i64 x210002_6, .slice Ao97 x210003_6.length co97] 24 (0, 0))) := ⟨(by rw [hw]; exact (upF NB209_253.out BK209.out))⟩; have n7_ : Aside0 (w160.heap[gb223]? = some (.cells #[.int .i64 t218, .int .i64 t219, .int .i64 t220, .int .i64 t221] 36 (0, 0))) := ⟨(by rw [hw]; exact (upF NB223_253.out BK223.out))⟩; have n8_ : Aside0 (w160.heap[gb235]? = some (.cells #[.int .i64 t227, .int .i64 t228, .int .i64 t229, .slice Ao140 t230.length co140] 24 (0, 0))) := ⟨(by rw [hw]; exact (upF NB235_253.out BK235.out))⟩; have n9_ : Aside0 (w160.heap[gb244]? = some (.cells #[.int .i64 t236, .int .i64 t237, .int .i64 t238, .slice Ao149 t239.length co149] 24 (0, 0))) := ⟨(by rw [hw]; exact (upF NB244_253.out BK244.out))⟩; have n10_ : Aside0 (w160.heap[gb253]? = some (.cells #[.int .i64 t245, .int .i64 t246, .int .i64 t247, .slice Ao159 t248.length co159] 24 (0, 0))) := ⟨(by rw [hw]; exact (by (with_reducible repeat (first | refine blk_drewN ?_ _ | refine blk_drew ?_ | refine blk_alloc ?_ _)); refine blk_put (cs := #[.int .i64 t245, .int .i64 t246, .int .i64 t247, .slice none 0 0]) ?_ 3 _ rfl; (with_reducible repeat (first | refine blk_drewN ?_ _ | refine blk_drew ?_ | refine blk_alloc ?_ _)); refine blk_put (cs := #[.int .i64 t245, .int .i64 t246, .int .i64 0, .slice none 0 0]) ?_ 2 _ rfl; (with_reducible repeat (first | refine blk_drewN ?_ _ | refine blk_drew ?_ | refine blk_alloc ?_ _)); refine blk_put (cs := #[.int .i64 t245, .int .i64 0, .int .i64 0, .slice none 0 0]) ?_ 1 _ rfl; (with_reducible repeat (first | refine blk_drewN ?_ _ | refine blk_drew ?_ | refine blk_alloc ?_ _)); refine blk_put (cs := #[.int .i64 0, .int .i64 0, .int .i64 0, .slice none 0 0]) ?_ 0 _ rfl; (with_reducible repeat (first | refine blk_drewN ?_ _ | refine blk_drew ?_ | refine blk_alloc ?_ _)); exact BK253.out))⟩; have n11_ : Aside0 (Below w.heap.size w w160) := ⟨(by rw [hw]; exact (by repeat (first | (with_reducible first | exact HB.out | apply below_alloc | apply pw_below_drewN | apply below_drew1 | refine below_set ?_ GE202.out | refine below_set ?_ GE209.out | refine below_set ?_ GE223.out | refine below_set ?_ GE235.out | refine below_set ?_ GE244.out | refine below_set ?_ GE253.out) | exact HB.out)))⟩; clear hw; clear HO_203003; clear HO_210003; clear HO232; clear HO241; clear HO250; clear BK202; clear BK209; clear BK223; clear BK235; clear BK244; clear BK253; clear HB; have HO_203003 := n0_; have HO_210003 := n1_; have HO232 := n2_; have HO241 := n3_; have HO250 := n4_; have BK202 := n5_; have BK209 := n6_; have BK223 := n7_; have BK235 := n8_; have BK244 := n9_; have BK253 := n10_; have HB := n11_; clear n0_ n1_ n2_ n3_ n4_ n5_ n6_ n7_ n8_ n9_ n10_ n11_) | ((with_reducible refine gate_callee (f := 15) rfl ?_); refine goesL_ (some 185) rfl rfl Try.func15 (by kernel_rfl) rfl #[.string t224, .int .i64 (wrap64 (15 + (wrap64 (1 + (Go.bits .and .i64 a1 1023)))))] rfl (by (try simp only [List.map_toArray, List.map_cons, List.map_nil]); first | done | rfl | (simp only [List.length_drop, List.length_take]; rfl)) ?_; (with_reducible refine (lsa_Get.calls kj93 t224 (wrap64 (15 + (wrap64 (1 + (Go.bits .and .i64 a1 1023))))) t254 t255 t256 t257 t260 t261 _ A117.out).mono ?_); rintro e w161 ⟨v258, rfl, ho0, hb⟩; refine ⟨_, rfl, ?_⟩; have n0_ := Aside0.mk (Kd.R_elder' (upR HO_203003.out) (Kd.R_base ho0) hb); have n1_ := Aside0.mk (Kd.R_elder' (upR HO_210003.out) (Kd.R_base ho0) hb); have n2_ := Aside0.mk (Kd.R_elder' (upR HO232.out) (Kd.R_base ho0) hb); have n3_ := Aside0.mk (Kd.R_elder' (upR HO241.out) (Kd.R_base ho0) hb); have n4_ := Aside0.mk (Kd.R_elder' (upR HO250.out) (Kd.R_base ho0) hb); have n5_ := Aside0.mk (Kd.R_lower (Kd.R_new' (Kd.R_new' (Kd.R_new' (Kd.R_new' (Kd.R_new' ho0 (Kd.R_lt (upR HO_203003.out))) (Kd.R_lt (upR HO_210003.out))) (Kd.R_lt (upR HO232.out))) (Kd.R_lt (upR HO241.out))) (Kd.R_lt (upR HO250.out))) (below_size (by repeat (first | (with_reducible first | exact HB.out | apply below_alloc | apply pw_below_drewN | apply below_drew1 | refine below_set ?_ GE202.out | refine below_set ?_ GE209.out | refine below_set ?_ GE223.out | refine below_set ?_ GE235.out | refine below_set ?_ GE244.out | refine below_set ?_ GE253.out) | exact HB.out)))); have n6_ := Aside0.mk (blk_below (upB BK202.out) hb); have n7_ := Aside0.mk (blk_below (upB BK209.out) hb); have n8_ := Aside0.mk (blk_below (upB BK223.out) hb); have n9_ := Aside0.mk (blk_below (upB BK235.out) hb); have n10_ := Aside0.mk (blk_below (upB BK244.out) hb); have n11_ := Aside0.mk (blk_below (upB BK253.out) hb); have n12_ := Aside0.mk (below_step (by repeat (first | (with_reducible first | exact HB.out | apply below_alloc | apply pw_below_drewN | apply below_drew1 | refine below_set ?_ GE202.out | refine below_set ?_ GE209.out | refine below_set ?_ GE223.out | refine below_set ?_ GE235.out | refine below_set ?_ GE244.out | refine below_set ?_ GE253.out) | exact HB.out)) hb); clear HO_203003; clear HO_210003; clear HO232; clear HO241; clear HO250; clear BK202; clear BK209; clear BK223; clear BK235; clear BK244; clear BK253; clear HB; have HO_203003 := n0_; have HO_210003 := n1_; have HO232 := n2_; have HO241 := n3_; have HO250 := n4_; have HO259 := n5_; have BK202 := n6_; have BK209 := n7_; have BK223 := n8_; have BK235 := n9_; have BK244 := n10_; have BK253 := n11_; have HB := n12_; clear n0_ n1_ n2_ n3_ n4_ n5_ n6_ n7_ n8_ n9_ n10_ n11_ n12_; (try clear hb); (try clear hb2); (try clear hk); (try clear hi); (try clear ho0)) | ((with_reducible refine gate_dst (N := 25) rfl ?_); (try (refine gate_guard (by rfl) ?_; dsimp only)); refine box_event ?hg (N := 25) ?hd (cs := #[.int .i64 0, .int .i64 0, .int .i64 0, .slice none 0 0]) (t := 24) ?hr ?_; (case hd => rfl); (case hg => rfl); (case hr => first | (go_simp; done) | (go_simp; rfl)); intro gb262 hg w162 hbox hb; have n0_ := Aside0.mk (Kd.R_below (upR HO_203003.out) hb); have n1_ := Aside0.mk (Kd.R_below (upR HO_210003.out) hb); have n2_ := Aside0.mk (Kd.R_below (upR HO232.out) hb); have n3_ := Aside0.mk (Kd.R_below (upR HO241.out) hb); have n4_ := Aside0.mk (Kd.R_below (upR HO250.out) hb); have n5_ := Aside0.mk (Kd.R_below (upR HO259.out) hb); have n6_ := Aside0.mk (blk_below (upB BK202.out) hb); have n7_ := Aside0.mk (blk_below (upB BK209.out) hb); have n8_ := Aside0.mk (blk_below (upB BK223.out) hb); have n9_ := Aside0.mk (blk_below (upB BK235.out) hb); have n10_ := Aside0.mk (blk_below (upB BK244.out) hb); have n11_ := Aside0.mk (blk_below (upB BK253.out) hb); have n12_ := Aside0.mk (below_step (by repeat (first | (with_reducible first | exact HB.out | apply below_alloc | apply pw_below_drewN | apply below_drew1 | refine below_set ?_ GE202.out | refine below_set ?_ GE209.out | refine below_set ?_ GE223.out | refine below_set ?_ GE235.out | refine below_set ?_ GE244.out | refine below_set ?_ GE253.out) | exact HB.out)) hb); have n13_ := Aside0.mk (hbox); have n14_ := Aside0.mk ((by rw [hg]; exact (below_size (by repeat (first | (with_reducible first | exact HB.out | apply below_alloc | apply pw_below_drewN | apply below_drew1 | refine below_set ?_ GE202.out | refine below_set ?_ GE209.out | refine below_set ?_ GE223.out | refine below_set ?_ GE235.out | refine below_set ?_ GE244.out | refine below_set ?_ GE253.out) | exact HB.out))) : w.heap.size ≤ gb262)); have n15_ := Aside0.mk ((by rw [hg]; exact (below_size (by repeat (first | (with_reducible first | exact HB.out | apply below_alloc | apply pw_below_drewN | apply below_drew1 | refine below_set ?_ GE202.out | refine below_set ?_ GE209.out | refine below_set ?_ GE223.out | refine below_set ?_ GE235.out | refine below_set ?_ GE244.out | refine below_set ?_ GE253.out) | exact HB.out))) : w.heap.size ≤ gb262)); have n16_ := Aside0.mk ((by rw [hg]; exact Nat.ne_of_lt (blk_lt (g := gb202) (o := .cells #[.int .i64 2, .int .i64 5, .int .i64 3, .slice Ao107 x203003_6.length co107] 24 (0, 0)) (upB BK202.out)) : gb202 ≠ gb262)); have n17_ := Aside0.mk ((by rw [hg]; exact Nat.ne_of_gt (blk_lt (g := gb202) (o := .cells #[.int .i64 2, .int .i64 5, .int .i64 3, .slice Ao107 x203003_6.length co107] 24 (0, 0)) (upB BK202.out)) : gb262 ≠ gb202)); have n18_ := Aside0.mk ((by rw [hg]; exact Nat.ne_of_lt (blk_lt (g := gb209) (o := .cells #[.int .i64 x210000_6, .int .i64 x210001_6, .int .i64 x210002_6, .slice Ao97 x210003_6.length co97] 24 (0, 0)) (upB BK209.out)) : gb209 ≠ gb262)); have n19_ := Aside0.mk ((by rw [hg]; exact Nat.ne_of_gt (blk_lt (g := gb209) (o := .cells #[.int .i64 x210000_6, .int .i64 x210001_6, .int .i64 x210002_6, .slice Ao97 x210003_6.length co97] 24 (0, 0)) (upB BK209.out)) : gb262 ≠ gb209)); have n20_ := Aside0.mk ((by rw [hg]; exact Nat.ne_of_lt (blk_lt (g := gb223) (o := .cells #[.int .i64 t218, .int .i64 t219, .int .i64 t220, .int .i64 t221] 36 (0, 0)) (upB BK223.out)) : gb223 ≠ gb262)); have n21_ := Aside0.mk ((by rw [hg]; exact Nat.ne_of_gt (blk_lt (g := gb223) (o := .cells #[.int .i64 t218, .int .i64 t219, .int .i64 t220, .int .i64 t221] 36 (0, 0)) (upB BK223.out)) : gb262 ≠ gb223)); have n22_ := Aside0.mk ((by rw [hg]; exact Nat.ne_of_lt (blk_lt (g := gb235) (o := .cells #[.int .i64 t227, .int .i64 t228, .int .i64 t229, .slice Ao140 t230.length co140] 24 (0, 0)) (upB BK235.out)) : gb235 ≠ gb262)); have n23_ := Aside0.mk ((by rw [hg]; exact Nat.ne_of_gt (blk_lt (g := gb235) (o := .cells #[.int .i64 t227, .int .i64 t228, .int .i64 t229, .slice Ao140 t230.length co140] 24 (0, 0)) (upB BK235.out)) : gb262 ≠ gb235)); have n24_ := Aside0.mk ((by rw [hg]; exact Nat.ne_of_lt (blk_lt (g := gb244) (o := .cells #[.int .i64 t236, .int .i64 t237, .int .i64 t238, .slice Ao149 t239.length co149] 24 (0, 0)) (upB BK244.out)) : gb244 ≠ gb262)); have n25_ := Aside0.mk ((by rw [hg]; exact Nat.ne_of_gt (blk_lt (g := gb244) (o := .cells #[.int .i64 t236, .int .i64 t237, .int .i64 t238, .slice Ao149 t239.length co149] 24 (0, 0)) (upB BK244.out)) : gb262 ≠ gb244)); have n26_ := Aside0.mk ((by rw [hg]; exact Nat.ne_of_lt (blk_lt (g := gb253) (o := .cells #[.int .i64 t245, .int .i64 t246, .int .i64 t247, .slice Ao159 t248.length co159] 24 (0, 0)) (upB BK253.out)) : gb253 ≠ gb262)); have n27_ := Aside0.mk ((by rw [hg]; exact Nat.ne_of_gt (blk_lt (g := gb253) (o := .cells #[.int .i64 t245, .int .i64 t246, .int .i64 t247, .slice Ao159 t248.length co159] 24 (0, 0)) (upB BK253.out)) : gb262 ≠ gb253)); clear HO_203003; clear HO_210003; clear HO232; clear HO241; clear HO250; clear HO259; clear BK202; clear BK209; clear BK223; clear BK235; clear BK244; clear BK253; clear HB; have HO_203003 := n0_; have HO_210003 := n1_; have HO232 := n2_; have HO241 := n3_; have HO250 := n4_; have HO259 := n5_; have BK202 := n6_; have BK209 := n7_; have BK223 := n8_; have BK235 := n9_; have BK244 := n10_; have BK253 := n11_; have HB := n12_; have BK262 := n13_; have GW262 := n14_; have GE262 := n15_; have NB202_262 := n16_; have NB262_202 := n17_; have NB209_262 := n18_; have NB262_209 := n19_; have NB223_262 := n20_; have NB262_223 := n21_; have NB235_262 := n22_; have NB262_235 := n23_; have NB244_262 := n24_; have NB262_244 := n25_; have NB253_262 := n26_; have NB262_253 := n27_; clear n0_ n1_ n2_ n3_ n4_ n5_ n6_ n7_ n8_ n9_ n10_ n11_ n12_ n13_ n14_ n15_ n16_ n17_ n18_ n19_ n20_ n21_ n22_ n23_ n24_ n25_ n26_ n27_; clear hb hbox hg; have hnb163 := NB262_202.out; have hnc163 := NB202_262.out; have hnb164 := NB262_209.out; have hnc164 := NB209_262.out; have hnb165 := NB262_223.out; have hnc165 := NB223_262.out; have hnb166 := NB262_235.out; have hnc166 := NB235_262.out; have hnb167 := NB262_244.out; have hnc167 := NB244_262.out; have hnb168 := NB262_253.out; have hnc168 := NB253_262.out; have hcz169_0 : w162.cell? ⟨gb262, 0, none⟩ = some (.int .i64 0) := (blk_cell BK262.out 0).trans rfl; have hcz169_1 : w162.cell? ⟨gb262, 1, none⟩ = some (.int .i64 0) := (blk_cell BK262.out 1).trans rfl; have hcz169_2 : w162.cell? ⟨gb262, 2, none⟩ = some (.int .i64 0) := (blk_cell BK262.out 2).trans rfl; have hcz169_3 : w162.cell? ⟨gb262, 3, none⟩ = some (.slice none 0 0) := (blk_cell BK262.out 3).trans rfl; have hfz169_0 := blk_frozen BK262.out 0; have hfz169_1 := blk_frozen BK262.out 1; have hfz169_2 := blk_frozen BK262.out 2; have hfz169_3 := blk_frozen BK262.out 3; obtain ⟨Ao170, co170, eo170⟩ := Kd.R_slice HO259.out; subst eo170) | ((with_reducible refine gate_store (t := 24) (p := 25) rfl ?_); refine store_event (t := 24) (p := 25) (v := ?vo_w171) (w1 := ((((w162.setCell ⟨gb262, 0, none⟩ (.int .i64 t254)).setCell ⟨gb262, 1, none⟩ (.int .i64 t255)).setCell ⟨gb262, 2, none⟩ (.int .i64 t256)).setCell ⟨gb262, 3, none⟩ (.slice Ao170 t257.length co170))) ?hg ?ho ?hn ?hr ?_; (case ho => rfl); (case hg => rfl); (case hn => rfl); (case hr => first | (go_simp; done) | (go_simp; rfl)); intro w171 hw; have n0_ : Aside0 (Kd.R k49 49 w171 w.heap.size (fun k_ => some k_ ≠ (.slice Ao97 x210003_6.length co97 : Value).ownBlock ∧ some k_ ≠ (.slice Ao140 t230.length co140 : Value).ownBlock ∧ some k_ ≠ (.slice Ao149 t239.length co149 : Value).ownBlock ∧ some k_ ≠ (.slice Ao159 t248.length co159 : Value).ownBlock ∧ some k_ ≠ (.slice Ao170 t257.length co170 : Value).ownBlock) (.slice Ao107 x203003_6.length co107) x203003_6) := ⟨(by rw [hw]; exact (by (with_reducible repeat (first | apply Kd.R_alloc | apply Kd.R_drewN | apply Kd.R_drew)); exact Kd.R_mono (Kd.R_far (p := ⟨gb262, 3, none⟩) (Kd.R_far (p := ⟨gb262, 2, none⟩) (Kd.R_far (p := ⟨gb262, 1, none⟩) (Kd.R_far (p := ⟨gb262, 0, none⟩) (Kd.R_types HO_203003.out BK262.out (by decide)) (fun _ hk => hk.2) (.int .i64 t254)) (fun _ hk => hk.2) (.int .i64 t255)) (fun _ hk => hk.2) (.int .i64 t256)) (fun _ hk => hk.2) (.slice Ao170 t257.length co170)) (fun _ hk => ⟨hk.1.1.1, ⟨hk.1.1.2.1, ⟨hk.1.1.2.2.1, ⟨hk.1.1.2.2.2, hk.1.2⟩⟩⟩⟩)))⟩; have n1_ : Aside0 (Kd.R k49 49 w171 w.heap.size (fun k_ => some k_ ≠ (.slice Ao107 x203003_6.length co107 : Value).ownBlock ∧ some k_ ≠ (.slice Ao140 t230.length co140 : Value).ownBlock ∧ some k_ ≠ (.slice Ao149 t239.length co149 : Value).ownBlock ∧ some k_ ≠ (.slice Ao159 t248.length co159 : Value).ownBlock ∧ some k_ ≠ (.slice Ao170 t257.length co170 : Value).ownBlock) (.slice Ao97 x210003_6.length co97) x210003_6) := ⟨(by rw [hw]; exact (by (with_reducible repeat (first | apply Kd.R_alloc | apply Kd.R_drewN | apply Kd.R_drew)); exact Kd.R_mono (Kd.R_far (p := ⟨gb262, 3, none⟩) (Kd.R_far (p := ⟨gb262, 2, none⟩) (Kd.R_far (p := ⟨gb262, 1, none⟩) (Kd.R_far (p := ⟨gb262, 0, none⟩) (Kd.R_types HO_210003.out BK262.out (by decide)) (fun _ hk => hk.2) (.int .i64 t254)) (fun _ hk => hk.2) (.int .i64 t255)) (fun _ hk => hk.2) (.int .i64 t256)) (fun _ hk => hk.2) (.slice Ao170 t257.length co170)) (fun _ hk => ⟨hk.1.1.1, ⟨hk.1.1.2.1, ⟨hk.1.1.2.2.1, ⟨hk.1.1.2.2.2, hk.1.2⟩⟩⟩⟩)))⟩; have n2_ : Aside0 (Kd.R k49 49 w171 w.heap.size (fun k_ => some k_ ≠ (.slice Ao107 x203003_6.length co107 : Value).ownBlock ∧ some k_ ≠ (.slice Ao97 x210003_6.length co97 : Value).ownBlock ∧ some k_ ≠ (.slice Ao149 t239.length co149 : Value).ownBlock ∧ some k_ ≠ (.slice Ao159 t248.length co159 : Value).ownBlock ∧ some k_ ≠ (.slice Ao170 t257.length co170 : Value).ownBlock) (.slice Ao140 t230.length co140) t230) := ⟨(by rw [hw]; exact (by (with_reducible repeat (first | apply Kd.R_alloc | apply Kd.R_drewN | apply Kd.R_drew)); exact Kd.R_mono (Kd.R_far (p := ⟨gb262, 3, none⟩) (Kd.R_far (p := ⟨gb262, 2, none⟩) (Kd.R_far (p := ⟨gb262, 1, none⟩) (Kd.R_far (p := ⟨gb262, 0, none⟩) (Kd.R_types HO232.out BK262.out (by decide)) (fun _ hk => hk.2) (.int .i64 t254)) (fun _ hk => hk.2) (.int .i64 t255)) (fun _ hk => hk.2) (.int .i64 t256)) (fun _ hk => hk.2) (.slice Ao170 t257.length co170)) (fun _ hk => ⟨hk.1.1.1, ⟨hk.1.1.2.1, ⟨hk.1.1.2.2.1, ⟨hk.1.1.2.2.2, hk.1.2⟩⟩⟩⟩)))⟩; have n3_ : Aside0 (Kd.R k49 49 w171 w.heap.size (fun k_ => some k_ ≠ (.slice Ao107 x203003_6.length co107 : Value).ownBlock ∧ some k_ ≠ (.slice Ao97 x210003_6.length co97 : Value).ownBlock ∧ some k_ ≠ (.slice Ao140 t230.length co140 : Value).ownBlock ∧ some k_ ≠ (.slice Ao159 t248.length co159 : Value).ownBlock ∧ some k_ ≠ (.slice Ao170 t257.length co170 : Value).ownBlock) (.slice Ao149 t239.length co149) t239) := ⟨(by rw [hw]; exact (by (with_reducible repeat (first | apply Kd.R_alloc | apply Kd.R_drewN | apply Kd.R_drew)); exact Kd.R_mono (Kd.R_far (p := ⟨gb262, 3, none⟩) (Kd.R_far (p := ⟨gb262, 2, none⟩) (Kd.R_far (p := ⟨gb262, 1, none⟩) (Kd.R_far (p := ⟨gb262, 0, none⟩) (Kd.R_types HO241.out BK262.out (by decide)) (fun _ hk => hk.2) (.int .i64 t254)) (fun _ hk => hk.2) (.int .i64 t255)) (fun _ hk => hk.2) (.int .i64 t256)) (fun _ hk => hk.2) (.slice Ao170 t257.length co170)) (fun _ hk => ⟨hk.1.1.1, ⟨hk.1.1.2.1, ⟨hk.1.1.2.2.1, ⟨hk.1.1.2.2.2, hk.1.2⟩⟩⟩⟩)))⟩; have n4_ : Aside0 (Kd.R k49 49 w171 w.heap.size (fun k_ => some k_ ≠ (.slice Ao107 x203003_6.length co107 : Value).ownBlock ∧ some k_ ≠ (.slice Ao97 x210003_6.length co97 : Value).ownBlock ∧ some k_ ≠ (.slice Ao140 t230.length co140 : Value).ownBlock ∧ some k_ ≠ (.slice Ao149 t239.length co149 : Value).ownBlock ∧ some k_ ≠ (.slice Ao170 t257.length co170 : Value).ownBlock) (.slice Ao159 t248.length co159) t248) := ⟨(by rw [hw]; exact (by (with_reducible repeat (first | apply Kd.R_alloc | apply Kd.R_drewN | apply Kd.R_drew)); exact Kd.R_mono (Kd.R_far (p := ⟨gb262, 3, none⟩) (Kd.R_far (p := ⟨gb262, 2, none⟩) (Kd.R_far (p := ⟨gb262, 1, none⟩) (Kd.R_far (p := ⟨gb262, 0, none⟩) (Kd.R_types HO250.out BK262.out (by decide)) (fun _ hk => hk.2) (.int .i64 t254)) (fun _ hk => hk.2) (.int .i64 t255)) (fun _ hk => hk.2) (.int .i64 t256)) (fun _ hk => hk.2) (.slice Ao170 t257.length co170)) (fun _ hk => ⟨hk.1.1.1, ⟨hk.1.1.2.1, ⟨hk.1.1.2.2.1, ⟨hk.1.1.2.2.2, hk.1.2⟩⟩⟩⟩)))⟩; have n5_ : Aside0 (Kd.R k49 49 w171 w.heap.size (fun k_ => some k_ ≠ (.slice Ao107 x203003_6.length co107 : Value).ownBlock ∧ some k_ ≠ (.slice Ao97 x210003_6.length co97 : Value).ownBlock ∧ some k_ ≠ (.slice Ao140 t230.length co140 : Value).ownBlock ∧ some k_ ≠ (.slice Ao149 t239.length co149 : Value).ownBlock ∧ some k_ ≠ (.slice Ao159 t248.length co159 : Value).ownBlock) (.slice Ao170 t257.length co170) t257) := ⟨(by rw [hw]; exact (by (with_reducible repeat (first | apply Kd.R_alloc | apply Kd.R_drewN | apply Kd.R_drew)); exact Kd.R_mono (Kd.R_far (p := ⟨gb262, 3, none⟩) (Kd.R_far (p := ⟨gb262, 2, none⟩) (Kd.R_far (p := ⟨gb262, 1, none⟩) (Kd.R_far (p := ⟨gb262, 0, none⟩) (Kd.R_types HO259.out BK262.out (by decide)) (fun _ hk => hk.2) (.int .i64 t254)) (fun _ hk => hk.2) (.int .i64 t255)) (fun _ hk => hk.2) (.int .i64 t256)) (fun _ hk => hk.2) (.slice Ao170 t257.length co170)) (fun _ hk => ⟨hk.1.1.1.1.1.2, ⟨hk.1.1.1.1.2, ⟨hk.1.1.1.2, ⟨hk.1.1.2, hk.1.2⟩⟩⟩⟩)))⟩; have n6_ : Aside0 (w171.heap[gb202]? = some (.cells #[.int .i64 2, .int .i64 5, .int .i64 3, .slice Ao107 x203003_6.length co107] 24 (0, 0))) := ⟨(by rw [hw]; exact (upF NB202_262.out BK202.out))⟩; have n7_ : Aside0 (w171.heap[gb209]? = some (.cells #[.int .i64 x210000_6, .int .i64 x210001_6, .int .i64 x210002_6, .slice Ao97 x210003_6.length co97] 24 (0, 0))) := ⟨(by rw [hw]; exact (upF NB209_262.out BK209.out))⟩; have n8_ : Aside0 (w171.heap[gb223]? = some (.cells #[.int .i64 t218, .int .i64 t219, .int .i64 t220, .int .i64 t221] 36 (0, 0))) := ⟨(by rw [hw]; exact (upF NB223_262.out BK223.out))⟩; have n9_ : Aside0 (w171.heap[gb235]? = some (.cells #[.int .i64 t227, .int .i64 t228, .int .i64 t229, .slice Ao140 t230.length co140] 24 (0, 0))) := ⟨(by rw [hw]; exact (upF NB235_262.out BK235.out))⟩; have n10_ : Aside0 (w171.heap[gb244]? = some (.cells #[.int .i64 t236, .int .i64 t237, .int .i64 t238, .slice Ao149 t239.length co149] 24 (0, 0))) := ⟨(by rw [hw]; exact (upF NB244_262.out BK244.out))⟩; have n11_ : Aside0 (w171.heap[gb253]? = some (.cells #[.int .i64 t245, .int .i64 t246, .int .i64 t247, .slice Ao159 t248.length co159] 24 (0, 0))) := ⟨(by rw [hw]; exact (upF NB253_262.out BK253.out))⟩; have n12_ : Aside0 (w171.heap[gb262]? = some (.cells #[.int .i64 t254, .int .i64 t255, .int .i64 t256, .slice Ao170 t257.length co170] 24 (0, 0))) := ⟨(by rw [hw]; exact (by (with_reducible repeat (first | refine blk_drewN ?_ _ | refine blk_drew ?_ | refine blk_alloc ?_ _)); refine blk_put (cs := #[.int .i64 t254, .int .i64 t255, .int .i64 t256, .slice none 0 0]) ?_ 3 _ rfl; (with_reducible repeat (first | refine blk_drewN ?_ _ | refine blk_drew ?_ | refine blk_alloc ?_ _)); refine blk_put (cs := #[.int .i64 t254, .int .i64 t255, .int .i64 0, .slice none 0 0]) ?_ 2 _ rfl; (with_reducible repeat (first | refine blk_drewN ?_ _ | refine blk_drew ?_ | refine blk_alloc ?_ _)); refine blk_put (cs := #[.int .i64 t254, .int .i64 0, .int .i64 0, .slice none 0 0]) ?_ 1 _ rfl; (with_reducible repeat (first | refine blk_drewN ?_ _ | refine blk_drew ?_ | refine blk_alloc ?_ _)); refine blk_put (cs := #[.int .i64 0, .int .i64 0, .int .i64 0, .slice none 0 0]) ?_ 0 _ rfl; (with_reducible repeat (first | refine blk_drewN ?_ _ | refine blk_drew ?_ | refine blk_alloc ?_ _)); exact BK262.out))⟩; have n13_ : Aside0 (Below w.heap.size w w171) := ⟨(by rw [hw]; exact (by repeat (first | (with_reducible first | exact HB.out | apply below_alloc | apply pw_below_drewN | apply below_drew1 | refine below_set ?_ GE202.out | refine below_set ?_ GE209.out | refine below_set ?_ GE223.out | refine below_set ?_ GE235.out | refine below_set ?_ GE244.out | refine below_set ?_ GE253.out | refine below_set ?_ GE262.out) | exact HB.out)))⟩; clear hw; clear HO_203003; clear HO_210003; clear HO232; clear HO241; clear HO250; clear HO259; clear BK202; clear BK209; clear BK223; clear BK235; clear BK244; clear BK253; clear BK262; clear HB; have HO_203003 := n0_; have HO_210003 := n1_; have HO232 := n2_; have HO241 := n3_; have HO250 := n4_; have HO259 := n5_; have BK202 := n6_; have BK209 := n7_; have BK223 := n8_; have BK235 := n9_; have BK244 := n10_; have BK253 := n11_; have BK262 := n12_; have HB := n13_; clear n0_ n1_ n2_ n3_ n4_ n5_ n6_ n7_ n8_ n9_ n10_ n11_ n12_ n13_; have hnb172 := NB209_202.out; have hnc172 := NB202_209.out; have hnb173 := NB209_223.out; have hnc173 := NB223_209.out; have hcz174_0 : w171.cell? ⟨gb209, 0, none⟩ = some (.int .i64 x210000_6) := (blk_cell BK209.out 0).trans rfl; have hcz174_1 : w171.cell? ⟨gb209, 1, none⟩ = some (.int .i64 x210001_6) := (blk_cell BK209.out 1).trans rfl; have hcz174_2 : w171.cell? ⟨gb209, 2, none⟩ = some (.int .i64 x210002_6) := (blk_cell BK209.out 2).trans rfl; have hcz174_3 : w171.cell? ⟨gb209, 3, none⟩ = some (.slice Ao97 x210003_6.length co97) := (blk_cell BK209.out 3).trans rfl; have hfz174_0 := blk_frozen BK209.out 0; have hfz174_1 := blk_frozen BK209.out 1; have hfz174_2 := blk_frozen BK209.out 2; have hfz174_3 := blk_frozen BK209.out 3) | ((with_reducible refine gate_callee (f := 21) rfl ?_); refine goesL_ (some 190) rfl rfl Try.func21 (by kernel_rfl) rfl #[.agg #[.int .i64 x210000_6, .int .i64 x210001_6, .int .i64 x210002_6, .slice Ao97 x210003_6.length co97]] rfl (by (try simp only [List.map_toArray, List.map_cons, List.map_nil]); first | done | rfl | (simp only [List.length_drop, List.length_take]; rfl)) ?_; (with_reducible refine (lsa_May.calls kj93 x210000_6 x210001_6 x210002_6 _ _ x210003_6 false _ ?side1 ?side2 A118.out).mono ?_); (case side1 => repeat (first | exact (Kd.R_reads' HO_210003.out).2.2 | (with_reducible refine Kd.C_alloc ?_ _) | (with_reducible refine Kd.C_drewN ?_ _) | (with_reducible refine Kd.C_drew ?_))); (case side2 => exact (Kd.R_reads' HO_210003.out).2.1); rintro e w175 ⟨rfl, hb⟩; refine ⟨_, rfl, ?_⟩; have n0_ := Aside0.mk (Kd.R_below (upR HO_203003.out) hb); have n1_ := Aside0.mk (Kd.R_below (upR HO_210003.out) hb); have n2_ := Aside0.mk (Kd.R_below (upR HO232.out) hb); have n3_ := Aside0.mk (Kd.R_below (upR HO241.out) hb); have n4_ := Aside0.mk (Kd.R_below (upR HO250.out) hb); have n5_ := Aside0.mk (Kd.R_below (upR HO259.out) hb); have n6_ := Aside0.mk (blk_below (upB BK202.out) hb); have n7_ := Aside0.mk (blk_below (upB BK209.out) hb); have n8_ := Aside0.mk (blk_below (upB BK223.out) hb); have n9_ := Aside0.mk (blk_below (upB BK235.out) hb); have n10_ := Aside0.mk (blk_below (upB BK244.out) hb); have n11_ := Aside0.mk (blk_below (upB BK253.out) hb); have n12_ := Aside0.mk (blk_below (upB BK262.out) hb); have n13_ := Aside0.mk (below_step (by repeat (first | (with_reducible first | exact HB.out | apply below_alloc | apply pw_below_drewN | apply below_drew1 | refine below_set ?_ GE202.out | refine below_set ?_ GE209.out | refine below_set ?_ GE223.out | refine below_set ?_ GE235.out | refine below_set ?_ GE244.out | refine below_set ?_ GE253.out | refine below_set ?_ GE262.out) | exact HB.out)) hb); clear HO_203003; clear HO_210003; clear HO232; clear HO241; clear HO250; clear HO259; clear BK202; clear BK209; clear BK223; clear BK235; clear BK244; clear BK253; clear BK262; clear HB; have HO_203003 := n0_; have HO_210003 := n1_; have HO232 := n2_; have HO241 := n3_; have HO250 := n4_; have HO259 := n5_; have BK202 := n6_; have BK209 := n7_; have BK223 := n8_; have BK235 := n9_; have BK244 := n10_; have BK253 := n11_; have BK262 := n12_; have HB := n13_; clear n0_ n1_ n2_ n3_ n4_ n5_ n6_ n7_ n8_ n9_ n10_ n11_ n12_ n13_; (try clear hb); (try clear hb2); (try clear hk); (try clear hi); have hnb176 := NB202_223.out; have hnc176 := NB223_202.out; have hcz177_0 : w175.cell? ⟨gb202, 0, none⟩ = some (.int .i64 2) := (blk_cell BK202.out 0).trans rfl; have hcz177_1 : w175.cell? ⟨gb202, 1, none⟩ = some (.int .i64 5) := (blk_cell BK202.out 1).trans rfl; have hcz177_2 : w175.cell? ⟨gb202, 2, none⟩ = some (.int .i64 3) := (blk_cell BK202.out 2).trans rfl; have hcz177_3 : w175.cell? ⟨gb202, 3, none⟩ = some (.slice Ao107 x203003_6.length co107) := (blk_cell BK202.out 3).trans rfl; have hfz177_0 := blk_frozen BK202.out 0; have hfz177_1 := blk_frozen BK202.out 1; have hfz177_2 := blk_frozen BK202.out 2; have hfz177_3 := blk_frozen BK202.out 3) | (go_at_call 21; (with_reducible refine (lsa_May.calls kj93 2 5 3 _ _ x203003_6 true _ ?side1 ?side2 A120.out).mono ?_); (case side1 => repeat (first | exact (Kd.R_reads' HO_203003.out).2.2 | (with_reducible refine Kd.C_alloc ?_ _) | (with_reducible refine Kd.C_drewN ?_ _) | (with_reducible refine Kd.C_drew ?_))); (case side2 => exact (Kd.R_reads' HO_203003.out).2.1); rintro e w178 ⟨rfl, hb⟩; have n0_ := Aside0.mk (Kd.R_below (upR HO_203003.out) hb); have n1_ := Aside0.mk (Kd.R_below (upR HO_210003.out) hb); have n2_ := Aside0.mk (Kd.R_below (upR HO232.out) hb); have n3_ := Aside0.mk (Kd.R_below (upR HO241.out) hb); have n4_ := Aside0.mk (Kd.R_below (upR HO250.out) hb); have n5_ := Aside0.mk (Kd.R_below (upR HO259.out) hb); have n6_ := Aside0.mk (blk_below (upB BK202.out) hb); have n7_ := Aside0.mk (blk_below (upB BK209.out) hb); have n8_ := Aside0.mk (blk_below (upB BK223.out) hb); have n9_ := Aside0.mk (blk_below (upB BK235.out) hb); have n10_ := Aside0.mk (blk_below (upB BK244.out) hb); have n11_ := Aside0.mk (blk_below (upB BK253.out) hb); have n12_ := Aside0.mk (blk_below (upB BK262.out) hb); have n13_ := Aside0.mk (below_step (by repeat (first | (with_reducible first | exact HB.out | apply below_alloc | apply pw_below_drewN | apply below_drew1 | refine below_set ?_ GE202.out | refine below_set ?_ GE209.out | refine below_set ?_ GE223.out | refine below_set ?_ GE235.out | refine below_set ?_ GE244.out | refine below_set ?_ GE253.out | refine below_set ?_ GE262.out) | exact HB.out)) hb); clear HO_203003; clear HO_210003; clear HO232; clear HO241; clear HO250; clear HO259; clear BK202; clear BK209; clear BK223; clear BK235; clear BK244; clear BK253; clear BK262; clear HB; have HO_203003 := n0_; have HO_210003 := n1_; have HO232 := n2_; have HO241 := n3_; have HO250 := n4_; have HO259 := n5_; have BK202 := n6_; have BK209 := n7_; have BK223 := n8_; have BK235 := n9_; have BK244 := n10_; have BK253 := n11_; have BK262 := n12_; have HB := n13_; clear n0_ n1_ n2_ n3_ n4_ n5_ n6_ n7_ n8_ n9_ n10_ n11_ n12_ n13_; (try clear hb); (try clear hb2); (try clear hk); (try clear hi)) | (go_at_call 19; (with_reducible refine (watchwordlaw0_Num.calls t217 t265 _ A123.out).mono ?_); rintro e w' ⟨rfl, ⟨nd, rfl⟩⟩) | (go_at_call 19; (with_reducible refine (watchwordlaw0_Num.calls t222 t266 _ A125.out).mono ?_); rintro e w' ⟨rfl, ⟨nd, rfl⟩⟩) | (go_at_call 19; (with_reducible refine (watchwordlaw0_Num.calls t234 t267 _ A127.out).mono ?_); rintro e w' ⟨rfl, ⟨nd, rfl⟩⟩) | (go_at_call 19; (with_reducible refine (watchwordlaw0_Num.calls t243 t268 _ A129.out).mono ?_); rintro e w' ⟨rfl, ⟨nd, rfl⟩⟩) | (go_at_call 19; (with_reducible refine (watchwordlaw0_Num.calls t252 t269 _ A131.out).mono ?_); rintro e w' ⟨rfl, ⟨nd, rfl⟩⟩) | (go_at_call 19; (with_reducible refine (watchwordlaw0_Num.calls t261 t270 _ A133.out).mono ?_); rintro e w' ⟨rfl, ⟨nd, rfl⟩⟩))
                 go_ret
                 exact ⟨by first | rfl | (simp [errW_none, errW_some] <;> rfl) | (simp [*, errW_none, errW_some] <;> rfl), by repeat (first | (with_reducible first | exact HB.out | apply below_alloc | apply pw_below_drewN | apply below_drew1 | refine below_set ?_ GE202.out | refine below_set ?_ GE209.out | refine below_set ?_ GE223.out | refine below_set ?_ GE235.out | refine below_set ?_ GE244.out | refine below_set ?_ GE253.out | refine below_set ?_ GE262.out) | exact HB.out)⟩
                ·rw [if_neg c132] at H
                 have c132b0 : (t269 == 700) = false := beq_eq_false_iff_ne.mpr c132
                 have c132b1 : (t269 != 700) = true := bne_iff_ne.mpr c132
                 exact absurd (Option.some.inj H) (by rw [HT.out]; decide)
               ·rw [if_neg c130] at H
                have c130b0 : (t268 == 700) = false := beq_eq_false_iff_ne.mpr c130
                have c130b1 : (t268 != 700) = true := bne_iff_ne.mpr c130
                exact absurd (Option.some.inj H) (by rw [HT.out]; decide)
              ·rw [if_neg c128] at H
               have c128b0 : (t267 == 700) = false := beq_eq_false_iff_ne.mpr c128
               have c128b1 : (t267 != 700) = true := bne_iff_ne.mpr c128
               exact absurd (Option.some.inj H) (by rw [HT.out]; decide)
             ·rw [if_neg c126] at H
              have c126b0 : (t266 == 700) = false := beq_eq_false_iff_ne.mpr c126
              have c126b1 : (t266 != 700) = true := bne_iff_ne.mpr c126
              exact absurd (Option.some.inj H) (by rw [HT.out]; decide)
            ·rw [if_neg c124] at H
             have c124b0 : (t265 == 700) = false := beq_eq_false_iff_ne.mpr c124
             have c124b1 : (t265 != 700) = true := bne_iff_ne.mpr c124
             exact absurd (Option.some.inj H) (by rw [HT.out]; decide)
           ·rw [if_neg c122] at H
            have c122b0 : (t216.toList == ([] : List UInt8)) = false := beq_eq_false_iff_ne.mpr c122
            have c122b1 : (t216.toList != ([] : List UInt8)) = true := bne_iff_ne.mpr c122
            exact absurd (Option.some.inj H) (by rw [HT.out]; decide)
          ·replace c121 := Bool.eq_false_iff.mpr c121
           subst c121
           have H1 : (some false) = some r := by rw [if_neg (show ¬ (false = true) by decide)] at H; exact H
           clear H
           have H := H1
           clear H1
           exact absurd (Option.some.inj H) (by rw [HT.out]; decide)
        ·rw [if_neg c114] at H
         exact absurd H (by simp)
       ·rw [if_neg c113] at H
        exact absurd H (by simp)
 ·replace c5 := Bool.eq_false_iff.mpr c5
  subst c5
  have H1 : (some false) = some r := by rw [if_neg (show ¬ (false = true) by decide)] at H; exact H
  clear H
  have H := H1
  clear H1
  exact absurd (Option.some.inj H) (by rw [HT.out]; decide)

/-- The one plain statement. -/
def watchwordlaw7_LsaForms.Pure : Prop := ∀ (a0 : Int) (a1 : Int), (Lit.int .i64 a0).wf = true → (Lit.int .i64 a1).wf = true → ∃ k, watchwordlaw7_LsaForms.f k a0 a1 (alterB a0 a1) = some true
theorem watchwordlaw7_LsaForms.walk (P : watchwordlaw7_LsaForms.Pure) (a0 : Int) (a1 : Int) (w : World) (w0 : (Lit.int .i64 a0).wf = true) (w1 : (Lit.int .i64 a1).wf = true) :
  Calls Try.prog 5 #[.int .i64 a0, .int .i64 a1] w fun e w' => e = .returned (.bool true) ∧ Below w.heap.size w w' := by
 obtain ⟨k, h⟩ := P a0 a1 w0 w1
 refine (watchwordlaw7_LsaForms.calls k a0 a1 (alterB a0 a1) rfl true w h rfl).mono ?_
 rintro e w' ⟨rfl, hd⟩
 exact ⟨rfl, hd⟩

end Go.Proofs.Ytmcajcomoegkdaa.Q7f
