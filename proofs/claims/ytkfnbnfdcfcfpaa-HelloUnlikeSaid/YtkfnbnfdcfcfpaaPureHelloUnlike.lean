/- HelloUnlike: for all two numbers, the lists of routers that are drawn from their lowest four bits have the same bytes just where those bits are the same; no condition beyond the row's own. -/
import Derived.Test.YtkfnbnfdcfcfpaaQ9x2
import Derived.Test.YtkfnbnfdcfcfpaaL9
namespace Go.Proofs.Ytkfnbnfdcfcfpaa.Pure
open Go.RowKit Go.Proofs.YtkfnbnfdcfcfpaaW.PrintWords Go.Proofs.YtkfnbnfdcfcfpaaW.PrintLast Go.Proofs.YtkfnbnfdcfcfpaaW.PrintMore Go.Proofs.Ytkfnbnfdcfcfpaa.Base Go.Proofs.Ytkfnbnfdcfcfpaa.Q9 Go.Proofs.Ytkfnbnfdcfcfpaa.L9
set_option linter.unusedVariables false

theorem hello_bit (a : Int) (i : Nat) (h : i ≤ 3) : Go.bits .and .i64 (shr .i64 a (i : Int)) 1 = a / ((2 ^ i : Nat) : Int) % 2 := by
  rw [and1]
  have : i = 0 ∨ i = 1 ∨ i = 2 ∨ i = 3 := by omega
  rcases this with rfl | rfl | rfl | rfl <;> simp [shr, IntKind.bits]
def pick (a b c d : Bool) : List Int := (if a then [1] else []) ++ (if b then [2] else []) ++ (if c then [3] else []) ++ (if d then [4] else [])
theorem pick_heard : ∀ a b c d : Bool, heard 0 (pick a b c d) = true := by decide
theorem pick_inj : ∀ a b c d a' b' c' d' : Bool, helloBytes (pick a b c d) = helloBytes (pick a' b' c' d') ↔ (a = a' ∧ b = b' ∧ c = c' ∧ d = d') := by decide
theorem pick_len : ∀ a b c d : Bool, (pick a b c d).length ≤ 4 := by decide
def bit (x : Int) (i : Nat) : Bool := decide (x / ((2 ^ i : Nat) : Int) % 2 = 1)
def bitsOf (x : Int) : List Int := pick (bit x 0) (bit x 1) (bit x 2) (bit x 3)
theorem put_bits (x : Int) {k : Nat} (hk : 5 ≤ k) : hello_Put.f k (bitsOf x) = some (strOfNums (helloBytes (bitsOf x)), 0) := by
  have := pick_len (bit x 0) (bit x 1) (bit x 2) (bit x 3)
  rw [hello_Put_f (by unfold bitsOf; omega) (by unfold bitsOf; omega)]
  unfold bitsOf
  rw [if_pos (pick_heard _ _ _ _)]
theorem bits_same (a b : Int) : (helloBytes (bitsOf a) = helloBytes (bitsOf b)) ↔ a % 16 = b % 16 := by
  unfold bitsOf
  rw [pick_inj]
  simp only [bit, decide_eq_decide]
  omega
theorem step (a b : Int) (k i : Nat) (xs ys : List Int) (hi : i ≤ 3) (hx : xs.length ≤ 4) (hy : ys.length ≤ 4) :
    watchwordlaw9_HelloUnlike.l0 (k + 1) a b xs ys (i : Int) = watchwordlaw9_HelloUnlike.l0 k a b (xs ++ if bit a i then [(i : Int) + 1] else []) (ys ++ if bit b i then [(i : Int) + 1] else []) ((i + 1 : Nat) : Int) := by
  have h4 : wrap64 ((i : Int) + 1) = (i : Int) + 1 := wrap_id (by omega) (by omega)
  have h5 : ((i + 1 : Nat) : Int) = (i : Int) + 1 := by omega
  have ha : ∀ x : Int, (x / ((2 ^ i : Nat) : Int) % 2 = 1) ↔ bit x i = true := fun x => by unfold bit; rw [decide_eq_true_eq]
  simp only [watchwordlaw9_HelloUnlike.l0, hello_bit a i hi, hello_bit b i hi, ha, h4, h5, Option.bind_some]
  rw [if_pos (by omega), if_pos (by omega)]
  have hx' : xs.length < 17592186044416 := by omega
  have hy' : ys.length < 17592186044416 := by omega
  cases bit a i <;> cases bit b i <;> simp [hx', hy']
theorem fin_ (a b : Int) (k : Nat) (hk : 5 ≤ k) : watchwordlaw9_HelloUnlike.l0 (k + 1) a b (bitsOf a) (bitsOf b) 4 =
    some (((strOfNums (helloBytes (bitsOf a))).toList == (strOfNums (helloBytes (bitsOf b))).toList) == ((a % 16) == (b % 16))) := by
  simp only [watchwordlaw9_HelloUnlike.l0, put_bits _ hk, watchwordlaw0_Num.f, Option.bind_some, if_true, and15]
  rw [if_neg (by decide)]
theorem HelloUnlike : watchwordlaw9_HelloUnlike.Pure := by
  intro a0 a1 h0 h1
  refine ⟨107, ?_⟩
  simp only [watchwordlaw9_HelloUnlike.f, awake_ok (show 100 ≤ 107 by decide), Option.bind_some, if_true]
  have l1 : ∀ c : Bool, ∀ n : Int, (if c then [n] else []).length ≤ 1 := by intro c n; cases c <;> simp
  have e0 := step a0 a1 106 0 [] [] (by omega) (by simp) (by simp)
  have e1 := step a0 a1 105 1 ([] ++ if bit a0 0 then [((0 : Nat) : Int) + 1] else []) ([] ++ if bit a1 0 then [((0 : Nat) : Int) + 1] else []) (by omega)
    (by simp only [List.nil_append]; have := l1 (bit a0 0) (((0 : Nat) : Int) + 1); omega) (by simp only [List.nil_append]; have := l1 (bit a1 0) (((0 : Nat) : Int) + 1); omega)
  have hb : ∀ (a : Int), ((([] ++ if bit a 0 then [((0 : Nat) : Int) + 1] else []) ++ if bit a 1 then [((1 : Nat) : Int) + 1] else []) ++ if bit a 2 then [((2 : Nat) : Int) + 1] else []) ++ (if bit a 3 then [((3 : Nat) : Int) + 1] else []) = bitsOf a := by
    intro a; unfold bitsOf pick; simp
  have l2 : ∀ a : Int, (([] ++ if bit a 0 then [((0 : Nat) : Int) + 1] else []) ++ if bit a 1 then [((1 : Nat) : Int) + 1] else []).length ≤ 4 := by
    intro a; cases bit a 0 <;> cases bit a 1 <;> simp
  have l3 : ∀ a : Int, ((([] ++ if bit a 0 then [((0 : Nat) : Int) + 1] else []) ++ if bit a 1 then [((1 : Nat) : Int) + 1] else []) ++ if bit a 2 then [((2 : Nat) : Int) + 1] else []).length ≤ 4 := by
    intro a; cases bit a 0 <;> cases bit a 1 <;> cases bit a 2 <;> simp
  have e2 := step a0 a1 104 2 _ _ (by omega) (l2 a0) (l2 a1)
  have e3 := step a0 a1 103 3 _ _ (by omega) (l3 a0) (l3 a1)
  have E := e0.trans (e1.trans (e2.trans e3))
  rw [hb, hb] at E
  refine Eq.trans E ?_
  refine (fin_ a0 a1 102 (by decide)).trans ?_
  have hp := pick_heard
  have hB : ∀ a : Int, Byt (helloBytes (bitsOf a)) := fun a => helloBytes_byt (hp _ _ _ _)
  have hq : ((strOfNums (helloBytes (bitsOf a0))).toList == (strOfNums (helloBytes (bitsOf a1))).toList) = decide (a0 % 16 = a1 % 16) := by
    rw [Bool.eq_iff_iff, beq_iff_eq, toList_iff, B_strOf (hB _), B_strOf (hB _), bits_same, decide_eq_true_eq]
  rw [hq]
  by_cases e : a0 % 16 = a1 % 16 <;> simp [e]

end Go.Proofs.Ytkfnbnfdcfcfpaa.Pure
