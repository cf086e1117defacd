/- What the plain laws of this seat use: a text's bytes as whole numbers, and numbers as bytes. -/
import Derived.Test.YtmcajcomoegkdaaWMore
import Derived.Lib.Strings
namespace Go.Proofs.Ytmcajcomoegkdaa.Base
open Go.RowKit Go.Proofs.YtmcajcomoegkdaaW.PrintWords Go.Proofs.YtmcajcomoegkdaaW.PrintLast Go.Proofs.YtmcajcomoegkdaaW.PrintMore
set_option linter.unusedVariables false

/-! ### Texts as lists of numbers -/
def B (s : ByteArray) : List Int := s.data.toList.map fun b => (b.toNat : Int)
def Byt (l : List Int) : Prop := ∀ x ∈ l, 0 ≤ x ∧ x < 256
theorem B_len (s : ByteArray) : (B s).length = s.size := by simp [B]
theorem B_byt (s : ByteArray) : Byt (B s) := by
  intro x hx
  simp only [B, List.mem_map] at hx
  obtain ⟨b, _, rfl⟩ := hx
  have := b.toNat_lt
  omega
theorem map_toNat_inj : ∀ {l l' : List UInt8}, l.map (fun b => (b.toNat : Int)) = l'.map (fun b => (b.toNat : Int)) → l = l'
  | [], [], _ => rfl
  | [], _ :: _, h => by simp at h
  | _ :: _, [], h => by simp at h
  | a :: l, b :: l', h => by
    simp only [List.map_cons, List.cons.injEq] at h
    obtain ⟨h1, h2⟩ := h
    have : a = b := UInt8.toNat_inj.mp (by exact_mod_cast h1)
    rw [this, map_toNat_inj h2]
theorem B_inj {s t : ByteArray} (h : B s = B t) : s = t := by
  have := map_toNat_inj h
  cases s; cases t
  simp only [ByteArray.mk.injEq]
  exact Array.toList_inj.mp this
theorem toList_iff (s t : ByteArray) : s.toList = t.toList ↔ B s = B t := by
  rw [Lib.toList_data, Lib.toList_data]
  constructor
  · intro h; simp only [B, h]
  · exact map_toNat_inj
theorem toList_iff_lit (s : ByteArray) (l : List UInt8) : s.toList = l ↔ B s = l.map (fun b => (b.toNat : Int)) := by
  rw [Lib.toList_data]
  constructor
  · intro h; simp only [B, h]
  · exact map_toNat_inj
theorem B_append (s t : ByteArray) : B (s ++ t) = B s ++ B t := by simp [B, ByteArray.data_append]
theorem B_mk (a : Array UInt8) : B ⟨a⟩ = a.toList.map (fun b => (b.toNat : Int)) := rfl
theorem B_strOf {l : List Int} (h : Byt l) : B (strOfNums l) = l := by
  unfold B strOfNums
  simp only [List.map_map]
  conv => rhs; rw [← List.map_id l]
  apply List.map_congr_left
  intro x hx
  obtain ⟨h0, h1⟩ := h x hx
  simp only [Function.comp, id, UInt8.toNat_ofNat']
  omega
theorem strOf_B (s : ByteArray) : strOfNums (B s) = s := B_inj (B_strOf (B_byt s))
theorem strOf_size (l : List Int) : (strOfNums l).size = l.length := by show (Array.size _) = _; simp
theorem strOf_append (l l' : List Int) : strOfNums l ++ strOfNums l' = strOfNums (l ++ l') := by
  have : (strOfNums l ++ strOfNums l').data = (strOfNums (l ++ l')).data := by simp [strOfNums, ByteArray.data_append]
  exact ByteArray.ext this
theorem B_extract (s : ByteArray) (a b : Nat) : B (s.extract a b) = ((B s).drop a).take (b - a) := by
  unfold B
  rw [Lib.extract_data, List.map_take, List.map_drop]
theorem bt_B (s : ByteArray) (i : Int) : bt s i = (B s).getD i.toNat 0 := by
  unfold bt B
  split
  · rename_i h
    rw [List.getD_eq_getElem?_getD, List.getElem?_map]
    have : i.toNat < s.data.toList.length := by simpa using h
    rw [List.getElem?_eq_getElem this]
    rfl
  · rename_i h
    rw [List.getD_eq_getElem?_getD, List.getElem?_map]
    have : s.data.toList.length ≤ i.toNat := by simp only [Array.length_toList]; have : s.size = s.data.size := rfl; omega
    rw [List.getElem?_eq_none this]
    rfl
theorem byt_mod (x : Int) : 0 ≤ x % 256 ∧ x % 256 < 256 := by omega
theorem byt_nil : Byt [] := fun _ h => by cases h
theorem byt_cons {x : Int} {l : List Int} (h : 0 ≤ x ∧ x < 256) (hl : Byt l) : Byt (x :: l) := by
  intro y hy
  rcases List.mem_cons.mp hy with rfl | hy
  · exact h
  · exact hl y hy
theorem byt_append {l l' : List Int} (h : Byt l) (h' : Byt l') : Byt (l ++ l') := by
  intro y hy
  rcases List.mem_append.mp hy with hy | hy
  · exact h y hy
  · exact h' y hy
theorem byt_take {l : List Int} (n : Nat) (h : Byt l) : Byt (l.take n) := fun y hy => h y (List.mem_of_mem_take hy)
theorem byt_drop {l : List Int} (n : Nat) (h : Byt l) : Byt (l.drop n) := fun y hy => h y (List.mem_of_mem_drop hy)

/-! ### Numbers in bytes -/
def e1 (x : Int) : List Int := [x % 256]
def e2 (x : Int) : List Int := [x / 256 % 256, x % 256]
def e4 (x : Int) : List Int := [x / 16777216 % 256, x / 65536 % 256, x / 256 % 256, x % 256]
theorem e1_byt (x : Int) : Byt (e1 x) := byt_cons (byt_mod _) byt_nil
theorem e2_byt (x : Int) : Byt (e2 x) := byt_cons (byt_mod _) (byt_cons (byt_mod _) byt_nil)
theorem e4_byt (x : Int) : Byt (e4 x) := byt_cons (byt_mod _) (byt_cons (byt_mod _) (byt_cons (byt_mod _) (byt_cons (byt_mod _) byt_nil)))
theorem e1_len (x : Int) : (e1 x).length = 1 := rfl
theorem e2_len (x : Int) : (e2 x).length = 2 := rfl
theorem e4_len (x : Int) : (e4 x).length = 4 := rfl
def num (l : List Int) : Int := l.foldl (fun a b => a * 256 + b) 0
theorem num_two (a b : Int) : num [a, b] = a * 256 + b := by simp [num]
theorem num_four (a b c d : Int) : num [a, b, c, d] = a * 16777216 + b * 65536 + c * 256 + d := by simp [num]; omega
theorem num_e2 {x : Int} (h0 : 0 ≤ x) (h1 : x < 65536) : num (e2 x) = x := by unfold e2; rw [num_two]; omega
theorem num_e4 {x : Int} (h0 : 0 ≤ x) (h1 : x < 4294967296) : num (e4 x) = x := by unfold e4; rw [num_four]; omega
theorem e2_num {a b : Int} (ha : 0 ≤ a ∧ a < 256) (hb : 0 ≤ b ∧ b < 256) : e2 (num [a, b]) = [a, b] := by
  rw [num_two]; unfold e2
  simp only [List.cons.injEq, and_true]
  omega
theorem e4_num {a b c d : Int} (ha : 0 ≤ a ∧ a < 256) (hb : 0 ≤ b ∧ b < 256) (hc : 0 ≤ c ∧ c < 256) (hd : 0 ≤ d ∧ d < 256) : e4 (num [a, b, c, d]) = [a, b, c, d] := by
  rw [num_four]; unfold e4
  simp only [List.cons.injEq, and_true]
  omega
theorem num_two_range {a b : Int} (ha : 0 ≤ a ∧ a < 256) (hb : 0 ≤ b ∧ b < 256) : 0 ≤ num [a, b] ∧ num [a, b] < 65536 := by rw [num_two]; omega
theorem num_four_range {a b c d : Int} (ha : 0 ≤ a ∧ a < 256) (hb : 0 ≤ b ∧ b < 256) (hc : 0 ≤ c ∧ c < 256) (hd : 0 ≤ d ∧ d < 256) : 0 ≤ num [a, b, c, d] ∧ num [a, b, c, d] < 4294967296 := by rw [num_four]; omega
theorem e2_inj {x y : Int} (hx : 0 ≤ x ∧ x < 65536) (hy : 0 ≤ y ∧ y < 65536) (h : e2 x = e2 y) : x = y := by
  have := congrArg num h
  rwa [num_e2 hx.1 hx.2, num_e2 hy.1 hy.2] at this
theorem e4_inj {x y : Int} (hx : 0 ≤ x ∧ x < 4294967296) (hy : 0 ≤ y ∧ y < 4294967296) (h : e4 x = e4 y) : x = y := by
  have := congrArg num h
  rwa [num_e4 hx.1 hx.2, num_e4 hy.1 hy.2] at this

/-! ### Bits -/
theorem wrap_id {x : Int} (h0 : -9223372036854775808 ≤ x) (h1 : x ≤ 9223372036854775807) : wrap64 x = x := by unfold wrap64; omega
theorem wraps_i64 (n : Int) (h₀ : 0 ≤ n) (h₁ : n < 2 ^ 63) : IntKind.i64.wrap n = n := by rw [IntKind.wrap_i64]; omega
theorem or_byte {x y : Int} (hx₀ : 0 ≤ x) (hx₁ : x < 9223372036854775808) (hx : x % 256 = 0) (h₀ : 0 ≤ y) (h₁ : y < 256) : Go.bits .or .i64 x y = x + y :=
  bits_join .i64 63 (by decide) wraps_i64 8 x y hx₀ hx hx₁ h₀ h₁ (by omega)
theorem and_mask (i : Nat) (hi : i ≤ 62) (n : Int) : Go.bits .and .i64 n ((2 ^ i - 1 : Nat) : Int) = n % ((2 ^ i : Nat) : Int) := by
  have hp : 2 ^ i ≤ 2 ^ 62 := Nat.pow_le_pow_right (by decide) hi
  have hpos : 0 < 2 ^ i := Nat.two_pow_pos i
  have hm : (BitVec.ofInt 64 ((2 ^ i - 1 : Nat) : Int)).toNat = 2 ^ i - 1 := by
    rw [BitVec.ofInt_natCast, BitVec.toNat_ofNat]
    apply Nat.mod_eq_of_lt
    omega
  have key : (BitVec.ofInt 64 n &&& BitVec.ofInt 64 ((2 ^ i - 1 : Nat) : Int)).toNat = (n % ((2 ^ 64 : Nat) : Int)).toNat % 2 ^ i := by
    rw [BitVec.toNat_and, BitVec.toNat_ofInt, hm, Nat.and_two_pow_sub_one_eq_mod]
  show IntKind.i64.wrap ((BitVec.ofInt 64 n &&& BitVec.ofInt 64 ((2 ^ i - 1 : Nat) : Int)).toNat : Nat) = _
  rw [key]
  have hd : ((2 ^ i : Nat) : Int) ∣ ((2 ^ 64 : Nat) : Int) := by
    have : (2 ^ i) ∣ (2 ^ 64) := Nat.pow_dvd_pow 2 (by omega)
    exact_mod_cast this
  have h2 : (((n % ((2 ^ 64 : Nat) : Int)).toNat % 2 ^ i : Nat) : Int) = n % ((2 ^ i : Nat) : Int) := by
    rw [Int.natCast_emod, Int.toNat_of_nonneg (by omega), Int.emod_emod_of_dvd _ hd]
  rw [h2]
  have hlt : n % ((2 ^ i : Nat) : Int) < ((2 ^ i : Nat) : Int) := Int.emod_lt_of_pos _ (by exact_mod_cast hpos)
  have h0 : 0 ≤ n % ((2 ^ i : Nat) : Int) := Int.emod_nonneg _ (by have : ((2 ^ i : Nat) : Int) ≠ 0 := by exact_mod_cast Nat.pos_iff_ne_zero.mp hpos
                                                                   exact this)
  have hle : ((2 ^ i : Nat) : Int) ≤ ((2 ^ 62 : Nat) : Int) := by exact_mod_cast hp
  exact wraps_i64 _ h0 (by have : ((2 ^ 62 : Nat) : Int) < 2 ^ 63 := by decide
                           omega)
theorem and1 (n : Int) : Go.bits .and .i64 n 1 = n % 2 := and_mask 1 (by decide) n
theorem and3 (n : Int) : Go.bits .and .i64 n 3 = n % 4 := and_mask 2 (by decide) n
theorem and15 (n : Int) : Go.bits .and .i64 n 15 = n % 16 := and_mask 4 (by decide) n
theorem and127 (n : Int) : Go.bits .and .i64 n 127 = n % 128 := and_mask 7 (by decide) n
theorem and255 (n : Int) : Go.bits .and .i64 n 255 = n % 256 := and_mask 8 (by decide) n
theorem and1023 (n : Int) : Go.bits .and .i64 n 1023 = n % 1024 := and_mask 10 (by decide) n

theorem empty_list : (⟨#[]⟩ : ByteArray).toList = ([] : List UInt8) := by rw [Lib.toList_data]
def lim : Nat → Int
  | 0 => 1
  | i + 1 => lim i * 256
theorem lim_succ (i : Nat) : lim (i + 1) = lim i * 256 := rfl
theorem lim_le6 {i : Nat} (h : i ≤ 6) : lim i ≤ 281474976710656 := by
  have : i = 0 ∨ i = 1 ∨ i = 2 ∨ i = 3 ∨ i = 4 ∨ i = 5 ∨ i = 6 := by omega
  rcases this with rfl | rfl | rfl | rfl | rfl | rfl | rfl <;> decide
theorem byt_getD {l : List Int} (h : Byt l) (i : Nat) : 0 ≤ l.getD i 0 ∧ l.getD i 0 < 256 := by
  rw [List.getD_eq_getElem?_getD]
  by_cases hi : i < l.length
  · rw [List.getElem?_eq_getElem hi]; exact h _ (List.getElem_mem hi)
  · rw [List.getElem?_eq_none (by omega)]; simp

end Go.Proofs.Ytmcajcomoegkdaa.Base
