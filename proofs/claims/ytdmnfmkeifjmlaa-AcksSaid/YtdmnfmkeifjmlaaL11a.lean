/- What the functions of the layer 'ack' come to, in plain lists; the document's own, too. -/
import Derived.Test.YtdmnfmkeifjmlaaQ11ax123
import Derived.Test.YtdmnfmkeifjmlaaQ11ax103
import Derived.Test.YtdmnfmkeifjmlaaBase
namespace Go.Proofs.Ytdmnfmkeifjmlaa.L11a
open Go.RowKit Go.Proofs.YtdmnfmkeifjmlaaW.PrintWords Go.Proofs.YtdmnfmkeifjmlaaW.PrintLast Go.Proofs.YtdmnfmkeifjmlaaW.PrintMore Go.Proofs.Ytdmnfmkeifjmlaa.Base Go.Proofs.Ytdmnfmkeifjmlaa.Q11a
set_option linter.unusedVariables false
set_option linter.unusedSimpArgs false
/-! ### lsa: One, Two, Four, Number -/
theorem lsa_One_f (x : Int) : lsa_One.f x = some (strOfNums (e1 x)) := rfl
theorem lsa_Two_f (x : Int) : lsa_Two.f x = some (strOfNums (e2 x)) := rfl
theorem lsa_Four_f (x : Int) : lsa_Four.f x = some (strOfNums (e4 x)) := by
  simp only [lsa_Four.f, lsa_Two_f, Option.bind_some, strOf_append, strOf_size, e2_len]
  rw [if_pos (by decide)]
  have h1 : x / 65536 / 256 = x / 16777216 := by omega
  simp only [e2, e4, List.cons_append, List.nil_append, h1]
theorem lsa_Number_step {acc : Int} {s : ByteArray} {i k d : Nat} (hd : i + (d + 1) = s.size) (hi : i ≤ 6) (h0 : 0 ≤ acc) (h1 : acc < lim i) :
    lsa_Number.l0 (k + 1) s acc (s.size : Int) (i : Int) = lsa_Number.l0 k s (acc * 256 + (B s).getD i 0) (s.size : Int) ((i + 1 : Nat) : Int) := by
  have hb : bt s (i : Int) = (B s).getD i 0 := by rw [bt_B, Int.toNat_natCast]
  have hr := byt_getD (B_byt s) i
  have hp : lim i ≤ 281474976710656 := lim_le6 hi
  have h2 : wrap64 (acc * 256) = acc * 256 := wrap_id (by omega) (by omega)
  have h3 : wrap64 ((B s).getD i 0) = (B s).getD i 0 := wrap_id (by omega) (by omega)
  have h4 : wrap64 ((i : Int) + 1) = ((i + 1 : Nat) : Int) := by rw [wrap_id (by omega) (by omega)]; omega
  have h5 : Go.bits .or .i64 (acc * 256) ((B s).getD i 0) = acc * 256 + (B s).getD i 0 := or_byte (by omega) (by omega) (by omega) hr.1 hr.2
  simp only [lsa_Number.l0]
  rw [if_pos (by omega), if_pos (by omega), if_pos (by omega), hb, h2, h3, h4, h5]
theorem lsa_Number_l {s : ByteArray} (hs : s.size ≤ 7) : ∀ (d k i : Nat) (acc : Int), i + d = s.size → d < k → 0 ≤ acc → acc < lim i →
    lsa_Number.l0 k s acc (s.size : Int) (i : Int) = some (((B s).drop i).foldl (fun a b => a * 256 + b) acc) := by
  intro d
  induction d with
  | zero =>
    intro k i acc hi hk h0 h1
    obtain ⟨k, rfl⟩ : ∃ m, k = m + 1 := ⟨k - 1, by omega⟩
    simp only [lsa_Number.l0]
    rw [if_neg (by omega), List.drop_of_length_le (by rw [B_len]; omega)]
    rfl
  | succ d ih =>
    intro k i acc hi hk h0 h1
    obtain ⟨k, rfl⟩ : ∃ m, k = m + 1 := ⟨k - 1, by omega⟩
    have hlt : i < (B s).length := by rw [B_len]; omega
    have hd : (B s).drop i = (B s).getD i 0 :: (B s).drop (i + 1) := by
      rw [List.drop_eq_getElem_cons hlt, List.getD_eq_getElem?_getD, List.getElem?_eq_getElem hlt, Option.getD_some]
    have hr := byt_getD (B_byt s) i
    have hl := lim_succ i
    rw [lsa_Number_step hi (by omega) h0 h1, ih k (i + 1) _ (by omega) (by omega) (by omega) (by omega), hd, List.foldl_cons]
theorem lsa_Number_f {s : ByteArray} (hs : s.size ≤ 7) {k : Nat} (hk : 8 ≤ k) : lsa_Number.f k s = some (num (B s)) :=
  lsa_Number_l hs s.size k 0 0 (by omega) (by omega) (by omega) (by decide)
/-! ### ack.Head -/
def AckOk (r s g m : Int) : Prop := 1 ≤ r ∧ r ≤ 4 ∧ 1 ≤ s ∧ s ≤ 2147483647 ∧ 0 ≤ g ∧ g ≤ 60 ∧ 0 ≤ m ∧ m ≤ 65535
instance (r s g m : Int) : Decidable (AckOk r s g m) := by unfold AckOk; infer_instance
theorem ack_Head_f (r s g m : Int) : ack_Head.f r s g m = some (decide (AckOk r s g m)) := by
  unfold ack_Head.f lsa_Router.f lsa_Serial.f lsa_Age.f AckOk
  by_cases h1 : r ≥ 1
  · by_cases h2 : r ≤ 4
    · by_cases h3 : s ≥ 1
      · by_cases h4 : s ≤ 2147483647
        · by_cases h5 : g ≥ 0
          · by_cases h6 : g ≤ 60
            · by_cases h7 : m ≥ 0
              · simp [h1, h2, h3, h4, h5, h6, h7]
              · simp [h1, h2, h3, h4, h5, h6, h7]
            · simp [h1, h2, h3, h4, h5, h6]
          · simp [h1, h2, h3, h4, h5]
        · simp [h1, h2, h3, h4]
      · simp [h1, h2, h3]
    · simp [h1, h2]
  · simp [h1]
/-! ### ack: May, Put, Get (S40: the struct LsaHead) -/
instance : DecidableEq S40 := fun a b => decidable_of_iff (a.f0 = b.f0 ∧ a.f1 = b.f1 ∧ a.f2 = b.f2 ∧ a.f3 = b.f3) (by cases a; cases b; simp)
def heads : Int → List S40 → Bool
  | _, [] => true
  | p, x :: l => if AckOk x.f0 x.f1 x.f2 x.f3 ∧ p < x.f0 then heads x.f0 l else false
theorem heads_short : ∀ (l : List S40) (p : Int), 0 ≤ p → heads p l = true → l.length = 0 ∨ (l.length : Int) ≤ 4 - p
  | [], _, _, _ => .inl rfl
  | x :: l, p, h0, h => by
    unfold heads at h
    by_cases hc : AckOk x.f0 x.f1 x.f2 x.f3 ∧ p < x.f0
    · rw [if_pos hc] at h
      have h4 := hc.1.2.1
      rcases heads_short l x.f0 (by omega) h with h1 | h1
      · right; simp only [List.length_cons, h1]; omega
      · right; simp only [List.length_cons]; omega
    · rw [if_neg hc] at h; cases h
theorem heads_len {l : List S40} (h : heads 0 l = true) : l.length ≤ 4 := by
  rcases heads_short l 0 (by omega) h with h1 | h1 <;> omega
theorem heads_range : ∀ (l : List S40) (p : Int), heads p l = true → ∀ x ∈ l, AckOk x.f0 x.f1 x.f2 x.f3
  | [], _, _, _, hx => by cases hx
  | y :: l, p, h, x, hx => by
    unfold heads at h
    by_cases hc : AckOk y.f0 y.f1 y.f2 y.f3 ∧ p < y.f0
    · rw [if_pos hc] at h
      rcases List.mem_cons.mp hx with rfl | hx
      · exact hc.1
      · exact heads_range l y.f0 h x hx
    · rw [if_neg hc] at h; cases h
theorem rdH_at {l : List S40} {i : Nat} (h : i < l.length) : rd_T40 l (i : Int) = l[i] := by
  unfold rd_T40; rw [Int.toNat_natCast, List.getD_eq_getElem?_getD, List.getElem?_eq_getElem h]; rfl
def prevH (l : List S40) (i : Nat) : Int := if i = 0 then 0 else (rd_T40 l ((i : Int) - 1)).f0
theorem prevH_succ (l : List S40) (i : Nat) : prevH l (i + 1) = (rd_T40 l (i : Int)).f0 := by
  unfold prevH; rw [if_neg (by omega)]
  have : ((i + 1 : Nat) : Int) - 1 = (i : Int) := by omega
  rw [this]
theorem dropH_at {l : List S40} {i : Nat} (h : i < l.length) : l.drop i = rd_T40 l (i : Int) :: l.drop (i + 1) := by
  rw [List.drop_eq_getElem_cons h, rdH_at h]
theorem ack_May_l {l : List S40} (hn : l.length ≤ 9223372036854775807) : ∀ (d k i : Nat), i + d = l.length → d < k →
    ack_May.l0 k l l (l.length : Int) (i : Int) = some (heads (prevH l i) (l.drop i)) := by
  intro d
  induction d with
  | zero =>
    intro k i hi hk
    obtain ⟨k, rfl⟩ : ∃ m, k = m + 1 := ⟨k - 1, by omega⟩
    simp only [ack_May.l0]
    rw [if_neg (by omega), List.drop_of_length_le (by omega)]
    rfl
  | succ d ih =>
    intro k i hi hk
    obtain ⟨k, rfl⟩ : ∃ m, k = m + 1 := ⟨k - 1, by omega⟩
    have hlt : i < l.length := by omega
    have h4 : wrap64 ((i : Int) + 1) = ((i + 1 : Nat) : Int) := by rw [wrap_id (by omega) (by omega)]; omega
    have h5 : wrap64 ((i : Int) - 1) = (i : Int) - 1 := wrap_id (by omega) (by omega)
    have hr := ih k (i + 1) (by omega) (by omega)
    simp only [ack_May.l0, ack_Head_f, Option.bind_some, decide_eq_true_eq]
    rw [if_pos (by omega), if_pos (by omega), if_pos (by omega), h4, h5, hr, prevH_succ, dropH_at hlt]
    by_cases hc : AckOk (rd_T40 l (i : Int)).f0 (rd_T40 l (i : Int)).f1 (rd_T40 l (i : Int)).f2 (rd_T40 l (i : Int)).f3
    · rw [if_pos hc]
      by_cases h0 : (i : Int) > 0
      · rw [if_pos h0, if_pos (by omega), if_pos (by omega)]
        have hp : prevH l i = (rd_T40 l ((i : Int) - 1)).f0 := by unfold prevH; rw [if_neg (by omega)]
        by_cases hg : (rd_T40 l ((i : Int) - 1)).f0 ≥ (rd_T40 l (i : Int)).f0
        · rw [if_pos hg]; unfold heads; rw [if_neg (by rw [hp]; omega)]
        · rw [if_neg hg]; conv => rhs; unfold heads
          rw [if_pos ⟨hc, by rw [hp]; omega⟩]
      · rw [if_neg h0]
        have hp : prevH l i = 0 := by unfold prevH; rw [if_pos (by omega)]
        have h1 := hc.1
        conv => rhs; unfold heads
        rw [if_pos ⟨hc, by rw [hp]; omega⟩]
    · rw [if_neg hc]; unfold heads; rw [if_neg (fun hh => hc hh.1)]
theorem ack_May_f {l : List S40} (hn : l.length ≤ 9223372036854775807) {k : Nat} (hk : l.length < k) : ack_May.f k l = some (heads 0 l) :=
  ack_May_l hn l.length k 0 (by omega) hk
def hbytes (x : S40) : List Int := e1 x.f0 ++ e1 x.f2 ++ e4 x.f1 ++ e2 x.f3
theorem hbytes_byt (x : S40) : Byt (hbytes x) := byt_append (byt_append (byt_append (e1_byt _) (e1_byt _)) (e4_byt _)) (e2_byt _)
theorem hbytes_len (x : S40) : (hbytes x).length = 8 := rfl
def ackBytes (l : List S40) : List Int := e1 (l.length : Int) ++ l.flatMap hbytes
theorem flat_byt {α : Type} (f : α → List Int) (hf : ∀ x, Byt (f x)) (l : List α) : Byt (l.flatMap f) := by
  intro y hy
  obtain ⟨x, _, hx⟩ := List.mem_flatMap.mp hy
  exact hf x y hx
theorem ackBytes_byt (l : List S40) : Byt (ackBytes l) := byt_append (e1_byt _) (flat_byt _ hbytes_byt l)
theorem ack_Put_l {l : List S40} (hn : l.length ≤ 4) : ∀ (d k i : Nat) (acc : List Int), i + d = l.length → d < k → acc.length ≤ 10 + 8 * i →
    ack_Put.l0 k (strOfNums acc) l (l.length : Int) (i : Int) = some (strOfNums (acc ++ (l.drop i).flatMap hbytes), 0) := by
  intro d
  induction d with
  | zero =>
    intro k i acc hi hk ha
    obtain ⟨k, rfl⟩ : ∃ m, k = m + 1 := ⟨k - 1, by omega⟩
    simp only [ack_Put.l0]
    rw [if_neg (by omega), List.drop_of_length_le (by omega)]
    simp
  | succ d ih =>
    intro k i acc hi hk ha
    obtain ⟨k, rfl⟩ : ∃ m, k = m + 1 := ⟨k - 1, by omega⟩
    have hlt : i < l.length := by omega
    have h4 : wrap64 ((i : Int) + 1) = ((i + 1 : Nat) : Int) := by rw [wrap_id (by omega) (by omega)]; omega
    simp only [ack_Put.l0, lsa_One_f, lsa_Two_f, lsa_Four_f, Option.bind_some, strOf_append, strOf_size, List.length_append, e1_len, e2_len, e4_len]
    rw [if_pos (by omega), if_pos (by omega), if_pos (by omega), if_pos (by decide), if_pos (by decide), if_pos (by decide), if_pos (by omega), h4,
      ih k (i + 1) _ (by omega) (by omega) (by simp only [List.length_append, e1_len, e2_len, e4_len]; omega), dropH_at hlt, List.flatMap_cons]
    simp only [hbytes, List.append_assoc]
theorem ack_Put_f {l : List S40} (hn : l.length ≤ 9223372036854775807) {k : Nat} (hk : l.length < k) :
    ack_Put.f k l = some (if heads 0 l = true then (strOfNums (ackBytes l), 0) else (⟨#[]⟩, 1100)) := by
  simp only [ack_Put.f, ack_May_f hn hk, Option.bind_some, lsa_One_f]
  by_cases h : heads 0 l = true
  · rw [if_pos h, if_pos h]
    have h1 := heads_len h
    exact ack_Put_l h1 l.length k 0 (e1 (l.length : Int)) (by omega) hk (by rw [e1_len]; omega)
  · rw [if_neg h, if_neg h]
def headAt (b : List Int) : S40 := ⟨b.getD 0 0, num ((b.drop 2).take 4), b.getD 1 0, num ((b.drop 6).take 2)⟩
def parseA : Nat → List Int → List S40
  | 0, _ => []
  | n + 1, b => if 8 ≤ b.length then headAt b :: parseA n (b.drop 8) else []
def ackEnd (b : List Int) (out : List S40) : (List S40) × Int := if heads 0 out = true ∧ ackBytes out = b then (out, 0) else ([], 1100)
theorem ack_end {s : ByteArray} {out : List S40} (hn : out.length ≤ 5) {k : Nat} (hk : 6 ≤ k) :
    ((ack_Put.f k out).bind fun bt130 => (if bt130.2 = 0 then (if bt130.1.toList = s.toList then (some (out, 0)) else (some (([] : List S40), 1100))) else (some (([] : List S40), 1100)))) = some (ackEnd (B s) out) := by
  rw [ack_Put_f (by omega) (by omega), Option.bind_some]
  unfold ackEnd
  by_cases h : heads 0 out = true
  · rw [if_pos h]
    by_cases h2 : ackBytes out = B s
    · rw [if_pos rfl, if_pos (by rw [toList_iff, B_strOf (ackBytes_byt _)]; exact h2), if_pos ⟨h, h2⟩]
    · rw [if_pos rfl, if_neg (by rw [toList_iff, B_strOf (ackBytes_byt _)]; exact h2), if_neg (fun hh => h2 hh.2)]
  · rw [if_neg h, if_neg (by decide), if_neg (fun hh => h hh.1)]
theorem getD_drop (b : List Int) (i j : Nat) : (b.drop i).getD j 0 = b.getD (i + j) 0 := by
  rw [List.getD_eq_getElem?_getD, List.getD_eq_getElem?_getD, List.getElem?_drop]
theorem ack_Get_l {s : ByteArray} (hs : s.size ≤ 140737488351232) : ∀ (n k i : Nat) (acc : List S40), acc.length + n = 5 → i = 1 + 8 * acc.length → 2 * n + 20 ≤ k →
    ack_Get.l0 k s acc (i : Int) = some (ackEnd (B s) (acc ++ parseA n ((B s).drop i))) := by
  intro n
  induction n with
  | zero =>
    intro k i acc ha hi hk
    obtain ⟨k, rfl⟩ : ∃ m, k = m + 2 := ⟨k - 2, by omega⟩
    have hf : decide ((acc.length : Int) ≤ 4) = false := decide_eq_false (by omega)
    simp only [ack_Get.l0, hf, ite_self, ack_Get.j1, Bool.false_eq_true, if_false, parseA, List.append_nil]
    exact ack_end (by omega) (by omega)
  | succ n ih =>
    intro k i acc ha hi hk
    obtain ⟨k, rfl⟩ : ∃ m, k = m + 2 := ⟨k - 2, by omega⟩
    have hl := B_len s
    have w8 : wrap64 ((i : Int) + 8) = ((i + 8 : Nat) : Int) := by rw [wrap_id (by omega) (by omega)]; omega
    have w1 : wrap64 ((i : Int) + 1) = ((i + 1 : Nat) : Int) := by rw [wrap_id (by omega) (by omega)]; omega
    have w2 : wrap64 ((i : Int) + 2) = ((i + 2 : Nat) : Int) := by rw [wrap_id (by omega) (by omega)]; omega
    have w6 : wrap64 ((i : Int) + 6) = ((i + 6 : Nat) : Int) := by rw [wrap_id (by omega) (by omega)]; omega
    have ht : decide ((acc.length : Int) ≤ 4) = true := decide_eq_true (by omega)
    simp only [ack_Get.l0, w8]
    by_cases hc : ((i + 8 : Nat) : Int) ≤ (s.size : Int)
    · rw [if_pos hc, ht]
      have e26 : B (s.extract (i + 2) (i + 6)) = (((B s).drop i).drop 2).take 4 := by rw [B_extract, List.drop_drop]; congr 1; omega
      have e68 : B (s.extract (i + 6) (i + 8)) = (((B s).drop i).drop 6).take 2 := by rw [B_extract, List.drop_drop]; congr 1; omega
      have s26 : (s.extract (i + 2) (i + 6)).size ≤ 7 := by rw [← B_len, e26, List.length_take]; omega
      have s68 : (s.extract (i + 6) (i + 8)).size ≤ 7 := by rw [← B_len, e68, List.length_take]; omega
      have hr0 := byt_getD (B_byt s) i
      have hr1 := byt_getD (B_byt s) (i + 1)
      have hb0 : wrap64 (bt s (i : Int)) = ((B s).drop i).getD 0 0 := by rw [bt_B, Int.toNat_natCast, getD_drop]; exact wrap_id (by omega) (by omega)
      have hb1 : wrap64 (bt s ((i + 1 : Nat) : Int)) = ((B s).drop i).getD 1 0 := by rw [bt_B, Int.toNat_natCast, getD_drop]; exact wrap_id (by omega) (by omega)
      simp only [ack_Get.j1, if_true, w1, w2, w6, w8, Int.toNat_natCast, lsa_Number_f s26 (show 8 ≤ k by omega), lsa_Number_f s68 (show 8 ≤ k by omega), Option.bind_some, hb0, hb1, e26, e68]
      rw [if_pos (by omega), if_pos (by omega), if_pos (by omega), if_pos (by omega), if_pos (by omega), if_pos (by omega), if_pos (by omega), if_pos (by omega), if_pos (by omega), if_pos (by omega), if_pos (by omega),
        ih k (i + 8) _ (by simp only [List.length_append, List.length_singleton]; omega) (by simp only [List.length_append, List.length_singleton]; omega) (by omega)]
      have hp : parseA (n + 1) ((B s).drop i) = headAt ((B s).drop i) :: parseA n ((B s).drop (i + 8)) := by
        conv => lhs; unfold parseA
        rw [if_pos (by rw [List.length_drop]; omega), List.drop_drop]
      rw [hp, List.append_assoc]
      rfl
    · rw [if_neg hc]
      have hp : parseA (n + 1) ((B s).drop i) = [] := by
        unfold parseA; rw [if_neg (by rw [List.length_drop]; omega)]
      simp only [ack_Get.j1, Bool.false_eq_true, if_false, hp, List.append_nil]
      exact ack_end (by omega) (by omega)
def getAck (b : List Int) : (List S40) × Int := ackEnd b (parseA 5 (b.drop 1))
theorem ack_Get_f {s : ByteArray} (hs : s.size ≤ 140737488351232) {k : Nat} (hk : 30 ≤ k) : ack_Get.f k s = some (getAck (B s)) :=
  ack_Get_l hs 5 k 1 [] rfl rfl (by omega)
theorem headAt_hbytes {x : S40} (h : AckOk x.f0 x.f1 x.f2 x.f3) (r : List Int) : headAt (hbytes x ++ r) = x := by
  obtain ⟨h1, h2, h3, h4, h5, h6, h7, h8⟩ := h
  have a0 : (hbytes x ++ r).getD 0 0 = x.f0 := by simp [hbytes, e1]; omega
  have a1 : (hbytes x ++ r).getD 1 0 = x.f2 := by simp [hbytes, e1]; omega
  have a2 : ((hbytes x ++ r).drop 2).take 4 = e4 x.f1 := by simp [hbytes, e1, e2, e4]
  have a3 : ((hbytes x ++ r).drop 6).take 2 = e2 x.f3 := by simp [hbytes, e1, e2, e4]
  unfold headAt
  rw [a0, a1, a2, a3, num_e4 (by omega) (by omega), num_e2 (by omega) (by omega)]
theorem parse_flat : ∀ (l : List S40) (n : Nat), l.length ≤ n → (∀ x ∈ l, AckOk x.f0 x.f1 x.f2 x.f3) → parseA n (l.flatMap hbytes) = l
  | [], n, _, _ => by cases n <;> simp [parseA]
  | x :: l, 0, h, _ => by simp at h
  | x :: l, n + 1, h, hr => by
    have hx := hr x (by simp)
    rw [List.flatMap_cons]
    unfold parseA
    rw [if_pos (by rw [List.length_append, hbytes_len]; omega), headAt_hbytes hx, ← hbytes_len x, List.drop_left, parse_flat l n (by simpa using h) (fun y hy => hr y (by simp [hy]))]
theorem get_ack {l : List S40} (h : heads 0 l = true) : getAck (ackBytes l) = (l, 0) := by
  have h1 := heads_len h
  unfold getAck ackEnd
  have hd : (ackBytes l).drop 1 = l.flatMap hbytes := by unfold ackBytes; rw [← e1_len (l.length : Int), List.drop_left]
  rw [hd, parse_flat l 5 (by omega) (heads_range l 0 h), if_pos ⟨h, rfl⟩]
theorem getAck_ok {b : List Int} (h : (getAck b).2 = 0) : heads 0 (getAck b).1 = true ∧ ackBytes (getAck b).1 = b := by
  unfold getAck ackEnd at h ⊢
  by_cases hc : heads 0 (parseA 5 (b.drop 1)) = true ∧ ackBytes (parseA 5 (b.drop 1)) = b
  · rw [if_pos hc] at h ⊢; exact hc
  · rw [if_neg hc] at h; exact absurd h (by decide)
theorem getAck_no {b : List Int} (h : ¬ (getAck b).2 = 0) : getAck b = ([], 1100) := by
  unfold getAck ackEnd at h ⊢
  by_cases hc : heads 0 (parseA 5 (b.drop 1)) = true ∧ ackBytes (parseA 5 (b.drop 1)) = b
  · rw [if_pos hc] at h; exact absurd rfl h
  · rw [if_neg hc]
theorem SameH_l {l m : List S40} (hn : l.length ≤ 9223372036854775807) (he : l.length = m.length) : ∀ (d k i : Nat), i + d = l.length → d < k →
    watchwordlaw0_SameLsaHeads.l0 k l m (i : Int) = some (decide (l.drop i = m.drop i)) := by
  intro d
  induction d with
  | zero =>
    intro k i hi hk
    obtain ⟨k, rfl⟩ : ∃ m, k = m + 1 := ⟨k - 1, by omega⟩
    simp only [watchwordlaw0_SameLsaHeads.l0]
    rw [if_neg (by omega), List.drop_of_length_le (by omega), List.drop_of_length_le (by omega)]
    simp
  | succ d ih =>
    intro k i hi hk
    obtain ⟨k, rfl⟩ : ∃ m, k = m + 1 := ⟨k - 1, by omega⟩
    have h4 : wrap64 ((i : Int) + 1) = ((i + 1 : Nat) : Int) := by rw [wrap_id (by omega) (by omega)]; omega
    simp only [watchwordlaw0_SameLsaHeads.l0]
    rw [if_pos (by omega), if_pos (by omega), if_pos (by omega), h4, ih k (i + 1) (by omega) (by omega), dropH_at (l := l) (i := i) (by omega), dropH_at (l := m) (i := i) (by omega)]
    generalize rd_T40 l (i : Int) = x
    generalize rd_T40 m (i : Int) = y
    have hx : (!(x.f0 == y.f0) || (!(x.f1 == y.f1) || (!(x.f2 == y.f2) || !(x.f3 == y.f3)))) = !decide (x = y) := by
      cases x; cases y
      rw [Bool.eq_iff_iff]
      simp
    rw [hx]
    by_cases hc : x = y
    · rw [hc]; simp
    · simp [hc]
theorem SameH_f {l m : List S40} (hn : l.length ≤ 9223372036854775807) {k : Nat} (hk : l.length < k) : watchwordlaw0_SameLsaHeads.f k l m = some (decide (l = m)) := by
  unfold watchwordlaw0_SameLsaHeads.f
  by_cases h : l.length = m.length
  · rw [if_pos (by omega)]
    have := SameH_l hn h l.length k 0 (by omega) hk
    rw [List.drop_zero, List.drop_zero] at this
    exact this
  · rw [if_neg (by omega), decide_eq_false (fun e => h (by rw [e]))]
/-! ### the reference: Num, Of -/
theorem ref_Num1 {k : Nat} (hk : 3 ≤ k) (x : Int) : watchwordref1_Num.f k x 1 = some (strOfNums (e1 x)) := by
  obtain ⟨k, rfl⟩ : ∃ m, k = m + 3 := ⟨k - 3, by omega⟩
  simp [watchwordref1_Num.f, watchwordref1_Num.l0, wrap64, shr, IntKind.bits, e1]
theorem ref_Num2 {k : Nat} (hk : 5 ≤ k) (x : Int) : watchwordref1_Num.f k x 2 = some (strOfNums (e2 x)) := by
  obtain ⟨k, rfl⟩ : ∃ m, k = m + 5 := ⟨k - 5, by omega⟩
  simp [watchwordref1_Num.f, watchwordref1_Num.l0, wrap64, shr, IntKind.bits, e2]
theorem ref_Num4 {k : Nat} (hk : 7 ≤ k) (x : Int) : watchwordref1_Num.f k x 4 = some (strOfNums (e4 x)) := by
  obtain ⟨k, rfl⟩ : ∃ m, k = m + 7 := ⟨k - 7, by omega⟩
  simp [watchwordref1_Num.f, watchwordref1_Num.l0, wrap64, shr, IntKind.bits, e4]
theorem ref_Of_step {acc : Int} {s : ByteArray} {i k d : Nat} (hd : i + (d + 1) = s.size) (hi : i ≤ 6) (h0 : 0 ≤ acc) (h1 : acc < lim i) :
    watchwordref1_Of.l0 (k + 1) s acc (i : Int) = watchwordref1_Of.l0 k s (acc * 256 + (B s).getD i 0) ((i + 1 : Nat) : Int) := by
  have hb : bt s (i : Int) = (B s).getD i 0 := by rw [bt_B, Int.toNat_natCast]
  have hr := byt_getD (B_byt s) i
  have hp : lim i ≤ 281474976710656 := lim_le6 hi
  have h2 : wrap64 (acc * 256) = acc * 256 := wrap_id (by omega) (by omega)
  have h3 : wrap64 ((B s).getD i 0) = (B s).getD i 0 := wrap_id (by omega) (by omega)
  have h4 : wrap64 ((i : Int) + 1) = ((i + 1 : Nat) : Int) := by rw [wrap_id (by omega) (by omega)]; omega
  have h5 : Go.bits .or .i64 (acc * 256) ((B s).getD i 0) = acc * 256 + (B s).getD i 0 := or_byte (by omega) (by omega) (by omega) hr.1 hr.2
  simp only [watchwordref1_Of.l0]
  rw [if_pos (by omega), if_pos (by omega), hb, h2, h3, h4, h5]
theorem ref_Of_l {s : ByteArray} (hs : s.size ≤ 7) : ∀ (d k i : Nat) (acc : Int), i + d = s.size → d < k → 0 ≤ acc → acc < lim i →
    watchwordref1_Of.l0 k s acc (i : Int) = some (((B s).drop i).foldl (fun a b => a * 256 + b) acc) := by
  intro d
  induction d with
  | zero =>
    intro k i acc hi hk h0 h1
    obtain ⟨k, rfl⟩ : ∃ m, k = m + 1 := ⟨k - 1, by omega⟩
    simp only [watchwordref1_Of.l0]
    rw [if_neg (by omega), List.drop_of_length_le (by rw [B_len]; omega)]
    rfl
  | succ d ih =>
    intro k i acc hi hk h0 h1
    obtain ⟨k, rfl⟩ : ∃ m, k = m + 1 := ⟨k - 1, by omega⟩
    have hlt : i < (B s).length := by rw [B_len]; omega
    have hd : (B s).drop i = (B s).getD i 0 :: (B s).drop (i + 1) := by
      rw [List.drop_eq_getElem_cons hlt, List.getD_eq_getElem?_getD, List.getElem?_eq_getElem hlt, Option.getD_some]
    have hr := byt_getD (B_byt s) i
    have hl := lim_succ i
    rw [ref_Of_step hi (by omega) h0 h1, ih k (i + 1) _ (by omega) (by omega) (by omega) (by omega), hd, List.foldl_cons]
theorem ref_Of_f {s : ByteArray} (hs : s.size ≤ 7) {k : Nat} (hk : 8 ≤ k) : watchwordref1_Of.f k s = some (num (B s)) :=
  ref_Of_l hs s.size k 0 0 (by omega) (by omega) (by omega) (by decide)
/-! ### the document's own HeadMay -/
theorem ref9_upTo_f (a b c : Int) : watchwordref9_upTo.f a b c = some (decide (b ≤ a ∧ a ≤ c)) := by
  unfold watchwordref9_upTo.f
  by_cases h1 : a ≥ b
  · rw [if_pos h1]; simp only [h1, true_and]
  · rw [if_neg h1]; have : ¬ (b ≤ a ∧ a ≤ c) := by omega
    simp [this]
theorem ref_HeadMay_f (r s g m : Int) : watchwordref9_HeadMay.f r s g m = some (decide (AckOk r s g m)) := by
  unfold watchwordref9_HeadMay.f watchwordref9_routerMay.f
  simp only [ref9_upTo_f, Option.bind_some, decide_eq_true_eq]
  by_cases h1 : 1 ≤ r ∧ r ≤ 4
  · rw [if_pos h1]
    by_cases h2 : 1 ≤ s ∧ s ≤ 2147483647
    · rw [if_pos h2]
      by_cases h3 : 0 ≤ g ∧ g ≤ 60
      · rw [if_pos h3]; unfold AckOk; simp [h1, h2, h3]
      · rw [if_neg h3, decide_eq_false (fun hh : AckOk r s g m => h3 ⟨hh.2.2.2.2.1, hh.2.2.2.2.2.1⟩)]
    · rw [if_neg h2, decide_eq_false (fun hh : AckOk r s g m => h2 ⟨hh.2.2.1, hh.2.2.2.1⟩)]
  · rw [if_neg h1, decide_eq_false (fun hh : AckOk r s g m => h1 ⟨hh.1, hh.2.1⟩)]
/-! ### the document's own: AckMay, PutAck, GetAck -/
theorem ref_AckMay_l {l : List S40} (hn : l.length ≤ 9223372036854775807) : ∀ (d k i : Nat), i + d = l.length → d < k →
    watchwordref9_AckMay.l0 k l (i : Int) = some (heads (prevH l i) (l.drop i) && decide (l.length ≤ 4)) := by
  intro d
  induction d with
  | zero =>
    intro k i hi hk
    obtain ⟨k, rfl⟩ : ∃ m, k = m + 1 := ⟨k - 1, by omega⟩
    simp only [watchwordref9_AckMay.l0]
    rw [if_neg (by omega), List.drop_of_length_le (by omega)]
    unfold heads
    rw [Bool.true_and]
    congr 1
    rw [Bool.eq_iff_iff, decide_eq_true_eq, decide_eq_true_eq]
    omega
  | succ d ih =>
    intro k i hi hk
    obtain ⟨k, rfl⟩ : ∃ m, k = m + 1 := ⟨k - 1, by omega⟩
    have hlt : i < l.length := by omega
    have h4 : wrap64 ((i : Int) + 1) = ((i + 1 : Nat) : Int) := by rw [wrap_id (by omega) (by omega)]; omega
    have h5 : wrap64 ((i : Int) - 1) = (i : Int) - 1 := wrap_id (by omega) (by omega)
    have hr := ih k (i + 1) (by omega) (by omega)
    simp only [watchwordref9_AckMay.l0, ref_HeadMay_f, Option.bind_some, decide_eq_true_eq]
    rw [if_pos (by omega), if_pos (by omega), h4, h5, hr, prevH_succ, dropH_at hlt]
    by_cases hc : AckOk (rd_T40 l (i : Int)).f0 (rd_T40 l (i : Int)).f1 (rd_T40 l (i : Int)).f2 (rd_T40 l (i : Int)).f3
    · rw [if_pos hc]
      by_cases h0 : (i : Int) > 0
      · rw [if_pos h0, if_pos (by omega), if_pos (by omega)]
        have hp : prevH l i = (rd_T40 l ((i : Int) - 1)).f0 := by unfold prevH; rw [if_neg (by omega)]
        by_cases hg : (rd_T40 l (i : Int)).f0 ≤ (rd_T40 l ((i : Int) - 1)).f0
        · rw [if_pos hg]; unfold heads; rw [if_neg (by rw [hp]; omega)]; rfl
        · rw [if_neg hg]; conv => rhs; unfold heads
          rw [if_pos ⟨hc, by rw [hp]; omega⟩]
      · rw [if_neg h0]
        have hp : prevH l i = 0 := by unfold prevH; rw [if_pos (by omega)]
        have h1 := hc.1
        conv => rhs; unfold heads
        rw [if_pos ⟨hc, by rw [hp]; omega⟩]
    · rw [if_neg hc]; unfold heads; rw [if_neg (fun hh => hc hh.1)]; rfl
theorem ref_AckMay_f {l : List S40} (hn : l.length ≤ 9223372036854775807) {k : Nat} (hk : l.length < k) : watchwordref9_AckMay.f k l = some (heads 0 l) := by
  have h := ref_AckMay_l hn l.length k 0 (by omega) hk
  unfold watchwordref9_AckMay.f
  rw [show (0 : Int) = ((0 : Nat) : Int) from rfl, h]
  show some (heads 0 l && decide (l.length ≤ 4)) = some (heads 0 l)
  by_cases g : heads 0 l = true
  · rw [g, decide_eq_true (heads_len g)]; rfl
  · rw [Bool.eq_false_iff.mpr g]; rfl
theorem ref_PutAck_l {l : List S40} (hn : l.length ≤ 4) : ∀ (d k i : Nat) (acc : List Int), i + d = l.length → d + 10 < k → acc.length ≤ 10 + 8 * i →
    watchwordref9_PutAck.l0 k l (strOfNums acc) (i : Int) = some (strOfNums (acc ++ (l.drop i).flatMap hbytes), 0) := by
  intro d
  induction d with
  | zero =>
    intro k i acc hi hk ha
    obtain ⟨k, rfl⟩ : ∃ m, k = m + 1 := ⟨k - 1, by omega⟩
    simp only [watchwordref9_PutAck.l0]
    rw [if_neg (by omega), List.drop_of_length_le (by omega)]
    simp
  | succ d ih =>
    intro k i acc hi hk ha
    obtain ⟨k, rfl⟩ : ∃ m, k = m + 1 := ⟨k - 1, by omega⟩
    have hlt : i < l.length := by omega
    have h4 : wrap64 ((i : Int) + 1) = ((i + 1 : Nat) : Int) := by rw [wrap_id (by omega) (by omega)]; omega
    simp only [watchwordref9_PutAck.l0]
    rw [ref_Num1 (by omega), ref_Num1 (by omega), ref_Num4 (by omega), ref_Num2 (by omega)]
    simp only [Option.bind_some, strOf_append, strOf_size, List.length_append, e1_len, e2_len, e4_len]
    rw [if_pos (by omega), if_pos (by omega), if_pos (by omega), if_pos (by omega), if_pos (by omega), if_pos (by omega), h4,
      ih k (i + 1) _ (by omega) (by omega) (by simp only [List.length_append, e1_len, e2_len, e4_len]; omega), dropH_at hlt, List.flatMap_cons]
    simp only [hbytes, List.append_assoc]
theorem ref_PutAck_f {l : List S40} (hn : l.length ≤ 9223372036854775807) {k : Nat} (hk : l.length + 10 < k) :
    watchwordref9_PutAck.f k l = some (if heads 0 l = true then (strOfNums (ackBytes l), 0) else (⟨#[]⟩, 1100)) := by
  simp only [watchwordref9_PutAck.f, ref_AckMay_f hn (show l.length < k by omega), Option.bind_some]
  by_cases h : heads 0 l = true
  · have h4 := heads_len h
    rw [if_pos h, if_pos h, ref_Num1 (by omega), Option.bind_some]
    exact ref_PutAck_l h4 l.length k 0 (e1 (l.length : Int)) (by omega) hk (by rw [e1_len]; omega)
  · rw [if_neg h, if_neg h]
def parseR : Nat → List Int → List S40
  | 0, _ => []
  | n + 1, b => headAt b :: parseR n (b.drop 8)
theorem parseR_len : ∀ (n : Nat) (b : List Int), (parseR n b).length = n
  | 0, _ => rfl
  | n + 1, b => by unfold parseR; rw [List.length_cons, parseR_len n]
def refEnd (hs : List S40) : (List S40) × Int := if heads 0 hs = true then (hs, 0) else ([], 1100)
def refAck (b : List Int) : (List S40) × Int := if b.length = 1 + 8 * (b.getD 0 0).toNat then refEnd (parseR (b.getD 0 0).toNat (b.drop 1)) else ([], 1100)
theorem ra_nn {a b : Nat} {ci : Int} (hc : ci = (b : Int)) (h : a + b ≤ 9223372036854775807) : wrap64 ((a : Int) + ci) = ((a + b : Nat) : Int) := by
  rw [hc, wrap_id (by omega) (by omega)]; omega
theorem ra_lt {a b : Nat} (h : a < b) : (a : Int) < (b : Int) := by omega
theorem ra_le {a b : Nat} (h : a ≤ b) : (a : Int) ≤ (b : Int) := by omega
theorem ra_bt (x : ByteArray) (p j : Nat) : wrap64 (bt x ((p + j : Nat) : Int)) = ((B x).drop p).getD j 0 := by
  have h := byt_getD (B_byt x) (p + j)
  rw [bt_B, Int.toNat_natCast, getD_drop, wrap_id (by omega) (by omega)]
theorem ra_Of (x : ByteArray) (p a b : Nat) (hab : b - a ≤ 7) {k : Nat} (hk : 8 ≤ k) : watchwordref1_Of.f k (x.extract (p + a) (p + b)) = some (num ((((B x).drop p).drop a).take (b - a))) := by
  rw [ref_Of_f (by simp only [ByteArray.size_extract]; omega) hk, B_extract, List.drop_drop, Nat.add_sub_add_left]
theorem ref_GetAck_l {s : ByteArray} (hs : s.size ≤ 3000) : ∀ (d k i : Nat) (acc : List S40), acc.length + d ≤ 255 → i + 8 * d = s.size → d + 300 ≤ k →
    watchwordref9_GetAck.l0 k s acc (i : Int) = some (refEnd (acc ++ parseR d ((B s).drop i))) := by
  intro d
  induction d with
  | zero =>
    intro k i acc ha hi hk
    obtain ⟨k, rfl⟩ : ∃ m, k = m + 1 := ⟨k - 1, by omega⟩
    simp only [watchwordref9_GetAck.l0, parseR, List.append_nil]
    rw [if_neg (by omega), ref_AckMay_f (by omega) (by omega), Option.bind_some]
    unfold refEnd
    by_cases h : heads 0 acc = true
    · rw [if_pos h, if_pos h]
    · rw [if_neg h, if_neg h]
  | succ d ih =>
    intro k i acc ha hi hk
    obtain ⟨k, rfl⟩ : ∃ m, k = m + 1 := ⟨k - 1, by omega⟩
    have q0 : i < s.size := by omega
    have q1 : i + 1 < s.size := by omega
    have q6 : i + 6 ≤ s.size := by omega
    have q8 : i + 8 ≤ s.size := by omega
    have m1 : i + 1 ≤ 9223372036854775807 := by omega
    have m2 : i + 2 ≤ 9223372036854775807 := by omega
    have m6 : i + 6 ≤ 9223372036854775807 := by omega
    have m8 : i + 8 ≤ 9223372036854775807 := by omega
    have q26 : i + 2 ≤ i + 6 := by omega
    have q68 : i + 6 ≤ i + 8 := by omega
    have ha2 : acc.length < 4398046511104 := by omega
    have hk8 : 8 ≤ k := by omega
    have hr := ih k (i + 8) (acc ++ [headAt ((B s).drop i)]) (by rw [List.length_append]; simp only [List.length_cons, List.length_nil]; omega) (by omega) (by omega)
    clear ih ha hi hk hs
    have w1 : wrap64 ((i : Int) + 1) = ((i + 1 : Nat) : Int) := ra_nn rfl m1
    have w2 : wrap64 ((i : Int) + 2) = ((i + 2 : Nat) : Int) := ra_nn rfl m2
    have w6 : wrap64 ((i : Int) + 6) = ((i + 6 : Nat) : Int) := ra_nn rfl m6
    have w8 : wrap64 ((i : Int) + 8) = ((i + 8 : Nat) : Int) := ra_nn rfl m8
    have v0 : wrap64 (bt s (i : Int)) = ((B s).drop i).getD 0 0 := ra_bt s i 0
    have v1 : wrap64 (bt s ((i + 1 : Nat) : Int)) = ((B s).drop i).getD 1 0 := ra_bt s i 1
    simp only [watchwordref9_GetAck.l0, w1, w2, w6, w8, v0, v1, Int.toNat_natCast]
    rw [if_pos (ra_lt q0), if_pos (Int.natCast_nonneg _), if_pos (Int.natCast_nonneg _), if_pos (ra_lt q1), if_pos (Int.natCast_nonneg _), if_pos (ra_le q26), if_pos (ra_le q6), ra_Of s i 2 6 (by decide) hk8, Option.bind_some,
      if_pos (Int.natCast_nonneg _), if_pos (ra_le q68), if_pos (ra_le q8), ra_Of s i 6 8 (by decide) hk8, Option.bind_some, if_pos ha2]
    refine Eq.trans hr ?_
    rw [List.append_assoc, ← List.drop_drop]
    rfl
theorem ref_GetAck_f {s : ByteArray} (hs : s.size ≤ 140737488351232) {k : Nat} (hk : 700 ≤ k) : watchwordref9_GetAck.f k s = some (refAck (B s)) := by
  obtain ⟨k, rfl⟩ : ∃ m, k = m + 1 := ⟨k - 1, by omega⟩
  have hl := B_len s
  have hr := byt_getD (B_byt s) 0
  have hb : bt s 0 = (B s).getD 0 0 := by rw [bt_B]; rfl
  unfold watchwordref9_GetAck.f
  by_cases h0 : s.size = 0
  · have hB : B s = [] := List.eq_nil_of_length_eq_zero (by rw [hl]; exact h0)
    rw [if_pos ((toList_iff_lit s []).mpr (by rw [hB]; rfl))]
    simp only [watchwordref9_GetAck.j0, if_true]
    unfold refAck; rw [hB, if_neg (by decide)]
  · rw [if_neg (fun e => h0 (by have := (toList_iff_lit s []).mp e; rw [← hl, this]; rfl)), if_pos (by omega), hb]
    unfold refAck
    rw [hl]
    generalize (B s).getD 0 0 = n at hr ⊢
    obtain ⟨n, rfl⟩ : ∃ m : Nat, n = (m : Int) := ⟨n.toNat, by omega⟩
    rw [wrap_id (x := (n : Int)) (by omega) (by omega), wrap_id (x := 8 * (n : Int)) (by omega) (by omega), wrap_id (x := 1 + 8 * (n : Int)) (by omega) (by omega), Int.toNat_natCast]
    by_cases h1 : s.size = 1 + 8 * n
    · rw [if_pos h1, show (((s.size : Int) != 1 + 8 * (n : Int)) : Bool) = false from by rw [bne_eq_false_iff_eq]; omega]
      simp only [watchwordref9_GetAck.j0, Bool.false_eq_true, if_false]
      exact ref_GetAck_l (by omega) n k 1 [] (by simp only [List.length_nil]; omega) (by omega) (by omega)
    · rw [if_neg h1, show (((s.size : Int) != 1 + 8 * (n : Int)) : Bool) = true from by rw [bne_iff_ne]; omega]
      simp only [watchwordref9_GetAck.j0, if_true]
theorem parseR_flat : ∀ (l : List S40), (∀ x ∈ l, AckOk x.f0 x.f1 x.f2 x.f3) → parseR l.length (l.flatMap hbytes) = l
  | [], _ => rfl
  | x :: l, hr => by
    rw [List.flatMap_cons, List.length_cons]
    unfold parseR
    rw [headAt_hbytes (hr x (by simp)), ← hbytes_len x, List.drop_left, parseR_flat l (fun y hy => hr y (by simp [hy]))]
theorem hbytes_headAt {b : List Int} (hb : Byt b) (h8 : 8 ≤ b.length) : hbytes (headAt b) ++ b.drop 8 = b := by
  match b, h8 with
  | c0 :: c1 :: c2 :: c3 :: c4 :: c5 :: c6 :: c7 :: r, _ =>
    have g : ∀ x ∈ [c0, c1, c2, c3, c4, c5, c6, c7], 0 ≤ x ∧ x < 256 := fun x hx => hb x (by simp only [List.mem_cons, List.not_mem_nil, or_false] at hx ⊢; omega)
    have g0 := g c0 (by simp)
    have g1 := g c1 (by simp)
    have k4 := e4_num (g c2 (by simp)) (g c3 (by simp)) (g c4 (by simp)) (g c5 (by simp))
    have k2 := e2_num (g c6 (by simp)) (g c7 (by simp))
    have a0 : headAt (c0 :: c1 :: c2 :: c3 :: c4 :: c5 :: c6 :: c7 :: r) = ⟨c0, num [c2, c3, c4, c5], c1, num [c6, c7]⟩ := rfl
    rw [a0]
    unfold hbytes
    rw [k4, k2]
    unfold e1
    rw [Int.emod_eq_of_lt g0.1 g0.2, Int.emod_eq_of_lt g1.1 g1.2]
    rfl
theorem flat_parseR : ∀ (n : Nat) (b : List Int), Byt b → b.length = 8 * n → (parseR n b).flatMap hbytes = b
  | 0, b, _, h => by rw [List.eq_nil_of_length_eq_zero (by omega : b.length = 0)]; rfl
  | n + 1, b, hb, h => by
    unfold parseR
    rw [List.flatMap_cons, flat_parseR n (b.drop 8) (byt_drop 8 hb) (by rw [List.length_drop]; omega), hbytes_headAt hb (by omega)]
theorem refAck_eq {b : List Int} (hb : Byt b) : refAck b = getAck b := by
  unfold refAck
  have hr := byt_getD hb 0
  by_cases h1 : b.length = 1 + 8 * (b.getD 0 0).toNat
  · rw [if_pos h1]
    unfold refEnd
    by_cases h2 : heads 0 (parseR (b.getD 0 0).toNat (b.drop 1)) = true
    · rw [if_pos h2]
      have hn := parseR_len (b.getD 0 0).toNat (b.drop 1)
      have hf := flat_parseR (b.getD 0 0).toNat (b.drop 1) (byt_drop 1 hb) (by rw [List.length_drop]; omega)
      have hB : ackBytes (parseR (b.getD 0 0).toNat (b.drop 1)) = b := by
        unfold ackBytes
        rw [hf, hn]
        match b, h1 with
        | c :: r, _ =>
          have : (((c :: r).getD 0 0).toNat : Int) = c := Int.toNat_of_nonneg hr.1
          have hc : 0 ≤ c ∧ c < 256 := hr
          rw [this]
          unfold e1
          rw [Int.emod_eq_of_lt hc.1 hc.2]
          rfl
      have := get_ack h2
      rw [hB] at this
      exact this.symm
    · rw [if_neg h2]
      by_cases h3 : (getAck b).2 = 0
      · exfalso
        obtain ⟨g1, g2⟩ := getAck_ok h3
        generalize (getAck b).1 = l at g1 g2
        have h4 := heads_len g1
        subst g2
        have hd : (ackBytes l).drop 1 = l.flatMap hbytes := by unfold ackBytes; rw [← e1_len (l.length : Int), List.drop_left]
        have h0 : (ackBytes l).getD 0 0 = (l.length : Int) := by
          have : (ackBytes l).getD 0 0 = (l.length : Int) % 256 := rfl
          rw [this]; omega
        rw [h0, Int.toNat_natCast, hd, parseR_flat l (heads_range l 0 g1)] at h2
        exact h2 g1
      · exact (getAck_no h3).symm
  · rw [if_neg h1]
    by_cases h3 : (getAck b).2 = 0
    · exfalso
      obtain ⟨g1, g2⟩ := getAck_ok h3
      generalize (getAck b).1 = l at g1 g2
      have h4 := heads_len g1
      subst g2
      have h0 : (ackBytes l).getD 0 0 = (l.length : Int) := by
        have : (ackBytes l).getD 0 0 = (l.length : Int) % 256 := rfl
        rw [this]; omega
      have hfl : ∀ m : List S40, (m.flatMap hbytes).length = 8 * m.length := by
        intro m
        induction m with
        | nil => rfl
        | cons x m ih => rw [List.flatMap_cons, List.length_append, hbytes_len, List.length_cons, ih]; omega
      apply h1
      rw [h0, Int.toNat_natCast]
      unfold ackBytes
      rw [List.length_append, e1_len, hfl]
    · exact (getAck_no h3).symm
/-- The layer is awake. -/
theorem awake_ok {k : Nat} (hk : 100 ≤ k) : watchwordlaw11_awake.f k = some true :=
  at_rounds (g := fun k => watchwordlaw11_awake.f k) watchwordlaw11_awake.mono hk (by decide +kernel)

end Go.Proofs.Ytdmnfmkeifjmlaa.L11a
