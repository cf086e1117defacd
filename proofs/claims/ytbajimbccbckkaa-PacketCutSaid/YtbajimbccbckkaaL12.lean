/- What the functions of the layer 'packet' come to, in plain lists. -/
import Derived.Test.YtbajimbccbckkaaZ12x4
namespace Go.Proofs.Ytbajimbccbckkaa.L12
open Go.RowKit Go.Proofs.YtbajimbccbckkaaW.PrintWords Go.Proofs.YtbajimbccbckkaaW.PrintLast Go.Proofs.YtbajimbccbckkaaW.PrintMore Go.Proofs.Ytbajimbccbckkaa.Base Go.Proofs.Ytbajimbccbckkaa.Q12
set_option linter.unusedVariables false
set_option linter.unusedSimpArgs false
/-! ### lsa: One, Two, Four, Number -/
theorem lsa_One_f (x : Int) : lsa_One.f x = some (strOfNums (e1 x)) := rfl
theorem lsa_Two_f (x : Int) : lsa_Two.f x = some (strOfNums (e2 x)) := rfl
theorem lsa_Four_f (x : Int) : lsa_Four.f x = some (strOfNums (e4 x)) := by
  simp only [lsa_Four.f, lsa_Two_f, Option.bind_some, strOf_append, strOf_size, e2_len]
  rw [if_pos (by decide)]
  have h1 : x / 65536 / 256 = x / 16777216 := by omega
  simp only [e2, e4, List.cons_append, List.nil_append, h1]
theorem lsa_Number_step {acc : Int} {s : ByteArray} {i k d : Nat} (hd : i + (d + 1) = s.size) (hi : i ≤ 6) (h0 : 0 ≤ acc) (h1 : acc < lim i) :
    lsa_Number.l0 (k + 1) s acc (s.size : Int) (i : Int) = lsa_Number.l0 k s (acc * 256 + (B s).getD i 0) (s.size : Int) ((i + 1 : Nat) : Int) := by
  have hb : bt s (i : Int) = (B s).getD i 0 := by rw [bt_B, Int.toNat_natCast]
  have hr := byt_getD (B_byt s) i
  have hp : lim i ≤ 281474976710656 := lim_le6 hi
  have h2 : wrap64 (acc * 256) = acc * 256 := wrap_id (by omega) (by omega)
  have h3 : wrap64 ((B s).getD i 0) = (B s).getD i 0 := wrap_id (by omega) (by omega)
  have h4 : wrap64 ((i : Int) + 1) = ((i + 1 : Nat) : Int) := by rw [wrap_id (by omega) (by omega)]; omega
  have h5 : Go.bits .or .i64 (acc * 256) ((B s).getD i 0) = acc * 256 + (B s).getD i 0 := or_byte (by omega) (by omega) (by omega) hr.1 hr.2
  simp only [lsa_Number.l0]
  rw [if_pos (by omega), if_pos (by omega), if_pos (by omega), hb, h2, h3, h4, h5]
theorem lsa_Number_l {s : ByteArray} (hs : s.size ≤ 7) : ∀ (d k i : Nat) (acc : Int), i + d = s.size → d < k → 0 ≤ acc → acc < lim i →
    lsa_Number.l0 k s acc (s.size : Int) (i : Int) = some (((B s).drop i).foldl (fun a b => a * 256 + b) acc) := by
  intro d
  induction d with
  | zero =>
    intro k i acc hi hk h0 h1
    obtain ⟨k, rfl⟩ : ∃ m, k = m + 1 := ⟨k - 1, by omega⟩
    simp only [lsa_Number.l0]
    rw [if_neg (by omega), List.drop_of_length_le (by rw [B_len]; omega)]
    rfl
  | succ d ih =>
    intro k i acc hi hk h0 h1
    obtain ⟨k, rfl⟩ : ∃ m, k = m + 1 := ⟨k - 1, by omega⟩
    have hlt : i < (B s).length := by rw [B_len]; omega
    have hd : (B s).drop i = (B s).getD i 0 :: (B s).drop (i + 1) := by
      rw [List.drop_eq_getElem_cons hlt, List.getD_eq_getElem?_getD, List.getElem?_eq_getElem hlt, Option.getD_some]
    have hr := byt_getD (B_byt s) i
    have hl := lim_succ i
    rw [lsa_Number_step hi (by omega) h0 h1, ih k (i + 1) _ (by omega) (by omega) (by omega) (by omega), hd, List.foldl_cons]
theorem lsa_Number_f {s : ByteArray} (hs : s.size ≤ 7) {k : Nat} (hk : 8 ≤ k) : lsa_Number.f k s = some (num (B s)) :=
  lsa_Number_l hs s.size k 0 0 (by omega) (by omega) (by omega) (by decide)
/-! ### lsa: Links, May, body, Put, Get, Head (S109: the struct Link) -/
instance : DecidableEq S109 := fun a b => decidable_of_iff (a.f0 = b.f0 ∧ a.f1 = b.f1) (by cases a; cases b; simp)
def LinkOk (rt : Int) (x : S109) : Prop := 1 ≤ x.f0 ∧ x.f0 ≤ 4 ∧ x.f0 ≠ rt ∧ 1 ≤ x.f1 ∧ x.f1 ≤ 65535
instance (rt : Int) (x : S109) : Decidable (LinkOk rt x) := by unfold LinkOk; infer_instance
def links (rt : Int) : Int → List S109 → Bool
  | _, [] => true
  | p, x :: l => if LinkOk rt x ∧ p < x.f0 then links rt x.f0 l else false
theorem links_short {rt : Int} : ∀ (l : List S109) (p : Int), 0 ≤ p → links rt p l = true → l.length = 0 ∨ (l.length : Int) ≤ 4 - p
  | [], _, _, _ => .inl rfl
  | x :: l, p, h0, h => by
    unfold links at h
    by_cases hc : LinkOk rt x ∧ p < x.f0
    · rw [if_pos hc] at h
      have h4 := hc.1.2.1
      rcases links_short l x.f0 (by omega) h with h1 | h1
      · right; simp only [List.length_cons, h1]; omega
      · right; simp only [List.length_cons]; omega
    · rw [if_neg hc] at h; cases h
theorem links_len {rt : Int} {l : List S109} (h : links rt 0 l = true) : l.length ≤ 4 := by
  rcases links_short l 0 (by omega) h with h1 | h1 <;> omega
theorem links_range {rt : Int} : ∀ (l : List S109) (p : Int), links rt p l = true → ∀ x ∈ l, LinkOk rt x
  | [], _, _, _, hx => by cases hx
  | y :: l, p, h, x, hx => by
    unfold links at h
    by_cases hc : LinkOk rt y ∧ p < y.f0
    · rw [if_pos hc] at h
      rcases List.mem_cons.mp hx with rfl | hx
      · exact hc.1
      · exact links_range l y.f0 h x hx
    · rw [if_neg hc] at h; cases h
theorem rdL_at {l : List S109} {i : Nat} (h : i < l.length) : rd_T109 l (i : Int) = l[i] := by
  unfold rd_T109; rw [Int.toNat_natCast, List.getD_eq_getElem?_getD, List.getElem?_eq_getElem h]; rfl
def prevL (l : List S109) (i : Nat) : Int := if i = 0 then 0 else (rd_T109 l ((i : Int) - 1)).f0
theorem prevL_succ (l : List S109) (i : Nat) : prevL l (i + 1) = (rd_T109 l (i : Int)).f0 := by
  unfold prevL; rw [if_neg (by omega)]
  have : ((i + 1 : Nat) : Int) - 1 = (i : Int) := by omega
  rw [this]
theorem dropL_at {l : List S109} {i : Nat} (h : i < l.length) : l.drop i = rd_T109 l (i : Int) :: l.drop (i + 1) := by
  rw [List.drop_eq_getElem_cons h, rdL_at h]
theorem lsa_Router_f (x : Int) : lsa_Router.f x = some (decide (1 ≤ x ∧ x ≤ 4)) := by
  unfold lsa_Router.f
  by_cases h : x ≥ 1
  · rw [if_pos h]; simp [show (1 : Int) ≤ x from h]
  · rw [if_neg h]; simp [show ¬ (1 : Int) ≤ x from h]
theorem lsa_Links_l {l : List S109} {rt : Int} (hn : l.length ≤ 9223372036854775807) : ∀ (d k i : Nat), i + d = l.length → d < k →
    lsa_Links.l0 k l rt l (l.length : Int) (i : Int) = some (links rt (prevL l i) (l.drop i)) := by
  intro d
  induction d with
  | zero =>
    intro k i hi hk
    obtain ⟨k, rfl⟩ : ∃ m, k = m + 1 := ⟨k - 1, by omega⟩
    simp only [lsa_Links.l0]
    rw [if_neg (by omega), List.drop_of_length_le (by omega)]
    rfl
  | succ d ih =>
    intro k i hi hk
    obtain ⟨k, rfl⟩ : ∃ m, k = m + 1 := ⟨k - 1, by omega⟩
    have hlt : i < l.length := by omega
    have h4 : wrap64 ((i : Int) + 1) = ((i + 1 : Nat) : Int) := by rw [wrap_id (by omega) (by omega)]; omega
    have h5 : wrap64 ((i : Int) - 1) = (i : Int) - 1 := wrap_id (by omega) (by omega)
    have hr := ih k (i + 1) (by omega) (by omega)
    simp only [lsa_Links.l0, lsa_Router_f, Option.bind_some, decide_eq_true_eq]
    rw [if_pos (by omega), if_pos (by omega), if_pos (by omega), h4, h5, hr, prevL_succ, dropL_at hlt]
    generalize hx : rd_T109 l (i : Int) = x
    by_cases c1 : 1 ≤ x.f0 ∧ x.f0 ≤ 4
    · rw [if_pos c1]
      by_cases c2 : x.f0 = rt
      · rw [if_pos c2]; unfold links; rw [if_neg (fun hh => hh.1.2.2.1 c2)]
      rw [if_neg c2]
      by_cases c3 : x.f1 < 1
      · rw [if_pos c3]; unfold links; rw [if_neg (fun hh => by have := hh.1.2.2.2.1; omega)]
      rw [if_neg c3]
      by_cases c4 : x.f1 > 65535
      · rw [if_pos c4]; unfold links; rw [if_neg (fun hh => by have := hh.1.2.2.2.2; omega)]
      rw [if_neg c4]
      have hok : LinkOk rt x := ⟨c1.1, c1.2, c2, by omega, by omega⟩
      by_cases h0 : (i : Int) > 0
      · rw [if_pos h0, if_pos (by omega), if_pos (by omega)]
        have hp : prevL l i = (rd_T109 l ((i : Int) - 1)).f0 := by unfold prevL; rw [if_neg (by omega)]
        by_cases hg : (rd_T109 l ((i : Int) - 1)).f0 ≥ x.f0
        · rw [if_pos hg]; unfold links; rw [if_neg (by rw [hp]; omega)]
        · rw [if_neg hg]; conv => rhs; unfold links
          rw [if_pos ⟨hok, by rw [hp]; omega⟩]
      · rw [if_neg h0]
        have hp : prevL l i = 0 := by unfold prevL; rw [if_pos (by omega)]
        conv => rhs; unfold links
        rw [if_pos ⟨hok, by rw [hp]; omega⟩]
    · rw [if_neg c1]; unfold links; rw [if_neg (fun hh => c1 ⟨hh.1.1, hh.1.2.1⟩)]
theorem lsa_Links_f {l : List S109} {rt : Int} (hn : l.length ≤ 9223372036854775807) {k : Nat} (hk : l.length < k) : lsa_Links.f k l rt = some (links rt 0 l) :=
  lsa_Links_l hn l.length k 0 (by omega) hk
def LsaOk (r s g : Int) (l : List S109) : Prop := 1 ≤ r ∧ r ≤ 4 ∧ 1 ≤ s ∧ s ≤ 2147483647 ∧ 0 ≤ g ∧ g ≤ 60 ∧ links r 0 l = true
instance (r s g : Int) (l : List S109) : Decidable (LsaOk r s g l) := by unfold LsaOk; infer_instance
theorem lsa_May_f {r s g : Int} {l : List S109} (hn : l.length ≤ 9223372036854775807) {k : Nat} (hk : l.length < k) : lsa_May.f k r s g l = some (decide (LsaOk r s g l)) := by
  simp only [lsa_May.f, lsa_Links_f hn hk, lsa_Router_f, Option.bind_some]
  unfold lsa_Serial.f lsa_Age.f
  by_cases h1 : 1 ≤ r ∧ r ≤ 4
  · unfold LsaOk
    by_cases h3 : s ≥ 1
    · by_cases h4 : s ≤ 2147483647
      · by_cases h5 : g ≥ 0
        · by_cases h6 : g ≤ 60
          · simp [h1.1, h1.2, h3, h4, h5, h6]
          · simp [h1.1, h1.2, h3, h4, h5, h6]
        · simp [h1.1, h1.2, h3, h4, h5]
      · simp [h1.1, h1.2, h3, h4]
    · simp [h1.1, h1.2, h3]
  · rw [decide_eq_false h1, if_neg (by decide), decide_eq_false (fun hh : LsaOk r s g l => h1 ⟨hh.1, hh.2.1⟩)]
def lbytes (x : S109) : List Int := e1 x.f0 ++ e2 x.f1
theorem lbytes_byt (x : S109) : Byt (lbytes x) := byt_append (e1_byt _) (e2_byt _)
theorem lbytes_len (x : S109) : (lbytes x).length = 3 := rfl
theorem lflat_byt (l : List S109) : Byt (l.flatMap lbytes) := by
  intro y hy
  obtain ⟨x, _, hx⟩ := List.mem_flatMap.mp hy
  exact lbytes_byt x y hx
theorem lflat_len (l : List S109) : (l.flatMap lbytes).length = 3 * l.length := by
  induction l with
  | nil => rfl
  | cons x l ih => rw [List.flatMap_cons, List.length_append, ih, lbytes_len, List.length_cons]; omega
def bodyB (r s : Int) (l : List S109) : List Int := ((e1 r ++ e4 s) ++ e1 (l.length : Int)) ++ l.flatMap lbytes
theorem bodyB_byt (r s : Int) (l : List S109) : Byt (bodyB r s l) := byt_append (byt_append (byt_append (e1_byt _) (e4_byt _)) (e1_byt _)) (lflat_byt l)
theorem bodyB_len (r s : Int) (l : List S109) : (bodyB r s l).length = 6 + 3 * l.length := by
  unfold bodyB; simp only [List.length_append, lflat_len, e1_len, e4_len]
theorem lsa_body_l {l : List S109} (hn : l.length ≤ 255) : ∀ (d k i : Nat) (acc : List Int), i + d = l.length → d < k → acc.length ≤ 10 + 3 * i →
    lsa_body.l0 k (strOfNums acc) l (l.length : Int) (i : Int) = some (strOfNums (acc ++ (l.drop i).flatMap lbytes)) := by
  intro d
  induction d with
  | zero =>
    intro k i acc hi hk ha
    obtain ⟨k, rfl⟩ : ∃ m, k = m + 1 := ⟨k - 1, by omega⟩
    simp only [lsa_body.l0]
    rw [if_neg (by omega), List.drop_of_length_le (by omega)]
    simp
  | succ d ih =>
    intro k i acc hi hk ha
    obtain ⟨k, rfl⟩ : ∃ m, k = m + 1 := ⟨k - 1, by omega⟩
    have hlt : i < l.length := by omega
    have h4 : wrap64 ((i : Int) + 1) = ((i + 1 : Nat) : Int) := by rw [wrap_id (by omega) (by omega)]; omega
    simp only [lsa_body.l0, lsa_One_f, lsa_Two_f, Option.bind_some, strOf_append, strOf_size, List.length_append, e1_len, e2_len]
    rw [if_pos (by omega), if_pos (by omega), if_pos (by omega), if_pos (by decide), if_pos (by omega), h4,
      ih k (i + 1) _ (by omega) (by omega) (by simp only [List.length_append, e1_len, e2_len]; omega), dropL_at hlt, List.flatMap_cons]
    simp only [lbytes, List.append_assoc]
theorem lsa_body_f {r s g : Int} {l : List S109} (hn : l.length ≤ 255) {k : Nat} (hk : l.length < k) : lsa_body.f k r s g l = some (strOfNums (bodyB r s l)) := by
  simp only [lsa_body.f, lsa_One_f, lsa_Four_f, Option.bind_some, strOf_append, strOf_size, List.length_append, e1_len, e4_len]
  rw [if_pos (by decide), if_pos (by decide)]
  exact lsa_body_l hn l.length k 0 _ (by omega) hk (by simp only [List.length_append, e1_len, e4_len]; omega)
def fl : Int → Int → List Int → Int
  | a, b, [] => 256 * b + a
  | a, b, x :: l => fl ((a + x) % 255) ((b + (a + x) % 255) % 255) l
theorem fl_range : ∀ (l : List Int) (a b : Int), 0 ≤ a ∧ a < 255 → 0 ≤ b ∧ b < 255 → 0 ≤ fl a b l ∧ fl a b l ≤ 65278
  | [], a, b, ha, hb => by unfold fl; omega
  | x :: l, a, b, ha, hb => by unfold fl; exact fl_range l _ _ (by omega) (by omega)
def flSum (l : List Int) : Int := fl 0 0 l
theorem flSum_range (l : List Int) : 0 ≤ flSum l ∧ flSum l ≤ 65278 := fl_range l 0 0 (by omega) (by omega)
theorem fletch_Sum_l {s : ByteArray} (hs : s.size ≤ 140737488351232) : ∀ (d k i : Nat) (a b : Int), i + d = s.size → d < k → 0 ≤ a ∧ a < 255 → 0 ≤ b ∧ b < 255 →
    fletch_Sum.l0 k s a b (s.size : Int) (i : Int) = some (fl a b ((B s).drop i)) := by
  intro d
  induction d with
  | zero =>
    intro k i a b hi hk ha hb
    obtain ⟨k, rfl⟩ : ∃ m, k = m + 1 := ⟨k - 1, by omega⟩
    simp only [fletch_Sum.l0]
    rw [if_neg (by omega), List.drop_of_length_le (by rw [B_len]; omega), wrap_id (x := 256 * b) (by omega) (by omega), wrap_id (by omega) (by omega)]
    rfl
  | succ d ih =>
    intro k i a b hi hk ha hb
    obtain ⟨k, rfl⟩ : ∃ m, k = m + 1 := ⟨k - 1, by omega⟩
    have hlt : i < (B s).length := by rw [B_len]; omega
    have hd : (B s).drop i = (B s).getD i 0 :: (B s).drop (i + 1) := by
      rw [List.drop_eq_getElem_cons hlt, List.getD_eq_getElem?_getD, List.getElem?_eq_getElem hlt, Option.getD_some]
    have hbt : bt s (i : Int) = (B s).getD i 0 := by rw [bt_B, Int.toNat_natCast]
    have hr := byt_getD (B_byt s) i
    have h4 : wrap64 ((i : Int) + 1) = ((i + 1 : Nat) : Int) := by rw [wrap_id (by omega) (by omega)]; omega
    simp only [fletch_Sum.l0]
    rw [if_pos (by omega), if_pos (by omega), if_pos (by omega), hbt, h4, hd]
    generalize (B s).getD i 0 = x at hr ⊢
    rw [wrap_id (x := x) (by omega) (by omega), wrap_id (x := a + x) (by omega) (by omega), Int.tmod_eq_emod_of_nonneg (a := a + x) (by omega),
      wrap_id (x := b + (a + x) % 255) (by omega) (by omega), Int.tmod_eq_emod_of_nonneg (a := b + (a + x) % 255) (by omega),
      ih k (i + 1) _ _ (by omega) (by omega) (by omega) (by omega)]
    rfl
theorem fletch_Sum_f {s : ByteArray} (hs : s.size ≤ 140737488351232) {k : Nat} (hk : s.size < k) : fletch_Sum.f k s = some (flSum (B s)) :=
  fletch_Sum_l hs s.size k 0 0 0 (by omega) hk (by omega) (by omega)
def putB (r s g : Int) (l : List S109) : List Int := (e1 g ++ bodyB r s l) ++ e2 (flSum (bodyB r s l))
theorem putB_byt (r s g : Int) (l : List S109) : Byt (putB r s g l) := byt_append (byt_append (e1_byt _) (bodyB_byt r s l)) (e2_byt _)
theorem putB_len (r s g : Int) (l : List S109) : (putB r s g l).length = 9 + 3 * l.length := by
  unfold putB; simp only [List.length_append, bodyB_len, e1_len, e2_len]; omega
theorem lsa_Put_f {r s g : Int} {l : List S109} (hn : l.length ≤ 9223372036854775807) {k : Nat} (hk : l.length < k) (h20 : 20 ≤ k) :
    lsa_Put.f k r s g l = some (if LsaOk r s g l then (strOfNums (putB r s g l), 0) else (⟨#[]⟩, 700)) := by
  simp only [lsa_Put.f, lsa_May_f hn hk, Option.bind_some, decide_eq_true_eq]
  by_cases h : LsaOk r s g l
  · have h4 := links_len h.2.2.2.2.2.2
    have hb := bodyB_len r s l
    rw [if_pos h, if_pos h, lsa_body_f (by omega) hk]
    simp only [Option.bind_some, lsa_One_f, lsa_Two_f]
    rw [fletch_Sum_f (by rw [strOf_size]; omega) (by rw [strOf_size]; omega), B_strOf (bodyB_byt r s l)]
    simp only [Option.bind_some, strOf_append, strOf_size, List.length_append, e1_len, e2_len, hb]
    rw [if_pos (by omega), if_pos (by omega)]
    rfl
  · rw [if_neg h, if_neg h]
def parseL : Nat → List Int → List S109
  | 0, _ => []
  | n + 1, b => ⟨b.getD 0 0, num ((b.drop 1).take 2)⟩ :: parseL n (b.drop 3)
theorem parseL_len : ∀ (n : Nat) (b : List Int), (parseL n b).length = n
  | 0, _ => rfl
  | n + 1, b => by unfold parseL; rw [List.length_cons, parseL_len n]
def endL (b : List Int) (sz : Nat) (r s g : Int) (l : List S109) : Option (Int × Int × Int × List S109 × Nat) :=
  if LsaOk r s g l ∧ putB r s g l = b.take sz then some (r, s, g, l, sz) else none
def getLsa (b : List Int) : Option (Int × Int × Int × List S109 × Nat) :=
  if b.length < 7 then none else
  if b.length < 9 + 3 * (b.getD 6 0).toNat then none else
  endL b (9 + 3 * (b.getD 6 0).toNat) (b.getD 1 0) (num ((b.drop 2).take 4)) (b.getD 0 0) (parseL (b.getD 6 0).toNat (b.drop 7))
def tellL (at_ : Int) : Option (Int × Int × Int × List S109 × Nat) → Int × Int × Int × List S109 × Int × Int
  | some (r, s, g, l, sz) => (r, s, g, l, at_ + (sz : Int), 0)
  | none => (0, 0, 0, [], 0, 700)
theorem lgetD_drop (b : List Int) (i j : Nat) : (b.drop i).getD j 0 = b.getD (i + j) 0 := by
  rw [List.getD_eq_getElem?_getD, List.getD_eq_getElem?_getD, List.getElem?_drop]
theorem B_tail (x : ByteArray) (p : Nat) : B (x.extract p x.size) = (B x).drop p := by
  rw [B_extract, List.take_of_length_le]
  rw [List.length_drop, B_len]; exact Nat.le_refl _
theorem size_tail (x : ByteArray) (p : Nat) : (x.extract p x.size).size = x.size - p := by
  rw [ByteArray.size_extract, Nat.min_self]
theorem lsa_Number_at (x : ByteArray) (p a b : Nat) (hab : b - a ≤ 7) {k : Nat} (hk : 8 ≤ k) : lsa_Number.f k ((x.extract p x.size).extract a b) = some (num ((((B x).drop p).drop a).take (b - a))) := by
  have e : B ((x.extract p x.size).extract a b) = (((B x).drop p).drop a).take (b - a) := by rw [B_extract, B_tail]
  have hs : ((x.extract p x.size).extract a b).size ≤ 7 := by rw [← B_len, e, List.length_take]; exact Nat.le_trans (Nat.min_le_left _ _) hab
  rw [lsa_Number_f hs hk, e]
theorem bt_tail (x : ByteArray) (p j : Nat) : bt (x.extract p x.size) (j : Int) = ((B x).drop p).getD j 0 := by
  rw [bt_B, B_tail, Int.toNat_natCast]
theorem wrap_bt (x : ByteArray) (p j : Nat) : wrap64 (bt (x.extract p x.size) (j : Int)) = ((B x).drop p).getD j 0 := by
  have h := byt_getD (byt_drop p (B_byt x)) j
  rw [bt_tail]; exact wrap_id (by omega) (by omega)
theorem wrap_bt0 (x : ByteArray) (p : Nat) : wrap64 (bt (x.extract p x.size) 0) = ((B x).drop p).getD 0 0 := wrap_bt x p 0
theorem tail_bounds {z p : Nat} (h : p + 3 ≤ z) : (p : Int) ≤ (z : Int) ∧ 0 < ((z - p : Nat) : Int) ∧ 3 ≤ ((z - p : Nat) : Int) := by omega
theorem link_in {sz n i z : Nat} (hsz : sz = 9 + 3 * n) (hx : sz ≤ z) (hi : i < n) : 7 + 3 * i + 3 ≤ z := by omega
theorem wrap_3 {i : Nat} (h : i ≤ 255) : wrap64 (3 * (i : Int)) = 3 * (i : Int) := wrap_id (by omega) (by omega)
theorem wrap_7 {i : Nat} (h : i ≤ 255) : wrap64 (7 + 3 * (i : Int)) = ((7 + 3 * i : Nat) : Int) := by rw [wrap_id (by omega) (by omega)]; omega
theorem wrap_1 {i : Nat} (h : i ≤ 255) : wrap64 ((i : Int) + 1) = ((i + 1 : Nat) : Int) := by rw [wrap_id (by omega) (by omega)]; omega
set_option maxHeartbeats 2000000 in
theorem lsa_Get_l {x : ByteArray} (hs : x.size ≤ 281474976710656) {at_ : Int} (ha0 : 0 ≤ at_) (ha1 : at_ ≤ 281474976710656) {r s g : Int} {n sz : Nat} (hn : n ≤ 255) (hsz : sz = 9 + 3 * n) (hx : sz ≤ x.size) : ∀ (d k i : Nat) (acc : List S109), acc.length = i → i + d = n → d + 300 ≤ k →
    lsa_Get.l0 k at_ x (sz : Int) (n : Int) (i : Int) r s g acc = some (tellL at_ (endL (B x) sz r s g (acc ++ parseL d ((B x).drop (7 + 3 * i))))) := by
  intro d
  induction d with
  | zero =>
    intro k i acc ha hi hk
    obtain ⟨k, rfl⟩ : ∃ m, k = m + 1 := ⟨k - 1, by omega⟩
    simp only [lsa_Get.l0]
    rw [if_neg (by omega), lsa_Put_f (by omega) (by omega) (by omega), Option.bind_some]
    have he : acc ++ parseL 0 ((B x).drop (7 + 3 * i)) = acc := by unfold parseL; simp
    rw [he]
    unfold endL
    by_cases h : LsaOk r s g acc
    · rw [if_pos h, if_pos rfl, if_pos (by omega), if_pos (by omega), Int.toNat_natCast]
      have hB : B (x.extract 0 sz) = (B x).take sz := by rw [B_extract, List.drop_zero, Nat.sub_zero]
      by_cases h2 : putB r s g acc = (B x).take sz
      · rw [if_pos (by rw [toList_iff, B_strOf (putB_byt _ _ _ _), hB]; exact h2), if_pos ⟨h, h2⟩, wrap_id (by omega) (by omega)]
        rfl
      · rw [if_neg (by rw [toList_iff, B_strOf (putB_byt _ _ _ _), hB]; exact h2), if_neg (fun hh => h2 hh.2)]
        rfl
    · rw [if_neg h, if_neg (by decide), if_neg (fun hh => h hh.1)]
      rfl
  | succ d ih =>
    intro k i acc ha hi hk
    obtain ⟨k, rfl⟩ : ∃ m, k = m + 1 := ⟨k - 1, by omega⟩
    have hlt : i < n := by omega
    have hp : parseL (d + 1) ((B x).drop (7 + 3 * i)) = (⟨((B x).drop (7 + 3 * i)).getD 0 0, num ((((B x).drop (7 + 3 * i)).drop 1).take 2)⟩ : S109) :: parseL d ((B x).drop (7 + 3 * (i + 1))) := by
      have h0 : ((B x).drop (7 + 3 * i)).drop 3 = (B x).drop (7 + 3 * (i + 1)) := by rw [List.drop_drop]; congr 1
      conv => lhs; unfold parseL
      rw [h0]
    obtain ⟨c1, c2, c3⟩ := tail_bounds (z := x.size) (p := 7 + 3 * i) (link_in hsz hx hlt)
    have hr := ih k (i + 1) (acc ++ [(⟨((B x).drop (7 + 3 * i)).getD 0 0, num ((((B x).drop (7 + 3 * i)).drop 1).take 2)⟩ : S109)]) (by simp only [List.length_append, List.length_singleton]; omega) (by omega) (by omega)
    have hk8 : 8 ≤ k := by omega
    have ha2 : acc.length < 8796093022208 := by omega
    have w3 := wrap_3 (show i ≤ 255 by omega)
    have w7 := wrap_7 (show i ≤ 255 by omega)
    have w1 := wrap_1 (show i ≤ 255 by omega)
    clear ih ha hi hk hsz hs ha0 ha1
    simp only [lsa_Get.l0, w3, w7, w1, Int.toNat_natCast, size_tail]
    rw [if_pos (Int.ofNat_lt.mpr hlt), if_pos (Int.natCast_nonneg _), if_pos c1, if_pos c2, if_pos (by decide), if_pos c3, lsa_Number_at x (7 + 3 * i) 1 3 (by decide) hk8, Option.bind_some, wrap_bt0 x (7 + 3 * i), if_pos ha2, hr, hp, List.append_assoc]
    rfl
set_option maxHeartbeats 2000000 in
theorem lsa_Get_f {a : ByteArray} (hs : a.size ≤ 281474976710656) {at_ : Int} (hw : -9223372036854775808 ≤ at_ ∧ at_ ≤ 9223372036854775807) {k : Nat} (hk : 600 ≤ k) :
    lsa_Get.f k a at_ = some (tellL at_ (if 0 ≤ at_ then getLsa ((B a).drop at_.toNat) else none)) := by
  obtain ⟨k, rfl⟩ : ∃ m, k = m + 1 := ⟨k - 1, by omega⟩
  have hl := B_len a
  unfold lsa_Get.f
  by_cases c0 : at_ < 0
  · rw [if_pos c0, if_neg (by omega)]
    simp only [lsa_Get.j0, if_true]; rfl
  rw [if_neg c0, if_pos (show 0 ≤ at_ by omega)]
  obtain ⟨p, rfl⟩ : ∃ p : Nat, at_ = (p : Int) := ⟨at_.toNat, by omega⟩
  rw [Int.toNat_natCast]
  have hld : ((B a).drop p).length = a.size - p := by rw [List.length_drop, hl]
  by_cases c1 : (p : Int) > (a.size : Int)
  · rw [if_pos c1]
    simp only [lsa_Get.j0, if_true]
    unfold getLsa
    rw [if_pos (by omega)]; rfl
  rw [if_neg c1, wrap_id (x := (a.size : Int) - (p : Int)) (by omega) (by omega)]
  by_cases c2 : (a.size : Int) - (p : Int) < 7
  · rw [decide_eq_true c2]
    simp only [lsa_Get.j0, if_true]
    unfold getLsa
    rw [if_pos (by omega)]; rfl
  rw [decide_eq_false c2]
  have hby : Byt ((B a).drop p) := byt_drop p (B_byt a)
  have hr6 := byt_getD hby 6
  simp only [lsa_Get.j0, Int.toNat_natCast, Bool.false_eq_true, if_false, size_tail]
  rw [if_pos (by omega), if_pos (by omega), if_pos (by omega), if_pos (by omega), if_pos (by decide), if_pos (by omega), lsa_Number_at a p 2 6 (by omega) (show 8 ≤ k by omega), Option.bind_some, if_pos (by omega), wrap_bt0 a p, show wrap64 (bt (a.extract p a.size) 1) = _ from wrap_bt a p 1, show wrap64 (bt (a.extract p a.size) 6) = _ from wrap_bt a p 6]
  unfold getLsa
  rw [hld]
  generalize hn : ((B a).drop p).getD 6 0 = n at hr6 ⊢
  obtain ⟨n, rfl⟩ : ∃ m : Nat, n = (m : Int) := ⟨n.toNat, by omega⟩
  clear hn
  rw [wrap_id (x := 3 * (n : Int)) (by omega) (by omega), wrap_id (x := 7 + 3 * (n : Int)) (by omega) (by omega), wrap_id (x := 7 + 3 * (n : Int) + 2) (by omega) (by omega), Int.toNat_natCast]
  by_cases c3 : 7 + 3 * (n : Int) + 2 > ((a.size - p : Nat) : Int)
  · rw [if_pos c3, if_neg (by omega), if_pos (by omega)]; rfl
  rw [if_neg c3, if_neg (by omega), if_neg (by omega)]
  have hz : 7 + 3 * (n : Int) + 2 = ((9 + 3 * n : Nat) : Int) := by omega
  have := lsa_Get_l (x := a.extract p a.size) (by rw [size_tail]; omega) (show 0 ≤ (p : Int) by omega) (by omega) (r := ((B a).drop p).getD 1 0) (s := num ((((B a).drop p).drop 2).take 4)) (g := ((B a).drop p).getD 0 0) (n := n) (sz := 9 + 3 * n) (by omega) rfl (by rw [size_tail]; omega) n k 0 [] rfl (by omega) (by omega)
  rw [hz]
  refine Eq.trans this ?_
  rw [B_tail]
  rfl
theorem parse_links : ∀ (l : List S109) (r : List Int), (∀ x ∈ l, 1 ≤ x.f0 ∧ x.f0 ≤ 4 ∧ 1 ≤ x.f1 ∧ x.f1 ≤ 65535) → parseL l.length (l.flatMap lbytes ++ r) = l
  | [], r, _ => rfl
  | x :: l, r, h => by
    have hx := h x (by simp)
    rw [List.flatMap_cons, List.length_cons, List.append_assoc]
    unfold parseL
    have a0 : (lbytes x ++ (l.flatMap lbytes ++ r)).getD 0 0 = x.f0 := by simp [lbytes, e1]; omega
    have a1 : ((lbytes x ++ (l.flatMap lbytes ++ r)).drop 1).take 2 = e2 x.f1 := by simp [lbytes, e1, e2]
    rw [a0, a1, num_e2 (by omega) (by omega), ← lbytes_len x, List.drop_left, parse_links l r (fun y hy => h y (by simp [hy]))]
theorem get_put {r s g : Int} {l : List S109} (h : LsaOk r s g l) (rest : List Int) : getLsa (putB r s g l ++ rest) = some (r, s, g, l, 9 + 3 * l.length) := by
  obtain ⟨h1, h2, h3, h4, h5, h6, h7⟩ := h
  have hl := links_len h7
  have hlen := putB_len r s g l
  have hbn : (bodyB r s l).length = 6 + 3 * l.length := bodyB_len r s l
  have hform : putB r s g l ++ rest = (g % 256) :: (r % 256) :: (s / 16777216 % 256) :: (s / 65536 % 256) :: (s / 256 % 256) :: (s % 256) :: ((l.length : Int) % 256) :: (l.flatMap lbytes ++ (e2 (flSum (bodyB r s l)) ++ rest)) := by
    unfold putB
    conv => lhs; rw [show bodyB r s l = ((e1 r ++ e4 s) ++ e1 (l.length : Int)) ++ l.flatMap lbytes from rfl]
    simp [e1, e4, bodyB]
  have g0 : (putB r s g l ++ rest).getD 0 0 = g := by rw [hform]; show g % 256 = g; omega
  have g1 : (putB r s g l ++ rest).getD 1 0 = r := by rw [hform]; show r % 256 = r; omega
  have g6 : (putB r s g l ++ rest).getD 6 0 = (l.length : Int) := by rw [hform]; show (l.length : Int) % 256 = _; omega
  have g2 : ((putB r s g l ++ rest).drop 2).take 4 = e4 s := by rw [hform]; rfl
  have g7 : (putB r s g l ++ rest).drop 7 = l.flatMap lbytes ++ (e2 (flSum (bodyB r s l)) ++ rest) := by rw [hform]; rfl
  unfold getLsa
  rw [if_neg (by rw [List.length_append]; omega), g6, Int.toNat_natCast, if_neg (by rw [List.length_append]; omega), g0, g1, g2, g7, num_e4 (by omega) (by omega),
    parse_links l _ (fun x hx => by have := links_range l 0 h7 x hx; exact ⟨this.1, this.2.1, this.2.2.2.1, this.2.2.2.2⟩)]
  unfold endL
  rw [if_pos ⟨⟨h1, h2, h3, h4, h5, h6, h7⟩, by rw [← hlen, List.take_left]⟩]
theorem get_some {b : List Int} {r s g : Int} {l : List S109} {sz : Nat} (h : getLsa b = some (r, s, g, l, sz)) : LsaOk r s g l ∧ putB r s g l = b.take sz ∧ sz ≤ b.length ∧ sz = 9 + 3 * l.length := by
  unfold getLsa at h
  by_cases c0 : b.length < 7
  · rw [if_pos c0] at h; cases h
  rw [if_neg c0] at h
  by_cases c1 : b.length < 9 + 3 * (b.getD 6 0).toNat
  · rw [if_pos c1] at h; cases h
  rw [if_neg c1] at h
  unfold endL at h
  split at h
  · rename_i hc
    simp only [Option.some.injEq, Prod.mk.injEq] at h
    obtain ⟨rfl, rfl, rfl, rfl, rfl⟩ := h
    exact ⟨hc.1, hc.2, by omega, by rw [parseL_len]⟩
  · cases h
theorem SameL_l {l m : List S109} (hn : l.length ≤ 9223372036854775807) (he : l.length = m.length) : ∀ (d k i : Nat), i + d = l.length → d < k →
    watchwordlaw0_SameLinks.l0 k l m (i : Int) = some (decide (l.drop i = m.drop i)) := by
  intro d
  induction d with
  | zero =>
    intro k i hi hk
    obtain ⟨k, rfl⟩ : ∃ m, k = m + 1 := ⟨k - 1, by omega⟩
    simp only [watchwordlaw0_SameLinks.l0]
    rw [if_neg (by omega), List.drop_of_length_le (by omega), List.drop_of_length_le (by omega)]
    simp
  | succ d ih =>
    intro k i hi hk
    obtain ⟨k, rfl⟩ : ∃ m, k = m + 1 := ⟨k - 1, by omega⟩
    have h4 : wrap64 ((i : Int) + 1) = ((i + 1 : Nat) : Int) := by rw [wrap_id (by omega) (by omega)]; omega
    simp only [watchwordlaw0_SameLinks.l0]
    rw [if_pos (by omega), if_pos (by omega), if_pos (by omega), h4, ih k (i + 1) (by omega) (by omega), dropL_at (l := l) (i := i) (by omega), dropL_at (l := m) (i := i) (by omega)]
    generalize rd_T109 l (i : Int) = x
    generalize rd_T109 m (i : Int) = y
    have hx : (!(x.f0 == y.f0) || (!(x.f1 == y.f1))) = !decide (x = y) := by
      cases x; cases y
      rw [Bool.eq_iff_iff]
      simp
    rw [hx]
    by_cases hc : x = y
    · rw [hc]; simp
    · simp [hc]
theorem SameL_f {l m : List S109} (hn : l.length ≤ 9223372036854775807) {k : Nat} (hk : l.length < k) : watchwordlaw0_SameLinks.f k l m = some (decide (l = m)) := by
  unfold watchwordlaw0_SameLinks.f
  by_cases h : l.length = m.length
  · rw [if_pos (by omega)]
    have := SameL_l hn h l.length k 0 (by omega) hk
    rw [List.drop_zero, List.drop_zero] at this
    exact this
  · rw [if_neg (by omega), decide_eq_false (fun e => h (by rw [e]))]
theorem SameLsa_f {r s g r' s' g' : Int} {l m : List S109} (hn : l.length ≤ 9223372036854775807) {k : Nat} (hk : l.length < k) :
    watchwordlaw0_SameLsa.f k r s g l r' s' g' m = some (decide (r = r' ∧ s = s' ∧ g = g' ∧ l = m)) := by
  unfold watchwordlaw0_SameLsa.f
  rw [SameL_f hn hk]
  by_cases h1 : r = r'
  · by_cases h2 : s = s'
    · by_cases h3 : g = g'
      · rw [if_pos h1, if_pos h2, if_pos h3]; simp [h1, h2, h3]
      · rw [if_pos h1, if_pos h2, if_neg h3]; simp [h3]
    · rw [if_pos h1, if_neg h2]; simp [h2]
  · rw [if_neg h1]; simp [h1]
/-! ### update: May, Put, Get; SameLsas (S45: the struct Lsa) -/
def UsOk (x : S45) : Prop := LsaOk x.f0 x.f1 x.f2 x.f3
instance (x : S45) : Decidable (UsOk x) := by unfold UsOk; infer_instance
instance : DecidableEq S45 := fun a b => decidable_of_iff (a.f0 = b.f0 ∧ a.f1 = b.f1 ∧ a.f2 = b.f2 ∧ a.f3 = b.f3) (by cases a; cases b; simp)
def upd : Int → List S45 → Bool
  | _, [] => true
  | p, x :: l => if UsOk x ∧ p < x.f0 then upd x.f0 l else false
theorem upd_short : ∀ (l : List S45) (p : Int), 0 ≤ p → upd p l = true → l.length = 0 ∨ (l.length : Int) ≤ 4 - p
  | [], _, _, _ => .inl rfl
  | x :: l, p, h0, h => by
    unfold upd at h
    by_cases hc : UsOk x ∧ p < x.f0
    · rw [if_pos hc] at h
      have h4 := hc.1.2.1
      rcases upd_short l x.f0 (by omega) h with h1 | h1
      · right; simp only [List.length_cons, h1]; omega
      · right; simp only [List.length_cons]; omega
    · rw [if_neg hc] at h; cases h
theorem upd_len {l : List S45} (h : upd 0 l = true) : l.length ≤ 4 := by
  rcases upd_short l 0 (by omega) h with h1 | h1 <;> omega
theorem upd_ok : ∀ (l : List S45) (p : Int), upd p l = true → ∀ x ∈ l, UsOk x
  | [], _, _, _, hx => by cases hx
  | y :: l, p, h, x, hx => by
    unfold upd at h
    by_cases hc : UsOk y ∧ p < y.f0
    · rw [if_pos hc] at h
      rcases List.mem_cons.mp hx with rfl | hx
      · exact hc.1
      · exact upd_ok l y.f0 h x hx
    · rw [if_neg hc] at h; cases h
theorem usOk_len {x : S45} (h : UsOk x) : x.f3.length ≤ 4 := links_len h.2.2.2.2.2.2
theorem rdU_at {l : List S45} {i : Nat} (h : i < l.length) : rd_T45 l (i : Int) = l[i] := by
  unfold rd_T45; rw [Int.toNat_natCast, List.getD_eq_getElem?_getD, List.getElem?_eq_getElem h]; rfl
theorem rdU_mem {l : List S45} {i : Nat} (h : i < l.length) : rd_T45 l (i : Int) ∈ l := by rw [rdU_at h]; exact List.getElem_mem h
def prevU (l : List S45) (i : Nat) : Int := if i = 0 then 0 else (rd_T45 l ((i : Int) - 1)).f0
theorem prevU_succ (l : List S45) (i : Nat) : prevU l (i + 1) = (rd_T45 l (i : Int)).f0 := by
  unfold prevU; rw [if_neg (by omega)]
  have : ((i + 1 : Nat) : Int) - 1 = (i : Int) := by omega
  rw [this]
theorem dropU_at {l : List S45} {i : Nat} (h : i < l.length) : l.drop i = rd_T45 l (i : Int) :: l.drop (i + 1) := by
  rw [List.drop_eq_getElem_cons h, rdU_at h]
theorem update_May_l {l : List S45} {M : Nat} (hn : l.length ≤ 9223372036854775807) (hM : ∀ x ∈ l, x.f3.length < M) (hM2 : M ≤ 9223372036854775807) : ∀ (d k i : Nat), i + d = l.length → d + M < k →
    update_May.l0 k l l (l.length : Int) (i : Int) = some (upd (prevU l i) (l.drop i)) := by
  intro d
  induction d with
  | zero =>
    intro k i hi hk
    obtain ⟨k, rfl⟩ : ∃ m, k = m + 1 := ⟨k - 1, by omega⟩
    simp only [update_May.l0]
    rw [if_neg (by omega), List.drop_of_length_le (by omega)]
    rfl
  | succ d ih =>
    intro k i hi hk
    obtain ⟨k, rfl⟩ : ∃ m, k = m + 1 := ⟨k - 1, by omega⟩
    have hlt : i < l.length := by omega
    have h4 : wrap64 ((i : Int) + 1) = ((i + 1 : Nat) : Int) := by rw [wrap_id (by omega) (by omega)]; omega
    have h5 : wrap64 ((i : Int) - 1) = (i : Int) - 1 := wrap_id (by omega) (by omega)
    have hr := ih k (i + 1) (by omega) (by omega)
    have hm := hM _ (rdU_mem hlt)
    simp only [update_May.l0]
    rw [if_pos (by omega), if_pos (by omega), if_pos (by omega), h4, h5, hr, prevU_succ, dropU_at hlt]
    generalize rd_T45 l (i : Int) = x at hm ⊢
    rw [lsa_May_f (by omega) (show x.f3.length < k by omega)]
    simp only [Option.bind_some, decide_eq_true_eq]
    by_cases c1 : LsaOk x.f0 x.f1 x.f2 x.f3
    · rw [if_pos c1]
      have hok : UsOk x := c1
      have h1 := c1.1
      by_cases h0 : (i : Int) > 0
      · rw [if_pos h0, if_pos (by omega), if_pos (by omega)]
        have hp : prevU l i = (rd_T45 l ((i : Int) - 1)).f0 := by unfold prevU; rw [if_neg (by omega)]
        by_cases hg : (rd_T45 l ((i : Int) - 1)).f0 ≥ x.f0
        · rw [if_pos hg]; unfold upd; rw [if_neg (by rw [hp]; omega)]
        · rw [if_neg hg]; conv => rhs; unfold upd
          rw [if_pos ⟨hok, by rw [hp]; omega⟩]
      · rw [if_neg h0]
        have hp : prevU l i = 0 := by unfold prevU; rw [if_pos (by omega)]
        conv => rhs; unfold upd
        rw [if_pos ⟨hok, by rw [hp]; omega⟩]
    · rw [if_neg c1]; unfold upd; rw [if_neg (fun hh => c1 hh.1)]
theorem update_May_f {l : List S45} {M : Nat} (hn : l.length ≤ 9223372036854775807) (hM : ∀ x ∈ l, x.f3.length < M) (hM2 : M ≤ 9223372036854775807) {k : Nat} (hk : l.length + M < k) :
    update_May.f k l = some (upd 0 l) := update_May_l hn hM hM2 l.length k 0 (by omega) hk
def ubytes (x : S45) : List Int := putB x.f0 x.f1 x.f2 x.f3
theorem ubytes_byt (x : S45) : Byt (ubytes x) := putB_byt _ _ _ _
theorem ubytes_len (x : S45) : (ubytes x).length = 9 + 3 * x.f3.length := putB_len _ _ _ _
theorem uflat_byt (l : List S45) : Byt (l.flatMap ubytes) := by
  induction l with
  | nil => exact byt_nil
  | cons x l ih => rw [List.flatMap_cons]; exact byt_append (ubytes_byt x) ih
def updB (l : List S45) : List Int := e1 (l.length : Int) ++ l.flatMap ubytes
theorem updB_byt (l : List S45) : Byt (updB l) := byt_append (e1_byt _) (uflat_byt l)
theorem update_Put_l {l : List S45} (h4 : l.length ≤ 4) (hok : ∀ x ∈ l, UsOk x) : ∀ (d k i : Nat) (acc : List Int), i + d = l.length → d + 30 < k → acc.length ≤ 1 + 21 * i →
    update_Put.l0 k (strOfNums acc) l (l.length : Int) (i : Int) = some (strOfNums (acc ++ (l.drop i).flatMap ubytes), 0) := by
  intro d
  induction d with
  | zero =>
    intro k i acc hi hk ha
    obtain ⟨k, rfl⟩ : ∃ m, k = m + 1 := ⟨k - 1, by omega⟩
    simp only [update_Put.l0]
    rw [if_neg (by omega), List.drop_of_length_le (by omega), List.flatMap_nil, List.append_nil]
  | succ d ih =>
    intro k i acc hi hk ha
    obtain ⟨k, rfl⟩ : ∃ m, k = m + 1 := ⟨k - 1, by omega⟩
    have hlt : i < l.length := by omega
    have h5 : wrap64 ((i : Int) + 1) = ((i + 1 : Nat) : Int) := by rw [wrap_id (by omega) (by omega)]; omega
    have hx := hok _ (rdU_mem hlt)
    simp only [update_Put.l0]
    rw [if_pos (by omega), if_pos (by omega), if_pos (by omega), h5, dropU_at hlt]
    generalize rd_T45 l (i : Int) = x at hx ⊢
    have hl4 := usOk_len hx
    have hul := ubytes_len x
    rw [lsa_Put_f (by omega) (show x.f3.length < k by omega) (by omega), if_pos (show LsaOk x.f0 x.f1 x.f2 x.f3 from hx)]
    simp only [Option.bind_some]
    rw [show strOfNums (putB x.f0 x.f1 x.f2 x.f3) = strOfNums (ubytes x) from rfl, strOf_append, strOf_size, strOf_size, if_pos (by omega), ih k (i + 1) (acc ++ ubytes x) (by omega) (by omega) (by rw [List.length_append]; omega), List.flatMap_cons, List.append_assoc]
theorem update_Put_f {l : List S45} {M : Nat} (hn : l.length ≤ 9223372036854775807) (hM : ∀ x ∈ l, x.f3.length < M) (hM2 : M ≤ 9223372036854775807) {k : Nat} (hk : l.length + M < k) (hk2 : 35 ≤ k) :
    update_Put.f k l = some (if upd 0 l = true then (strOfNums (updB l), 0) else (⟨#[]⟩, 1000)) := by
  simp only [update_Put.f, update_May_f hn hM hM2 hk, Option.bind_some]
  by_cases h : upd 0 l = true
  · have h4 := upd_len h
    rw [if_pos h, if_pos h, lsa_One_f, Option.bind_some]
    exact update_Put_l h4 (upd_ok l 0 h) l.length k 0 (e1 (l.length : Int)) (by omega) (by omega) (by rw [e1_len]; omega)
  · rw [if_neg h, if_neg h]
def gul : Nat → List Int → Nat → List S45 → Option (List S45)
  | 0, _, _, acc => some acc
  | n + 1, b, p, acc => if p < b.length then (match getLsa (b.drop p) with
      | none => none
      | some (r, s, g, l, sz) => gul n b (p + sz) (acc ++ [⟨r, s, g, l⟩])) else some acc
def finU (b : List Int) : Option (List S45) → Option (List S45)
  | none => none
  | some out => if upd 0 out = true ∧ updB out = b then some out else none
def getUpd (b : List Int) : Option (List S45) := finU b (gul 5 b 1 [])
def tellU : Option (List S45) → List S45 × Int
  | some out => (out, 0)
  | none => ([], 1000)
theorem update_Get_end {a : ByteArray} {acc : List S45} (h5 : acc.length ≤ 5) (hl : ∀ x ∈ acc, x.f3.length ≤ 4) {k : Nat} (hk : 60 ≤ k) {p : Int} :
    update_Get.j1 k a acc p false = some (tellU (finU (B a) (some acc))) := by
  obtain ⟨k, rfl⟩ : ∃ m, k = m + 1 := ⟨k - 1, by omega⟩
  simp only [update_Get.j1, Bool.false_eq_true, if_false]
  rw [update_Put_f (M := 5) (by omega) (fun x hx => by have := hl x hx; omega) (by omega) (by omega) (by omega), Option.bind_some]
  unfold finU
  by_cases h : upd 0 acc = true
  · rw [if_pos h]
    simp only [if_true, toList_iff, B_strOf (updB_byt acc)]
    by_cases h2 : updB acc = B a
    · rw [if_pos h2, if_pos ⟨h, h2⟩]; rfl
    · rw [if_neg h2, if_neg (fun hh => h2 hh.2)]; rfl
  · rw [if_neg h]
    simp only
    rw [if_neg (show ¬ ((1000 : Int) = 0) by decide), if_neg (fun hh : upd 0 acc = true ∧ updB acc = B a => h hh.1)]; rfl
theorem update_Get_l {a : ByteArray} (hs : a.size ≤ 281474976710656) : ∀ (n k p : Nat) (acc : List S45), acc.length + n = 5 → p ≤ a.size ∨ n = 5 → p ≤ 281474976710656 → (∀ x ∈ acc, x.f3.length ≤ 4) → 2 * n + 700 ≤ k →
    update_Get.l0 k a acc (p : Int) = some (tellU (finU (B a) (gul n (B a) p acc))) := by
  intro n
  induction n with
  | zero =>
    intro k p acc hn hp hp2 hl hk
    obtain ⟨k, rfl⟩ : ∃ m, k = m + 1 := ⟨k - 1, by omega⟩
    simp only [update_Get.l0]
    rw [decide_eq_false (by omega), ite_self]
    exact update_Get_end (by omega) hl (by omega)
  | succ n ih =>
    intro k p acc hn hp hp2 hl hk
    obtain ⟨k, rfl⟩ : ∃ m, k = m + 2 := ⟨k - 2, by omega⟩
    have hbl := B_len a
    simp only [update_Get.l0]
    unfold gul
    by_cases hlt : p < a.size
    · rw [if_pos (by omega), decide_eq_true (by omega), if_pos (by omega)]
      simp only [update_Get.j1, if_true]
      rw [lsa_Get_f hs (by omega) (by omega), if_pos (by omega), Int.toNat_natCast, Option.bind_some]
      cases hg : getLsa ((B a).drop p) with
      | none => simp only [tellL]; exact (if_neg (show ¬ ((700 : Int) = 0) by decide)).trans rfl
      | some z =>
        obtain ⟨r, s, g, l, sz⟩ := z
        have hgs := get_some hg
        have hl4 := links_len hgs.1.2.2.2.2.2.2
        have hsz := hgs.2.2.1
        rw [List.length_drop, hbl] at hsz
        simp only [tellL]
        rw [if_pos trivial, if_pos (by omega), show (p : Int) + (sz : Int) = ((p + sz : Nat) : Int) by omega]
        refine ih k (p + sz) _ (by rw [List.length_append]; simp only [List.length_cons, List.length_nil]; omega) (by omega) (by omega) ?_ (by omega)
        intro x hx
        rcases List.mem_append.mp hx with hx | hx
        · exact hl x hx
        · rcases List.mem_singleton.mp hx with rfl; exact hl4
    · rw [if_neg (by omega), if_neg (by omega)]
      exact update_Get_end (by omega) hl (by omega)
theorem update_Get_f {a : ByteArray} (hs : a.size ≤ 281474976710656) {k : Nat} (hk : 710 ≤ k) : update_Get.f k a = some (tellU (getUpd (B a))) :=
  update_Get_l hs 5 k 1 [] rfl (.inr rfl) (by omega) (by simp) (by omega)
theorem gul_put : ∀ (l : List S45) (pre : List Int) (acc : List S45) (n : Nat), (∀ x ∈ l, UsOk x) → l.length ≤ n → gul n (pre ++ l.flatMap ubytes) pre.length acc = some (acc ++ l)
  | [], pre, acc, n, _, _ => by
    rw [List.flatMap_nil, List.append_nil, List.append_nil]
    cases n with
    | zero => rfl
    | succ n => unfold gul; rw [if_neg (by omega)]
  | x :: l, pre, acc, 0, _, h => by simp at h
  | x :: l, pre, acc, n + 1, hok, h => by
    have hx := hok x (by simp)
    have hul := ubytes_len x
    unfold gul
    rw [List.flatMap_cons, if_pos (by rw [List.length_append, List.length_append]; omega), List.drop_left, show ubytes x = putB x.f0 x.f1 x.f2 x.f3 from rfl, get_put hx]
    simp only
    have := gul_put l (pre ++ ubytes x) (acc ++ [x]) n (fun y hy => hok y (by simp [hy])) (by simpa using h)
    rw [List.length_append, hul, List.append_assoc, List.append_assoc] at this
    exact this
theorem getUpd_put {l : List S45} (h : upd 0 l = true) : getUpd (updB l) = some l := by
  have h4 := upd_len h
  have := gul_put l (e1 (l.length : Int)) [] 5 (upd_ok l 0 h) (by omega)
  unfold getUpd
  rw [show updB l = e1 (l.length : Int) ++ l.flatMap ubytes from rfl, show (1 : Nat) = (e1 (l.length : Int)).length from rfl, this]
  simp only [finU, List.nil_append]
  exact if_pos ⟨h, rfl⟩
theorem getUpd_some {b : List Int} {l : List S45} (h : getUpd b = some l) : upd 0 l = true ∧ updB l = b := by
  unfold getUpd finU at h
  split at h
  · cases h
  · split at h
    · rename_i hc; obtain rfl := Option.some.inj h; exact hc
    · cases h
theorem updB_inj {l m : List S45} (h : upd 0 l = true) (h' : upd 0 m = true) (e : updB l = updB m) : l = m := by
  have h1 := getUpd_put h
  rw [e, getUpd_put h'] at h1
  exact (Option.some.inj h1).symm
theorem SameU_l {l m : List S45} {M : Nat} (hn : l.length ≤ 9223372036854775807) (hM : ∀ x ∈ l, x.f3.length < M) (hM2 : M ≤ 9223372036854775807) (he : l.length = m.length) : ∀ (d k i : Nat), i + d = l.length → d + M < k →
    watchwordlaw0_SameLsas.l0 k l m (i : Int) = some (decide (l.drop i = m.drop i)) := by
  intro d
  induction d with
  | zero =>
    intro k i hi hk
    obtain ⟨k, rfl⟩ : ∃ m, k = m + 1 := ⟨k - 1, by omega⟩
    simp only [watchwordlaw0_SameLsas.l0]
    rw [if_neg (by omega), List.drop_of_length_le (by omega), List.drop_of_length_le (by omega)]
    simp
  | succ d ih =>
    intro k i hi hk
    obtain ⟨k, rfl⟩ : ∃ m, k = m + 1 := ⟨k - 1, by omega⟩
    have h4 : wrap64 ((i : Int) + 1) = ((i + 1 : Nat) : Int) := by rw [wrap_id (by omega) (by omega)]; omega
    have hm := hM _ (rdU_mem (show i < l.length by omega))
    simp only [watchwordlaw0_SameLsas.l0]
    rw [if_pos (by omega), if_pos (by omega), if_pos (by omega), h4, ih k (i + 1) (by omega) (by omega), dropU_at (l := l) (i := i) (by omega), dropU_at (l := m) (i := i) (by omega)]
    generalize rd_T45 l (i : Int) = x at hm ⊢
    generalize rd_T45 m (i : Int) = y
    rw [SameLsa_f (by omega) (show x.f3.length < k by omega), Option.bind_some]
    have hx : (x.f0 = y.f0 ∧ x.f1 = y.f1 ∧ x.f2 = y.f2 ∧ x.f3 = y.f3) ↔ x = y := by
      cases x; cases y; simp
    by_cases hc : x = y
    · rw [decide_eq_true (hx.mpr hc), if_pos rfl, hc]; simp
    · rw [decide_eq_false (fun hh => hc (hx.mp hh)), if_neg (by decide), decide_eq_false (fun hh => hc (List.cons.inj hh).1)]
theorem SameU_f {l m : List S45} {M : Nat} (hn : l.length ≤ 9223372036854775807) (hM : ∀ x ∈ l, x.f3.length < M) (hM2 : M ≤ 9223372036854775807) {k : Nat} (hk : l.length + M < k) : watchwordlaw0_SameLsas.f k l m = some (decide (l = m)) := by
  unfold watchwordlaw0_SameLsas.f
  by_cases h : l.length = m.length
  · rw [if_pos (by omega)]
    have := SameU_l hn hM hM2 h l.length k 0 (by omega) hk
    rw [List.drop_zero, List.drop_zero] at this
    exact this
  · rw [if_neg (by omega), decide_eq_false (fun e => h (by rw [e]))]
namespace Hd
/-! ### head: Put, Get -/
def HeadOk (k r s : Int) : Prop := (k = 1 ∨ k = 4 ∨ k = 5) ∧ 1 ≤ r ∧ r ≤ 4 ∧ 12 ≤ s ∧ s ≤ 512
instance (k r s : Int) : Decidable (HeadOk k r s) := by unfold HeadOk; infer_instance
def hdr (k r s : Int) : List Int := [2, k % 256] ++ e2 s ++ e4 r ++ [0, 0, 0, 0]
theorem hdr_byt (k r s : Int) : Byt (hdr k r s) :=
  byt_append (byt_append (byt_append (byt_cons (by omega) (byt_cons (byt_mod _) byt_nil)) (e2_byt _)) (e4_byt _)) (byt_cons (by omega) (byt_cons (by omega) (byt_cons (by omega) (byt_cons (by omega) byt_nil))))
theorem hdr_len (k r s : Int) : (hdr k r s).length = 12 := rfl
theorem head_j0 (m : Nat) (kind r s : Int) : head_Put.j0 (m + 1) kind r s false = some (strOfNums (hdr kind r s), 0) := by
  simp only [head_Put.j0, lsa_One_f, lsa_Two_f, lsa_Four_f, Option.bind_some, strOf_append, strOf_size]
  simp [e1, e2, e4, hdr]
theorem head_j0t (m : Nat) (kind r s : Int) : head_Put.j0 (m + 1) kind r s true = some (⟨#[]⟩, 800) := by simp [head_Put.j0]
theorem head_Put_f {k : Nat} (hk : 1 ≤ k) (kind r s : Int) : head_Put.f k kind r s = some (if HeadOk kind r s then (strOfNums (hdr kind r s), 0) else (⟨#[]⟩, 800)) := by
  obtain ⟨k, rfl⟩ : ∃ m, k = m + 1 := ⟨k - 1, by omega⟩
  have ht : head_Type.f kind = some (decide (kind = 1 ∨ kind = 4 ∨ kind = 5)) := by
    unfold head_Type.f
    by_cases h1 : kind = 1
    · simp [h1]
    · by_cases h4 : kind = 4
      · simp [h4]
      · simp only [if_neg h1, if_neg h4, h1, h4, false_or]
        rfl
  have hr : lsa_Router.f r = some (decide (1 ≤ r ∧ r ≤ 4)) := by
    unfold lsa_Router.f
    by_cases h1 : r ≥ 1
    · rw [if_pos h1]; simp only [h1, true_and]
    · rw [if_neg h1]; have : ¬ (1 ≤ r ∧ r ≤ 4) := by omega
      simp [this]
  simp only [head_Put.f, ht, hr, Option.bind_some, decide_eq_true_eq]
  by_cases h1 : kind = 1 ∨ kind = 4 ∨ kind = 5
  · rw [if_pos h1]
    by_cases h2 : 1 ≤ r ∧ r ≤ 4
    · rw [if_pos h2]
      by_cases h3 : s < 12
      · rw [if_pos h3, head_j0t, if_neg (by unfold HeadOk; omega)]
      · rw [if_neg h3]
        by_cases h5 : s > 512
        · rw [decide_eq_true h5, head_j0t, if_neg (by unfold HeadOk; omega)]
        · rw [decide_eq_false h5, head_j0, if_pos ⟨h1, by omega⟩]
    · rw [if_neg h2, head_j0t, if_neg (by unfold HeadOk; omega)]
  · rw [if_neg h1, head_j0t, if_neg (by unfold HeadOk; exact fun h => h1 h.1)]
/-- What a text's head tells. -/
def getHead (l : List Int) : Int × Int × Int × Int :=
  if l.length < 12 then (0, 0, 0, 800) else
  if HeadOk (l.getD 1 0) (num ((l.drop 4).take 4)) (num ((l.drop 2).take 2)) ∧ hdr (l.getD 1 0) (num ((l.drop 4).take 4)) (num ((l.drop 2).take 2)) = l.take 12
  then (l.getD 1 0, num ((l.drop 4).take 4), num ((l.drop 2).take 2), 0) else (0, 0, 0, 800)
theorem getHead_long {l : List Int} (h : ¬ l.length < 12) : getHead l = if HeadOk (l.getD 1 0) (num ((l.drop 4).take 4)) (num ((l.drop 2).take 2)) ∧ hdr (l.getD 1 0) (num ((l.drop 4).take 4)) (num ((l.drop 2).take 2)) = l.take 12
  then (l.getD 1 0, num ((l.drop 4).take 4), num ((l.drop 2).take 2), 0) else (0, 0, 0, 800) := by unfold getHead; rw [if_neg h]
theorem head_Get_f {k : Nat} (hk : 8 ≤ k) (s : ByteArray) : head_Get.f k s = some (getHead (B s)) := by
  have hl := B_len s
  unfold head_Get.f
  by_cases h : (s.size : Int) < 12
  · rw [if_pos h]; unfold getHead; rw [if_pos (by omega)]
  · rw [if_neg h, getHead_long (by omega)]
    have e12 : B (s.extract 0 12) = (B s).take 12 := by rw [B_extract]; rfl
    have sz12 : (s.extract 0 12).size = 12 := by rw [← B_len, e12, List.length_take]; omega
    have e48 : B ((s.extract 0 12).extract 4 8) = ((B s).drop 4).take 4 := by rw [B_extract, e12, List.drop_take, List.take_take]; rfl
    have e24 : B ((s.extract 0 12).extract 2 4) = ((B s).drop 2).take 2 := by rw [B_extract, e12, List.drop_take, List.take_take]; rfl
    have s48 : ((s.extract 0 12).extract 4 8).size ≤ 7 := by rw [← B_len, e48, List.length_take]; omega
    have s24 : ((s.extract 0 12).extract 2 4).size ≤ 7 := by rw [← B_len, e24, List.length_take]; omega
    have hb1 : bt (s.extract 0 12) 1 = (B s).getD 1 0 := by
      rw [bt_B, e12]; simp only [List.getD_eq_getElem?_getD, Int.toNat_one]
      rw [List.getElem?_take_of_lt (by omega)]
    have hr := byt_getD (B_byt s) 1
    have hw : wrap64 (bt (s.extract 0 12) 1) = (B s).getD 1 0 := by rw [hb1]; exact wrap_id (by omega) (by omega)
    rw [if_pos (by omega), if_pos (by omega), if_pos (by rw [sz12]; omega), if_pos (by omega), if_pos (by rw [sz12]; omega), lsa_Number_f s48 hk, Option.bind_some,
      if_pos (by omega), if_pos (by rw [sz12]; omega), lsa_Number_f s24 hk, Option.bind_some, head_Put_f (by omega), Option.bind_some, hw, e48, e24]
    by_cases h1 : HeadOk ((B s).getD 1 0) (num (((B s).drop 4).take 4)) (num (((B s).drop 2).take 2))
    · rw [if_pos h1]
      by_cases h2 : hdr ((B s).getD 1 0) (num (((B s).drop 4).take 4)) (num (((B s).drop 2).take 2)) = (B s).take 12
      · rw [if_pos rfl, if_pos (by rw [toList_iff, B_strOf (hdr_byt _ _ _), e12]; exact h2), if_pos ⟨h1, h2⟩]
      · rw [if_pos rfl, if_neg (by rw [toList_iff, B_strOf (hdr_byt _ _ _), e12]; exact h2), if_neg (fun hh => h2 hh.2)]
    · rw [if_neg h1, if_neg (by decide), if_neg (fun hh => h1 hh.1)]
/-- Numbers come back, whatever stands behind. -/
theorem get_hdr {kind r s : Int} (h : HeadOk kind r s) (more : List Int) : getHead (hdr kind r s ++ more) = (kind, r, s, 0) := by
  obtain ⟨h1, h2, h3, h4, h5⟩ := h
  have hk : kind % 256 = kind := by omega
  have e1 : (hdr kind r s ++ more).getD 1 0 = kind := by simp [hdr, hk]
  have e2' : ((hdr kind r s ++ more).drop 4).take 4 = e4 r := by simp [hdr, e2, e4]
  have e3 : ((hdr kind r s ++ more).drop 2).take 2 = e2 s := by simp [hdr, e2, e4]
  unfold getHead
  rw [if_neg (by rw [List.length_append, hdr_len]; omega), e1, e2', e3, num_e4 (by omega) (by omega), num_e2 (by omega) (by omega)]
  rw [if_pos ⟨⟨h1, by omega⟩, by rw [← hdr_len kind r s, List.take_left]⟩]
end Hd
namespace He
/-! ### hello: May, Put, Get -/
theorem lsa_Router_f (x : Int) : lsa_Router.f x = some (decide (1 ≤ x ∧ x ≤ 4)) := by
  unfold lsa_Router.f
  by_cases h1 : x ≥ 1
  · rw [if_pos h1]; simp only [h1, true_and]
  · rw [if_neg h1]; have : ¬ (1 ≤ x ∧ x ≤ 4) := by omega
    simp [this]
/-- Routers that rise from behind p on. -/
def heard : Int → List Int → Bool
  | _, [] => true
  | p, x :: l => if 1 ≤ x ∧ x ≤ 4 ∧ p < x then heard x l else false
theorem heard_short : ∀ (l : List Int) (p : Int), 0 ≤ p → heard p l = true → l.length = 0 ∨ (l.length : Int) ≤ 4 - p
  | [], _, _, _ => .inl rfl
  | x :: l, p, h0, h => by
    unfold heard at h
    by_cases hc : 1 ≤ x ∧ x ≤ 4 ∧ p < x
    · rw [if_pos hc] at h
      rcases heard_short l x (by omega) h with h1 | h1
      · right; simp only [List.length_cons, h1]; omega
      · right; simp only [List.length_cons]; omega
    · rw [if_neg hc] at h; cases h
theorem heard_len {l : List Int} (h : heard 0 l = true) : l.length ≤ 4 := by
  rcases heard_short l 0 (by omega) h with h1 | h1 <;> omega
theorem heard_range : ∀ (l : List Int) (p : Int), heard p l = true → ∀ x ∈ l, 1 ≤ x ∧ x ≤ 4
  | [], _, _, _, hx => by cases hx
  | y :: l, p, h, x, hx => by
    unfold heard at h
    by_cases hc : 1 ≤ y ∧ y ≤ 4 ∧ p < y
    · rw [if_pos hc] at h
      rcases List.mem_cons.mp hx with rfl | hx
      · omega
      · exact heard_range l y h x hx
    · rw [if_neg hc] at h; cases h
theorem rd_at {l : List Int} {i : Nat} (h : i < l.length) : rd l (i : Int) = l[i] := by
  unfold rd; rw [Int.toNat_natCast, List.getD_eq_getElem?_getD, List.getElem?_eq_getElem h]; rfl
def prev (l : List Int) (i : Nat) : Int := if i = 0 then 0 else rd l ((i : Int) - 1)
theorem prev_succ (l : List Int) (i : Nat) : prev l (i + 1) = rd l (i : Int) := by unfold prev; rw [if_neg (by omega)]; congr 1; omega
theorem drop_at {l : List Int} {i : Nat} (h : i < l.length) : l.drop i = rd l (i : Int) :: l.drop (i + 1) := by
  rw [List.drop_eq_getElem_cons h, rd_at h]
theorem hello_May_l {l : List Int} (hn : l.length ≤ 9223372036854775807) : ∀ (d k i : Nat), i + d = l.length → d < k →
    hello_May.l0 k l l (l.length : Int) (i : Int) = some (heard (prev l i) (l.drop i)) := by
  intro d
  induction d with
  | zero =>
    intro k i hi hk
    obtain ⟨k, rfl⟩ : ∃ m, k = m + 1 := ⟨k - 1, by omega⟩
    simp only [hello_May.l0]
    rw [if_neg (by omega), List.drop_of_length_le (by omega)]
    rfl
  | succ d ih =>
    intro k i hi hk
    obtain ⟨k, rfl⟩ : ∃ m, k = m + 1 := ⟨k - 1, by omega⟩
    have hlt : i < l.length := by omega
    have h4 : wrap64 ((i : Int) + 1) = ((i + 1 : Nat) : Int) := by rw [wrap_id (by omega) (by omega)]; omega
    have h5 : wrap64 ((i : Int) - 1) = (i : Int) - 1 := wrap_id (by omega) (by omega)
    have hr := ih k (i + 1) (by omega) (by omega)
    simp only [hello_May.l0, lsa_Router_f, Option.bind_some, decide_eq_true_eq]
    rw [if_pos (by omega), if_pos (by omega), if_pos (by omega), h4, h5, hr, prev_succ, drop_at hlt]
    by_cases hc : 1 ≤ rd l (i : Int) ∧ rd l (i : Int) ≤ 4
    · rw [if_pos hc]
      by_cases h0 : (i : Int) > 0
      · rw [if_pos h0, if_pos (by omega), if_pos (by omega)]
        have hp : prev l i = rd l ((i : Int) - 1) := by unfold prev; rw [if_neg (by omega)]
        by_cases hg : rd l ((i : Int) - 1) ≥ rd l (i : Int)
        · rw [if_pos hg]; unfold heard; rw [if_neg (by rw [hp]; omega)]
        · rw [if_neg hg]; conv => rhs; unfold heard
          rw [if_pos (by rw [hp]; omega)]
      · rw [if_neg h0]
        have hp : prev l i = 0 := by unfold prev; rw [if_pos (by omega)]
        conv => rhs; unfold heard
        rw [if_pos (by rw [hp]; omega)]
    · rw [if_neg hc]; unfold heard; rw [if_neg (fun hh => hc ⟨hh.1, hh.2.1⟩)]
theorem hello_May_f {l : List Int} (hn : l.length ≤ 9223372036854775807) {k : Nat} (hk : l.length < k) : hello_May.f k l = some (heard 0 l) :=
  hello_May_l hn l.length k 0 (by omega) hk
theorem hello_Put_l {l : List Int} (hn : l.length ≤ 4) (hr : ∀ x ∈ l, 1 ≤ x ∧ x ≤ 4) : ∀ (d k i : Nat) (acc : List Int), i + d = l.length → d < k → acc.length ≤ 10 + i →
    hello_Put.l0 k (strOfNums acc) l (l.length : Int) (i : Int) = some (strOfNums (acc ++ l.drop i), 0) := by
  intro d
  induction d with
  | zero =>
    intro k i acc hi hk ha
    obtain ⟨k, rfl⟩ : ∃ m, k = m + 1 := ⟨k - 1, by omega⟩
    simp only [hello_Put.l0]
    rw [if_neg (by omega), List.drop_of_length_le (by omega), List.append_nil]
  | succ d ih =>
    intro k i acc hi hk ha
    obtain ⟨k, rfl⟩ : ∃ m, k = m + 1 := ⟨k - 1, by omega⟩
    have hlt : i < l.length := by omega
    have h4 : wrap64 ((i : Int) + 1) = ((i + 1 : Nat) : Int) := by rw [wrap_id (by omega) (by omega)]; omega
    have hx := hr (rd l (i : Int)) (by rw [rd_at hlt]; exact List.getElem_mem hlt)
    have he : e1 (rd l (i : Int)) = [rd l (i : Int)] := by unfold e1; congr 1; omega
    simp only [hello_Put.l0, lsa_One_f, Option.bind_some, strOf_append, strOf_size, e1_len]
    rw [if_pos (by omega), if_pos (by omega), if_pos (by omega), if_pos (by omega), h4, ih k (i + 1) _ (by omega) (by omega) (by simp only [List.length_append, e1_len]; omega), he, drop_at hlt, List.append_assoc]
    rfl
def helloBytes (l : List Int) : List Int := (l.length : Int) :: l
theorem helloBytes_byt {l : List Int} (h : heard 0 l = true) : Byt (helloBytes l) := by
  have h1 := heard_len h
  refine byt_cons (by omega) (fun x hx => ?_)
  have := heard_range l 0 h x hx
  omega
theorem hello_Put_f {l : List Int} (hn : l.length ≤ 9223372036854775807) {k : Nat} (hk : l.length < k) :
    hello_Put.f k l = some (if heard 0 l = true then (strOfNums (helloBytes l), 0) else (⟨#[]⟩, 900)) := by
  simp only [hello_Put.f, hello_May_f hn hk, Option.bind_some, lsa_One_f]
  by_cases h : heard 0 l = true
  · rw [if_pos h, if_pos h]
    have h1 := heard_len h
    have := hello_Put_l h1 (heard_range l 0 h) l.length k 0 (e1 (l.length : Int)) (by omega) hk (by rw [e1_len]; omega)
    rw [Int.natCast_zero] at this
    rw [this]
    have he : e1 (l.length : Int) = [(l.length : Int)] := by unfold e1; congr 1; omega
    rw [he]; rfl
  · rw [if_neg h, if_neg h]
def getHello (b : List Int) : List Int × Int := if heard 0 (b.drop 1) = true ∧ helloBytes (b.drop 1) = b then (b.drop 1, 0) else ([], 900)
theorem hello_Get_end {s : ByteArray} (hs : s.size ≤ 17592186044416) {k : Nat} (hk : s.size < k) :
    ((hello_Put.f k ((B s).drop 1)).bind fun bt145 => (if bt145.2 = 0 then (if bt145.1.toList = s.toList then (some ((B s).drop 1, 0)) else (some (([] : List Int), 900))) else (some (([] : List Int), 900)))) = some (getHello (B s)) := by
  have hl := B_len s
  have hd : ((B s).drop 1).length ≤ s.size := by rw [List.length_drop]; omega
  rw [hello_Put_f (by omega) (by omega), Option.bind_some]
  unfold getHello
  by_cases h : heard 0 ((B s).drop 1) = true
  · rw [if_pos h]
    by_cases h2 : helloBytes ((B s).drop 1) = B s
    · rw [if_pos rfl, if_pos (by rw [toList_iff, B_strOf (helloBytes_byt h)]; exact h2), if_pos ⟨h, h2⟩]
    · rw [if_pos rfl, if_neg (by rw [toList_iff, B_strOf (helloBytes_byt h)]; exact h2), if_neg (fun hh => h2 hh.2)]
  · rw [if_neg h, if_neg (by decide), if_neg (fun hh => h hh.1)]
theorem hello_Get_l {s : ByteArray} (hs : s.size ≤ 17592186044416) : ∀ (d k i : Nat) (acc : List Int), i + d = s.size → d + s.size + 1 < k → acc = ((B s).take i).drop 1 →
    hello_Get.l0 k s acc (s.size : Int) (i : Int) = some (getHello (B s)) := by
  intro d
  induction d with
  | zero =>
    intro k i acc hi hk ha
    obtain ⟨k, rfl⟩ : ∃ m, k = m + 1 := ⟨k - 1, by omega⟩
    simp only [hello_Get.l0]
    have ht : (B s).take i = B s := List.take_of_length_le (by rw [B_len]; omega)
    rw [if_neg (by omega), ha, ht, hello_Get_end hs (by omega)]
  | succ d ih =>
    intro k i acc hi hk ha
    obtain ⟨k, rfl⟩ : ∃ m, k = m + 1 := ⟨k - 1, by omega⟩
    have hl := B_len s
    have h4 : wrap64 ((i : Int) + 1) = ((i + 1 : Nat) : Int) := by rw [wrap_id (by omega) (by omega)]; omega
    have hlt : i < (B s).length := by omega
    have hr := byt_getD (B_byt s) i
    have hb : wrap64 (bt s (i : Int)) = (B s).getD i 0 := by rw [bt_B, Int.toNat_natCast]; exact wrap_id (by omega) (by omega)
    have hx : (B s).getD i 0 = (B s)[i] := by rw [List.getD_eq_getElem?_getD, List.getElem?_eq_getElem hlt]; rfl
    have ht : (B s).take (i + 1) = (B s).take i ++ [(B s)[i]] := List.take_succ_eq_append_getElem hlt
    have hal : acc.length < 17592186044416 := by rw [ha, List.length_drop, List.length_take]; omega
    simp only [hello_Get.l0]
    rw [if_pos (by omega)]
    by_cases h0 : (i : Int) > 0
    · rw [if_pos h0, if_pos (by omega), if_pos (by omega), if_pos (by omega), hb, h4]
      refine ih k (i + 1) _ (by omega) (by omega) ?_
      rw [ht, ha, List.drop_append_of_le_length (by rw [List.length_take]; omega), hx]
    · rw [if_neg h0, h4]
      refine ih k (i + 1) _ (by omega) (by omega) ?_
      have : i = 0 := by omega
      subst this
      rw [ha, List.drop_of_length_le (by rw [List.length_take]; omega), List.drop_of_length_le (by rw [List.length_take]; omega)]
theorem hello_Get_f {s : ByteArray} (hs : s.size ≤ 17592186044416) {k : Nat} (hk : 2 * s.size + 1 < k) : hello_Get.f k s = some (getHello (B s)) :=
  hello_Get_l hs s.size k 0 [] (by omega) (by omega) (by simp)
theorem get_put {l : List Int} (h : heard 0 l = true) : getHello (helloBytes l) = (l, 0) := by
  unfold getHello helloBytes
  rw [if_pos ⟨h, rfl⟩]; rfl
/-! ### SameInts -/
theorem SameInts_l {l m : List Int} (hn : l.length ≤ 9223372036854775807) (he : l.length = m.length) : ∀ (d k i : Nat), i + d = l.length → d < k →
    watchwordlaw0_SameInts.l0 k l m (i : Int) = some (decide (l.drop i = m.drop i)) := by
  intro d
  induction d with
  | zero =>
    intro k i hi hk
    obtain ⟨k, rfl⟩ : ∃ m, k = m + 1 := ⟨k - 1, by omega⟩
    simp only [watchwordlaw0_SameInts.l0]
    rw [if_neg (by omega), List.drop_of_length_le (by omega), List.drop_of_length_le (by omega)]
    rfl
  | succ d ih =>
    intro k i hi hk
    obtain ⟨k, rfl⟩ : ∃ m, k = m + 1 := ⟨k - 1, by omega⟩
    have h4 : wrap64 ((i : Int) + 1) = ((i + 1 : Nat) : Int) := by rw [wrap_id (by omega) (by omega)]; omega
    simp only [watchwordlaw0_SameInts.l0]
    rw [if_pos (by omega), if_pos (by omega), if_pos (by omega), h4, ih k (i + 1) (by omega) (by omega), drop_at (l := l) (i := i) (by omega), drop_at (l := m) (i := i) (by omega)]
    by_cases hc : rd l (i : Int) = rd m (i : Int)
    · rw [if_pos hc, hc]; simp only [List.cons.injEq, true_and]
    · rw [if_neg hc]; simp only [List.cons.injEq, hc, false_and, decide_false]
theorem SameInts_f {l m : List Int} (hn : l.length ≤ 9223372036854775807) {k : Nat} (hk : l.length < k) : watchwordlaw0_SameInts.f k l m = some (decide (l = m)) := by
  unfold watchwordlaw0_SameInts.f
  by_cases h : l.length = m.length
  · rw [if_pos (by omega)]
    exact SameInts_l hn h l.length k 0 (by omega) hk
  · rw [if_neg (by omega), decide_eq_false (fun e => h (by rw [e]))]
end He
namespace Ak
/-! ### ack.Head -/
def AckOk (r s g m : Int) : Prop := 1 ≤ r ∧ r ≤ 4 ∧ 1 ≤ s ∧ s ≤ 2147483647 ∧ 0 ≤ g ∧ g ≤ 60 ∧ 0 ≤ m ∧ m ≤ 65535
instance (r s g m : Int) : Decidable (AckOk r s g m) := by unfold AckOk; infer_instance
theorem ack_Head_f (r s g m : Int) : ack_Head.f r s g m = some (decide (AckOk r s g m)) := by
  unfold ack_Head.f lsa_Router.f lsa_Serial.f lsa_Age.f AckOk
  by_cases h1 : r ≥ 1
  · by_cases h2 : r ≤ 4
    · by_cases h3 : s ≥ 1
      · by_cases h4 : s ≤ 2147483647
        · by_cases h5 : g ≥ 0
          · by_cases h6 : g ≤ 60
            · by_cases h7 : m ≥ 0
              · simp [h1, h2, h3, h4, h5, h6, h7]
              · simp [h1, h2, h3, h4, h5, h6, h7]
            · simp [h1, h2, h3, h4, h5, h6]
          · simp [h1, h2, h3, h4, h5]
        · simp [h1, h2, h3, h4]
      · simp [h1, h2, h3]
    · simp [h1, h2]
  · simp [h1]
/-! ### ack: May, Put, Get (S47: the struct LsaHead) -/
instance : DecidableEq S47 := fun a b => decidable_of_iff (a.f0 = b.f0 ∧ a.f1 = b.f1 ∧ a.f2 = b.f2 ∧ a.f3 = b.f3) (by cases a; cases b; simp)
def heads : Int → List S47 → Bool
  | _, [] => true
  | p, x :: l => if AckOk x.f0 x.f1 x.f2 x.f3 ∧ p < x.f0 then heads x.f0 l else false
theorem heads_short : ∀ (l : List S47) (p : Int), 0 ≤ p → heads p l = true → l.length = 0 ∨ (l.length : Int) ≤ 4 - p
  | [], _, _, _ => .inl rfl
  | x :: l, p, h0, h => by
    unfold heads at h
    by_cases hc : AckOk x.f0 x.f1 x.f2 x.f3 ∧ p < x.f0
    · rw [if_pos hc] at h
      have h4 := hc.1.2.1
      rcases heads_short l x.f0 (by omega) h with h1 | h1
      · right; simp only [List.length_cons, h1]; omega
      · right; simp only [List.length_cons]; omega
    · rw [if_neg hc] at h; cases h
theorem heads_len {l : List S47} (h : heads 0 l = true) : l.length ≤ 4 := by
  rcases heads_short l 0 (by omega) h with h1 | h1 <;> omega
theorem heads_range : ∀ (l : List S47) (p : Int), heads p l = true → ∀ x ∈ l, AckOk x.f0 x.f1 x.f2 x.f3
  | [], _, _, _, hx => by cases hx
  | y :: l, p, h, x, hx => by
    unfold heads at h
    by_cases hc : AckOk y.f0 y.f1 y.f2 y.f3 ∧ p < y.f0
    · rw [if_pos hc] at h
      rcases List.mem_cons.mp hx with rfl | hx
      · exact hc.1
      · exact heads_range l y.f0 h x hx
    · rw [if_neg hc] at h; cases h
theorem rdH_at {l : List S47} {i : Nat} (h : i < l.length) : rd_T47 l (i : Int) = l[i] := by
  unfold rd_T47; rw [Int.toNat_natCast, List.getD_eq_getElem?_getD, List.getElem?_eq_getElem h]; rfl
def prevH (l : List S47) (i : Nat) : Int := if i = 0 then 0 else (rd_T47 l ((i : Int) - 1)).f0
theorem prevH_succ (l : List S47) (i : Nat) : prevH l (i + 1) = (rd_T47 l (i : Int)).f0 := by
  unfold prevH; rw [if_neg (by omega)]
  have : ((i + 1 : Nat) : Int) - 1 = (i : Int) := by omega
  rw [this]
theorem dropH_at {l : List S47} {i : Nat} (h : i < l.length) : l.drop i = rd_T47 l (i : Int) :: l.drop (i + 1) := by
  rw [List.drop_eq_getElem_cons h, rdH_at h]
theorem ack_May_l {l : List S47} (hn : l.length ≤ 9223372036854775807) : ∀ (d k i : Nat), i + d = l.length → d < k →
    ack_May.l0 k l l (l.length : Int) (i : Int) = some (heads (prevH l i) (l.drop i)) := by
  intro d
  induction d with
  | zero =>
    intro k i hi hk
    obtain ⟨k, rfl⟩ : ∃ m, k = m + 1 := ⟨k - 1, by omega⟩
    simp only [ack_May.l0]
    rw [if_neg (by omega), List.drop_of_length_le (by omega)]
    rfl
  | succ d ih =>
    intro k i hi hk
    obtain ⟨k, rfl⟩ : ∃ m, k = m + 1 := ⟨k - 1, by omega⟩
    have hlt : i < l.length := by omega
    have h4 : wrap64 ((i : Int) + 1) = ((i + 1 : Nat) : Int) := by rw [wrap_id (by omega) (by omega)]; omega
    have h5 : wrap64 ((i : Int) - 1) = (i : Int) - 1 := wrap_id (by omega) (by omega)
    have hr := ih k (i + 1) (by omega) (by omega)
    simp only [ack_May.l0, ack_Head_f, Option.bind_some, decide_eq_true_eq]
    rw [if_pos (by omega), if_pos (by omega), if_pos (by omega), h4, h5, hr, prevH_succ, dropH_at hlt]
    by_cases hc : AckOk (rd_T47 l (i : Int)).f0 (rd_T47 l (i : Int)).f1 (rd_T47 l (i : Int)).f2 (rd_T47 l (i : Int)).f3
    · rw [if_pos hc]
      by_cases h0 : (i : Int) > 0
      · rw [if_pos h0, if_pos (by omega), if_pos (by omega)]
        have hp : prevH l i = (rd_T47 l ((i : Int) - 1)).f0 := by unfold prevH; rw [if_neg (by omega)]
        by_cases hg : (rd_T47 l ((i : Int) - 1)).f0 ≥ (rd_T47 l (i : Int)).f0
        · rw [if_pos hg]; unfold heads; rw [if_neg (by rw [hp]; omega)]
        · rw [if_neg hg]; conv => rhs; unfold heads
          rw [if_pos ⟨hc, by rw [hp]; omega⟩]
      · rw [if_neg h0]
        have hp : prevH l i = 0 := by unfold prevH; rw [if_pos (by omega)]
        have h1 := hc.1
        conv => rhs; unfold heads
        rw [if_pos ⟨hc, by rw [hp]; omega⟩]
    · rw [if_neg hc]; unfold heads; rw [if_neg (fun hh => hc hh.1)]
theorem ack_May_f {l : List S47} (hn : l.length ≤ 9223372036854775807) {k : Nat} (hk : l.length < k) : ack_May.f k l = some (heads 0 l) :=
  ack_May_l hn l.length k 0 (by omega) hk
def hbytes (x : S47) : List Int := e1 x.f0 ++ e1 x.f2 ++ e4 x.f1 ++ e2 x.f3
theorem hbytes_byt (x : S47) : Byt (hbytes x) := byt_append (byt_append (byt_append (e1_byt _) (e1_byt _)) (e4_byt _)) (e2_byt _)
theorem hbytes_len (x : S47) : (hbytes x).length = 8 := rfl
def ackBytes (l : List S47) : List Int := e1 (l.length : Int) ++ l.flatMap hbytes
theorem flat_byt {α : Type} (f : α → List Int) (hf : ∀ x, Byt (f x)) (l : List α) : Byt (l.flatMap f) := by
  intro y hy
  obtain ⟨x, _, hx⟩ := List.mem_flatMap.mp hy
  exact hf x y hx
theorem ackBytes_byt (l : List S47) : Byt (ackBytes l) := byt_append (e1_byt _) (flat_byt _ hbytes_byt l)
theorem ack_Put_l {l : List S47} (hn : l.length ≤ 4) : ∀ (d k i : Nat) (acc : List Int), i + d = l.length → d < k → acc.length ≤ 10 + 8 * i →
    ack_Put.l0 k (strOfNums acc) l (l.length : Int) (i : Int) = some (strOfNums (acc ++ (l.drop i).flatMap hbytes), 0) := by
  intro d
  induction d with
  | zero =>
    intro k i acc hi hk ha
    obtain ⟨k, rfl⟩ : ∃ m, k = m + 1 := ⟨k - 1, by omega⟩
    simp only [ack_Put.l0]
    rw [if_neg (by omega), List.drop_of_length_le (by omega)]
    simp
  | succ d ih =>
    intro k i acc hi hk ha
    obtain ⟨k, rfl⟩ : ∃ m, k = m + 1 := ⟨k - 1, by omega⟩
    have hlt : i < l.length := by omega
    have h4 : wrap64 ((i : Int) + 1) = ((i + 1 : Nat) : Int) := by rw [wrap_id (by omega) (by omega)]; omega
    simp only [ack_Put.l0, lsa_One_f, lsa_Two_f, lsa_Four_f, Option.bind_some, strOf_append, strOf_size, List.length_append, e1_len, e2_len, e4_len]
    rw [if_pos (by omega), if_pos (by omega), if_pos (by omega), if_pos (by decide), if_pos (by decide), if_pos (by decide), if_pos (by omega), h4,
      ih k (i + 1) _ (by omega) (by omega) (by simp only [List.length_append, e1_len, e2_len, e4_len]; omega), dropH_at hlt, List.flatMap_cons]
    simp only [hbytes, List.append_assoc]
theorem ack_Put_f {l : List S47} (hn : l.length ≤ 9223372036854775807) {k : Nat} (hk : l.length < k) :
    ack_Put.f k l = some (if heads 0 l = true then (strOfNums (ackBytes l), 0) else (⟨#[]⟩, 1100)) := by
  simp only [ack_Put.f, ack_May_f hn hk, Option.bind_some, lsa_One_f]
  by_cases h : heads 0 l = true
  · rw [if_pos h, if_pos h]
    have h1 := heads_len h
    exact ack_Put_l h1 l.length k 0 (e1 (l.length : Int)) (by omega) hk (by rw [e1_len]; omega)
  · rw [if_neg h, if_neg h]
def headAt (b : List Int) : S47 := ⟨b.getD 0 0, num ((b.drop 2).take 4), b.getD 1 0, num ((b.drop 6).take 2)⟩
def parseA : Nat → List Int → List S47
  | 0, _ => []
  | n + 1, b => if 8 ≤ b.length then headAt b :: parseA n (b.drop 8) else []
def ackEnd (b : List Int) (out : List S47) : (List S47) × Int := if heads 0 out = true ∧ ackBytes out = b then (out, 0) else ([], 1100)
theorem ack_end {s : ByteArray} {out : List S47} (hn : out.length ≤ 5) {k : Nat} (hk : 6 ≤ k) :
    ((ack_Put.f k out).bind fun bt130 => (if bt130.2 = 0 then (if bt130.1.toList = s.toList then (some (out, 0)) else (some (([] : List S47), 1100))) else (some (([] : List S47), 1100)))) = some (ackEnd (B s) out) := by
  rw [ack_Put_f (by omega) (by omega), Option.bind_some]
  unfold ackEnd
  by_cases h : heads 0 out = true
  · rw [if_pos h]
    by_cases h2 : ackBytes out = B s
    · rw [if_pos rfl, if_pos (by rw [toList_iff, B_strOf (ackBytes_byt _)]; exact h2), if_pos ⟨h, h2⟩]
    · rw [if_pos rfl, if_neg (by rw [toList_iff, B_strOf (ackBytes_byt _)]; exact h2), if_neg (fun hh => h2 hh.2)]
  · rw [if_neg h, if_neg (by decide), if_neg (fun hh => h hh.1)]
theorem getD_drop (b : List Int) (i j : Nat) : (b.drop i).getD j 0 = b.getD (i + j) 0 := by
  rw [List.getD_eq_getElem?_getD, List.getD_eq_getElem?_getD, List.getElem?_drop]
theorem ack_Get_l {s : ByteArray} (hs : s.size ≤ 140737488351232) : ∀ (n k i : Nat) (acc : List S47), acc.length + n = 5 → i = 1 + 8 * acc.length → 2 * n + 20 ≤ k →
    ack_Get.l0 k s acc (i : Int) = some (ackEnd (B s) (acc ++ parseA n ((B s).drop i))) := by
  intro n
  induction n with
  | zero =>
    intro k i acc ha hi hk
    obtain ⟨k, rfl⟩ : ∃ m, k = m + 2 := ⟨k - 2, by omega⟩
    have hf : decide ((acc.length : Int) ≤ 4) = false := decide_eq_false (by omega)
    simp only [ack_Get.l0, hf, ite_self, ack_Get.j1, Bool.false_eq_true, if_false, parseA, List.append_nil]
    exact ack_end (by omega) (by omega)
  | succ n ih =>
    intro k i acc ha hi hk
    obtain ⟨k, rfl⟩ : ∃ m, k = m + 2 := ⟨k - 2, by omega⟩
    have hl := B_len s
    have w8 : wrap64 ((i : Int) + 8) = ((i + 8 : Nat) : Int) := by rw [wrap_id (by omega) (by omega)]; omega
    have w1 : wrap64 ((i : Int) + 1) = ((i + 1 : Nat) : Int) := by rw [wrap_id (by omega) (by omega)]; omega
    have w2 : wrap64 ((i : Int) + 2) = ((i + 2 : Nat) : Int) := by rw [wrap_id (by omega) (by omega)]; omega
    have w6 : wrap64 ((i : Int) + 6) = ((i + 6 : Nat) : Int) := by rw [wrap_id (by omega) (by omega)]; omega
    have ht : decide ((acc.length : Int) ≤ 4) = true := decide_eq_true (by omega)
    simp only [ack_Get.l0, w8]
    by_cases hc : ((i + 8 : Nat) : Int) ≤ (s.size : Int)
    · rw [if_pos hc, ht]
      have e26 : B (s.extract (i + 2) (i + 6)) = (((B s).drop i).drop 2).take 4 := by rw [B_extract, List.drop_drop]; congr 1; omega
      have e68 : B (s.extract (i + 6) (i + 8)) = (((B s).drop i).drop 6).take 2 := by rw [B_extract, List.drop_drop]; congr 1; omega
      have s26 : (s.extract (i + 2) (i + 6)).size ≤ 7 := by rw [← B_len, e26, List.length_take]; omega
      have s68 : (s.extract (i + 6) (i + 8)).size ≤ 7 := by rw [← B_len, e68, List.length_take]; omega
      have hr0 := byt_getD (B_byt s) i
      have hr1 := byt_getD (B_byt s) (i + 1)
      have hb0 : wrap64 (bt s (i : Int)) = ((B s).drop i).getD 0 0 := by rw [bt_B, Int.toNat_natCast, getD_drop]; exact wrap_id (by omega) (by omega)
      have hb1 : wrap64 (bt s ((i + 1 : Nat) : Int)) = ((B s).drop i).getD 1 0 := by rw [bt_B, Int.toNat_natCast, getD_drop]; exact wrap_id (by omega) (by omega)
      simp only [ack_Get.j1, if_true, w1, w2, w6, w8, Int.toNat_natCast, lsa_Number_f s26 (show 8 ≤ k by omega), lsa_Number_f s68 (show 8 ≤ k by omega), Option.bind_some, hb0, hb1, e26, e68]
      rw [if_pos (by omega), if_pos (by omega), if_pos (by omega), if_pos (by omega), if_pos (by omega), if_pos (by omega), if_pos (by omega), if_pos (by omega), if_pos (by omega), if_pos (by omega), if_pos (by omega),
        ih k (i + 8) _ (by simp only [List.length_append, List.length_singleton]; omega) (by simp only [List.length_append, List.length_singleton]; omega) (by omega)]
      have hp : parseA (n + 1) ((B s).drop i) = headAt ((B s).drop i) :: parseA n ((B s).drop (i + 8)) := by
        conv => lhs; unfold parseA
        rw [if_pos (by rw [List.length_drop]; omega), List.drop_drop]
      rw [hp, List.append_assoc]
      rfl
    · rw [if_neg hc]
      have hp : parseA (n + 1) ((B s).drop i) = [] := by
        unfold parseA; rw [if_neg (by rw [List.length_drop]; omega)]
      simp only [ack_Get.j1, Bool.false_eq_true, if_false, hp, List.append_nil]
      exact ack_end (by omega) (by omega)
def getAck (b : List Int) : (List S47) × Int := ackEnd b (parseA 5 (b.drop 1))
theorem ack_Get_f {s : ByteArray} (hs : s.size ≤ 140737488351232) {k : Nat} (hk : 30 ≤ k) : ack_Get.f k s = some (getAck (B s)) :=
  ack_Get_l hs 5 k 1 [] rfl rfl (by omega)
theorem headAt_hbytes {x : S47} (h : AckOk x.f0 x.f1 x.f2 x.f3) (r : List Int) : headAt (hbytes x ++ r) = x := by
  obtain ⟨h1, h2, h3, h4, h5, h6, h7, h8⟩ := h
  have a0 : (hbytes x ++ r).getD 0 0 = x.f0 := by simp [hbytes, e1]; omega
  have a1 : (hbytes x ++ r).getD 1 0 = x.f2 := by simp [hbytes, e1]; omega
  have a2 : ((hbytes x ++ r).drop 2).take 4 = e4 x.f1 := by simp [hbytes, e1, e2, e4]
  have a3 : ((hbytes x ++ r).drop 6).take 2 = e2 x.f3 := by simp [hbytes, e1, e2, e4]
  unfold headAt
  rw [a0, a1, a2, a3, num_e4 (by omega) (by omega), num_e2 (by omega) (by omega)]
theorem parse_flat : ∀ (l : List S47) (n : Nat), l.length ≤ n → (∀ x ∈ l, AckOk x.f0 x.f1 x.f2 x.f3) → parseA n (l.flatMap hbytes) = l
  | [], n, _, _ => by cases n <;> simp [parseA]
  | x :: l, 0, h, _ => by simp at h
  | x :: l, n + 1, h, hr => by
    have hx := hr x (by simp)
    rw [List.flatMap_cons]
    unfold parseA
    rw [if_pos (by rw [List.length_append, hbytes_len]; omega), headAt_hbytes hx, ← hbytes_len x, List.drop_left, parse_flat l n (by simpa using h) (fun y hy => hr y (by simp [hy]))]
theorem get_ack {l : List S47} (h : heads 0 l = true) : getAck (ackBytes l) = (l, 0) := by
  have h1 := heads_len h
  unfold getAck ackEnd
  have hd : (ackBytes l).drop 1 = l.flatMap hbytes := by unfold ackBytes; rw [← e1_len (l.length : Int), List.drop_left]
  rw [hd, parse_flat l 5 (by omega) (heads_range l 0 h), if_pos ⟨h, rfl⟩]
theorem getAck_ok {b : List Int} (h : (getAck b).2 = 0) : heads 0 (getAck b).1 = true ∧ ackBytes (getAck b).1 = b := by
  unfold getAck ackEnd at h ⊢
  by_cases hc : heads 0 (parseA 5 (b.drop 1)) = true ∧ ackBytes (parseA 5 (b.drop 1)) = b
  · rw [if_pos hc] at h ⊢; exact hc
  · rw [if_neg hc] at h; exact absurd h (by decide)
theorem getAck_no {b : List Int} (h : ¬ (getAck b).2 = 0) : getAck b = ([], 1100) := by
  unfold getAck ackEnd at h ⊢
  by_cases hc : heads 0 (parseA 5 (b.drop 1)) = true ∧ ackBytes (parseA 5 (b.drop 1)) = b
  · rw [if_pos hc] at h; exact absurd rfl h
  · rw [if_neg hc]
theorem SameH_l {l m : List S47} (hn : l.length ≤ 9223372036854775807) (he : l.length = m.length) : ∀ (d k i : Nat), i + d = l.length → d < k →
    watchwordlaw0_SameLsaHeads.l0 k l m (i : Int) = some (decide (l.drop i = m.drop i)) := by
  intro d
  induction d with
  | zero =>
    intro k i hi hk
    obtain ⟨k, rfl⟩ : ∃ m, k = m + 1 := ⟨k - 1, by omega⟩
    simp only [watchwordlaw0_SameLsaHeads.l0]
    rw [if_neg (by omega), List.drop_of_length_le (by omega), List.drop_of_length_le (by omega)]
    simp
  | succ d ih =>
    intro k i hi hk
    obtain ⟨k, rfl⟩ : ∃ m, k = m + 1 := ⟨k - 1, by omega⟩
    have h4 : wrap64 ((i : Int) + 1) = ((i + 1 : Nat) : Int) := by rw [wrap_id (by omega) (by omega)]; omega
    simp only [watchwordlaw0_SameLsaHeads.l0]
    rw [if_pos (by omega), if_pos (by omega), if_pos (by omega), h4, ih k (i + 1) (by omega) (by omega), dropH_at (l := l) (i := i) (by omega), dropH_at (l := m) (i := i) (by omega)]
    generalize rd_T47 l (i : Int) = x
    generalize rd_T47 m (i : Int) = y
    have hx : (!(x.f0 == y.f0) || (!(x.f1 == y.f1) || (!(x.f2 == y.f2) || !(x.f3 == y.f3)))) = !decide (x = y) := by
      cases x; cases y
      rw [Bool.eq_iff_iff]
      simp
    rw [hx]
    by_cases hc : x = y
    · rw [hc]; simp
    · simp [hc]
theorem SameH_f {l m : List S47} (hn : l.length ≤ 9223372036854775807) {k : Nat} (hk : l.length < k) : watchwordlaw0_SameLsaHeads.f k l m = some (decide (l = m)) := by
  unfold watchwordlaw0_SameLsaHeads.f
  by_cases h : l.length = m.length
  · rw [if_pos (by omega)]
    have := SameH_l hn h l.length k 0 (by omega) hk
    rw [List.drop_zero, List.drop_zero] at this
    exact this
  · rw [if_neg (by omega), decide_eq_false (fun e => h (by rw [e]))]
end Ak
/-! ### packet: list, May, Put, Get; SamePacket -/
def PkOk (t r : Int) (xs : List Int) (us : List S45) (hs : List S47) : Prop :=
  (1 ≤ r ∧ r ≤ 4) ∧ ((t = 1 ∧ He.heard 0 xs = true ∧ us = [] ∧ hs = []) ∨ (t = 4 ∧ upd 0 us = true ∧ xs = [] ∧ hs = []) ∨ (t = 5 ∧ Ak.heads 0 hs = true ∧ xs = [] ∧ us = []))
instance (t r : Int) (xs : List Int) (us : List S45) (hs : List S47) : Decidable (PkOk t r xs us hs) := by unfold PkOk; infer_instance
def plist (t : Int) (xs : List Int) (us : List S45) (hs : List S47) : List Int := if t = 1 then He.helloBytes xs else if t = 4 then updB us else Ak.ackBytes hs
def pbytes (t r : Int) (xs : List Int) (us : List S45) (hs : List S47) : List Int := Hd.hdr t r (12 + ((plist t xs us hs).length : Int)) ++ plist t xs us hs
theorem updB_len {l : List S45} (h : upd 0 l = true) : (updB l).length ≤ 85 := by
  have h4 := upd_len h
  have : ∀ m : List S45, (∀ x ∈ m, UsOk x) → (m.flatMap ubytes).length ≤ 21 * m.length := by
    intro m
    induction m with
    | nil => intro _; simp
    | cons x m ih =>
      intro hm
      have h1 := ih (fun y hy => hm y (by simp [hy]))
      have h2 := usOk_len (hm x (by simp))
      rw [List.flatMap_cons, List.length_append, ubytes_len, List.length_cons]
      omega
  have h5 := this l (upd_ok l 0 h)
  unfold updB
  rw [List.length_append, e1_len]
  omega
theorem ackB_len {l : List S47} (h : Ak.heads 0 l = true) : (Ak.ackBytes l).length ≤ 33 := by
  have h4 := Ak.heads_len h
  have : ∀ m : List S47, (m.flatMap Ak.hbytes).length = 8 * m.length := by
    intro m
    induction m with
    | nil => rfl
    | cons x m ih => rw [List.flatMap_cons, List.length_append, Ak.hbytes_len, List.length_cons, ih]; omega
  unfold Ak.ackBytes
  rw [List.length_append, e1_len, this]
  omega
theorem plist_len {t r : Int} {xs : List Int} {us : List S45} {hs : List S47} (h : PkOk t r xs us hs) : (plist t xs us hs).length ≤ 85 := by
  rcases h.2 with ⟨rfl, h, _, _⟩ | ⟨rfl, h, _, _⟩ | ⟨rfl, h, _, _⟩
  · have := He.heard_len h
    unfold plist; rw [if_pos rfl]; simp only [He.helloBytes, List.length_cons]; omega
  · unfold plist; rw [if_neg (by decide), if_pos rfl]; exact updB_len h
  · unfold plist; rw [if_neg (by decide), if_neg (by decide)]; have := ackB_len h; omega
theorem plist_byt {t r : Int} {xs : List Int} {us : List S45} {hs : List S47} (h : PkOk t r xs us hs) : Byt (plist t xs us hs) := by
  rcases h.2 with ⟨rfl, h, _, _⟩ | ⟨rfl, h, _, _⟩ | ⟨rfl, h, _, _⟩
  · unfold plist; rw [if_pos rfl]; exact He.helloBytes_byt h
  · unfold plist; rw [if_neg (by decide), if_pos rfl]; exact updB_byt _
  · unfold plist; rw [if_neg (by decide), if_neg (by decide)]; exact Ak.ackBytes_byt _
theorem pbytes_len (t r : Int) (xs : List Int) (us : List S45) (hs : List S47) : (pbytes t r xs us hs).length = 12 + (plist t xs us hs).length := by
  unfold pbytes; rw [List.length_append, Hd.hdr_len]
theorem pbytes_byt {t r : Int} {xs : List Int} {us : List S45} {hs : List S47} (h : PkOk t r xs us hs) : Byt (pbytes t r xs us hs) := byt_append (Hd.hdr_byt _ _ _) (plist_byt h)
theorem pk_head {t r : Int} {xs : List Int} {us : List S45} {hs : List S47} (h : PkOk t r xs us hs) : Hd.HeadOk t r (12 + ((plist t xs us hs).length : Int)) := by
  have h1 := plist_len h
  refine ⟨?_, h.1.1, h.1.2, by omega, by omega⟩
  rcases h.2 with ⟨h, _⟩ | ⟨h, _⟩ | ⟨h, _⟩
  · exact .inl h
  · exact .inr (.inl h)
  · exact .inr (.inr h)
/-- What the inner function tells of a packet's list. -/
def listR (t : Int) (xs : List Int) (us : List S45) (hs : List S47) : ByteArray × Bool :=
  if t = 1 then (if He.heard 0 xs = true then (strOfNums (He.helloBytes xs), decide (us = [] ∧ hs = [])) else (⟨#[]⟩, false))
  else if t = 4 then (if upd 0 us = true then (strOfNums (updB us), decide (xs = [] ∧ hs = [])) else (⟨#[]⟩, false))
  else if t = 5 then (if Ak.heads 0 hs = true then (strOfNums (Ak.ackBytes hs), decide (xs = [] ∧ us = [])) else (⟨#[]⟩, false))
  else (⟨#[]⟩, false)
theorem many_eq {α β : Type} {a b c : Nat} (ha : a ≤ 1000000000000000000) (hb : b ≤ 1000000000000000000) (hc : c ≤ 1000000000000000000) :
    (wrap64 ((wrap64 ((wrap64 ((a : Int) + (b : Int))) + (c : Int))) - (a : Int)) == 0) = decide (b = 0 ∧ c = 0)
    ∧ (wrap64 ((wrap64 ((wrap64 ((a : Int) + (b : Int))) + (c : Int))) - (b : Int)) == 0) = decide (a = 0 ∧ c = 0)
    ∧ (wrap64 ((wrap64 ((wrap64 ((a : Int) + (b : Int))) + (c : Int))) - (c : Int)) == 0) = decide (a = 0 ∧ b = 0) := by
  rw [wrap_id (x := (a : Int) + (b : Int)) (by omega) (by omega), wrap_id (x := (a : Int) + (b : Int) + (c : Int)) (by omega) (by omega), wrap_id (x := (a : Int) + (b : Int) + (c : Int) - (a : Int)) (by omega) (by omega),
    wrap_id (x := (a : Int) + (b : Int) + (c : Int) - (b : Int)) (by omega) (by omega), wrap_id (x := (a : Int) + (b : Int) + (c : Int) - (c : Int)) (by omega) (by omega)]
  refine ⟨?_, ?_, ?_⟩ <;> rw [Bool.eq_iff_iff, beq_iff_eq, decide_eq_true_eq] <;> omega
theorem nil_len {α β : Type} (l : List α) (m : List β) : decide (l.length = 0 ∧ m.length = 0) = decide (l = [] ∧ m = []) := by
  rw [Bool.eq_iff_iff, decide_eq_true_eq, decide_eq_true_eq, List.length_eq_zero_iff, List.length_eq_zero_iff]
theorem packet_list_f {t r : Int} {xs : List Int} {us : List S45} {hs : List S47} {M : Nat} (hx : xs.length ≤ 1000000000000000000) (ha : us.length ≤ 1000000000000000000) (hh : hs.length ≤ 1000000000000000000)
    (hM : ∀ x ∈ us, x.f3.length < M) (hM2 : M ≤ 9223372036854775807) {k : Nat} (hk : xs.length + us.length + hs.length + M < k) (hk2 : 35 ≤ k) :
    packet_list.f k t r xs us hs = some (listR t xs us hs) := by
  obtain ⟨m1, m2, m3⟩ := many_eq (α := Int) (β := Int) hx ha hh
  unfold packet_list.f listR
  by_cases h1 : t = 1
  · rw [if_pos h1, if_pos h1, He.hello_Put_f (by omega) (show xs.length < k by omega), Option.bind_some]
    by_cases h : He.heard 0 xs = true
    · rw [if_pos h, if_pos h, if_pos rfl, m1, nil_len]
    · rw [if_neg h, if_neg h, if_neg (by decide)]
  rw [if_neg h1, if_neg h1]
  by_cases h4 : t = 4
  · rw [if_pos h4, if_pos h4, update_Put_f (by omega) hM hM2 (show us.length + M < k by omega) hk2, Option.bind_some]
    by_cases h : upd 0 us = true
    · rw [if_pos h, if_pos h, if_pos rfl, m2, nil_len]
    · rw [if_neg h, if_neg h, if_neg (by decide)]
  rw [if_neg h4, if_neg h4]
  by_cases h5 : t = 5
  · rw [if_pos h5, if_pos h5, Ak.ack_Put_f (by omega) (show hs.length < k by omega), Option.bind_some]
    by_cases h : Ak.heads 0 hs = true
    · rw [if_pos h, if_pos h, if_pos rfl, m3, nil_len]
    · rw [if_neg h, if_neg h, if_neg (by decide)]
  rw [if_neg h5, if_neg h5]
theorem listR_true {t : Int} {xs : List Int} {us : List S45} {hs : List S47} (h : (listR t xs us hs).2 = true) (r : Int) (hr : 1 ≤ r ∧ r ≤ 4) :
    PkOk t r xs us hs ∧ listR t xs us hs = (strOfNums (plist t xs us hs), true) := by
  unfold listR at h ⊢
  by_cases h1 : t = 1
  · rw [if_pos h1] at h ⊢
    by_cases g : He.heard 0 xs = true
    · rw [if_pos g] at h ⊢
      have e := of_decide_eq_true h
      exact ⟨⟨hr, .inl ⟨h1, g, e⟩⟩, by unfold plist; rw [if_pos h1, decide_eq_true e]⟩
    · rw [if_neg g] at h; cases h
  rw [if_neg h1] at h ⊢
  by_cases h4 : t = 4
  · rw [if_pos h4] at h ⊢
    by_cases g : upd 0 us = true
    · rw [if_pos g] at h ⊢
      have e := of_decide_eq_true h
      exact ⟨⟨hr, .inr (.inl ⟨h4, g, e⟩)⟩, by unfold plist; rw [if_neg h1, if_pos h4, decide_eq_true e]⟩
    · rw [if_neg g] at h; cases h
  rw [if_neg h4] at h ⊢
  by_cases h5 : t = 5
  · rw [if_pos h5] at h ⊢
    by_cases g : Ak.heads 0 hs = true
    · rw [if_pos g] at h ⊢
      have e := of_decide_eq_true h
      exact ⟨⟨hr, .inr (.inr ⟨h5, g, e⟩)⟩, by unfold plist; rw [if_neg h1, if_neg h4, decide_eq_true e]⟩
    · rw [if_neg g] at h; cases h
  rw [if_neg h5] at h; cases h
theorem listR_ok {t r : Int} {xs : List Int} {us : List S45} {hs : List S47} (h : PkOk t r xs us hs) : (listR t xs us hs).2 = true := by
  unfold listR
  rcases h.2 with ⟨rfl, g, e⟩ | ⟨rfl, g, e⟩ | ⟨rfl, g, e⟩
  · rw [if_pos rfl, if_pos g]; exact decide_eq_true e
  · rw [if_neg (by decide), if_pos rfl, if_pos g]; exact decide_eq_true e
  · rw [if_neg (by decide), if_neg (by decide), if_pos rfl, if_pos g]; exact decide_eq_true e
theorem listR_size (t : Int) (xs : List Int) (us : List S45) (hs : List S47) : (listR t xs us hs).1.size ≤ 85 := by
  unfold listR
  by_cases h1 : t = 1
  · rw [if_pos h1]
    by_cases g : He.heard 0 xs = true
    · rw [if_pos g]; have := He.heard_len g; simp only [strOf_size, He.helloBytes, List.length_cons]; omega
    · rw [if_neg g]; exact Nat.zero_le _
  rw [if_neg h1]
  by_cases h4 : t = 4
  · rw [if_pos h4]
    by_cases g : upd 0 us = true
    · rw [if_pos g]; have := updB_len g; simp only [strOf_size]; exact this
    · rw [if_neg g]; exact Nat.zero_le _
  rw [if_neg h4]
  by_cases h5 : t = 5
  · rw [if_pos h5]
    by_cases g : Ak.heads 0 hs = true
    · rw [if_pos g]; have := ackB_len g; simp only [strOf_size]; omega
    · rw [if_neg g]; exact Nat.zero_le _
  rw [if_neg h5]; exact Nat.zero_le _
theorem packet_Put_f {t r : Int} {xs : List Int} {us : List S45} {hs : List S47} {M : Nat} (hx : xs.length ≤ 1000000000000000000) (ha : us.length ≤ 1000000000000000000) (hh : hs.length ≤ 1000000000000000000)
    (hM : ∀ x ∈ us, x.f3.length < M) (hM2 : M ≤ 9223372036854775807) {k : Nat} (hk : xs.length + us.length + hs.length + M < k) (hk2 : 35 ≤ k) :
    packet_Put.f k t r xs us hs = some (if PkOk t r xs us hs then (strOfNums (pbytes t r xs us hs), 0) else (⟨#[]⟩, 1200)) := by
  have hz := listR_size t xs us hs
  unfold packet_Put.f
  rw [packet_list_f hx ha hh hM hM2 hk hk2, Option.bind_some, Hd.head_Put_f (by omega), Option.bind_some, wrap_id (by omega) (by omega)]
  by_cases h2 : (listR t xs us hs).2 = true
  · rw [if_pos h2]
    by_cases hr : 1 ≤ r ∧ r ≤ 4
    · obtain ⟨hp, e⟩ := listR_true h2 r hr
      have hl := plist_len hp
      rw [e, if_pos (show Hd.HeadOk t r (12 + (((strOfNums (plist t xs us hs)).size : Nat) : Int)) by rw [strOf_size]; exact pk_head hp), if_pos hp]
      simp only [strOf_size, if_true]
      rw [if_pos (by rw [Hd.hdr_len]; omega), strOf_append]; rfl
    · rw [if_neg (fun hh : Hd.HeadOk t r _ => hr ⟨hh.2.1, hh.2.2.1⟩), if_neg (fun hh : PkOk t r xs us hs => hr hh.1), if_neg (by decide)]
  · rw [if_neg h2, if_neg (fun hh => h2 (listR_ok hh))]
def getPkt (b : List Int) : Option (Int × Int × List Int × List S45 × List S47) :=
  if (Hd.getHead b).2.2.2 = 0 ∧ (Hd.getHead b).2.2.1 = (b.length : Int) then
    (if (Hd.getHead b).1 = 1 then (if (He.getHello (b.drop 12)).2 = 0 then some ((Hd.getHead b).1, (Hd.getHead b).2.1, (He.getHello (b.drop 12)).1, [], []) else none)
    else if (Hd.getHead b).1 = 4 then (match getUpd (b.drop 12) with | some out => some ((Hd.getHead b).1, (Hd.getHead b).2.1, [], out, []) | none => none)
    else (if (Ak.getAck (b.drop 12)).2 = 0 then some ((Hd.getHead b).1, (Hd.getHead b).2.1, [], [], (Ak.getAck (b.drop 12)).1) else none))
  else none
def tellP : Option (Int × Int × List Int × List S45 × List S47) → Int × Int × List Int × List S45 × List S47 × Int
  | some (t, r, xs, us, hs) => (t, r, xs, us, hs, 0)
  | none => (0, 0, [], [], [], 1200)
theorem getHead_ok {b : List Int} (h : (Hd.getHead b).2.2.2 = 0) : Hd.HeadOk (Hd.getHead b).1 (Hd.getHead b).2.1 (Hd.getHead b).2.2.1 ∧ Hd.hdr (Hd.getHead b).1 (Hd.getHead b).2.1 (Hd.getHead b).2.2.1 = b.take 12 ∧ 12 ≤ b.length := by
  unfold Hd.getHead at h ⊢
  by_cases h0 : b.length < 12
  · rw [if_pos h0] at h; exact absurd h (by decide)
  rw [if_neg h0] at h ⊢
  by_cases h1 : Hd.HeadOk (b.getD 1 0) (num ((b.drop 4).take 4)) (num ((b.drop 2).take 2)) ∧ Hd.hdr (b.getD 1 0) (num ((b.drop 4).take 4)) (num ((b.drop 2).take 2)) = b.take 12
  · rw [if_pos h1]; exact ⟨h1.1, h1.2, by omega⟩
  · rw [if_neg h1] at h; exact absurd h (by decide)
theorem getHello_no {b : List Int} (h : ¬ (He.getHello b).2 = 0) : ¬ ((He.getHello b).2 = 0) := h
theorem packet_Get_f {a : ByteArray} (hs : a.size ≤ 140737488355328) {k : Nat} (hk : 2000 ≤ k) : packet_Get.f k a = some (tellP (getPkt (B a))) := by
  obtain ⟨k, rfl⟩ : ∃ m, k = m + 1 := ⟨k - 1, by omega⟩
  have hbl := B_len a
  unfold packet_Get.f getPkt
  rw [Hd.head_Get_f (by omega), Option.bind_some]
  by_cases h0 : (Hd.getHead (B a)).2.2.2 = 0
  · rw [if_pos h0]
    obtain ⟨g1, g2, g3⟩ := getHead_ok h0
    by_cases h1 : (Hd.getHead (B a)).2.2.1 = (a.size : Int)
    · rw [show ((Hd.getHead (B a)).2.2.1 != (a.size : Int)) = false from by rw [h1]; exact bne_self_eq_false _, if_pos (⟨h0, by rw [h1, hbl]⟩ : (Hd.getHead (B a)).2.2.2 = 0 ∧ (Hd.getHead (B a)).2.2.1 = ((B a).length : Int))]
      have hz : a.size ≤ 512 := by have := g1.2.2.2.2; omega
      have hz2 : (a.extract 12 a.size).size ≤ 512 := by rw [size_tail]; omega
      simp only [packet_Get.j0, Bool.false_eq_true, if_false]
      rw [if_pos (by omega)]
      generalize Hd.getHead (B a) = g at *
      by_cases h2 : g.1 = 1
      · rw [if_pos h2, if_pos h2, He.hello_Get_f (by omega) (by omega), Option.bind_some, B_tail]
        by_cases h3 : (He.getHello ((B a).drop 12)).2 = 0
        · rw [if_pos h3, if_pos h3]; rfl
        · rw [if_neg h3, if_neg h3]; rfl
      rw [if_neg h2, if_neg h2]
      by_cases h4 : g.1 = 4
      · rw [if_pos h4, if_pos h4, update_Get_f (by omega) (by omega), Option.bind_some, B_tail]
        cases hg : getUpd ((B a).drop 12) with
        | none => simp only [tellU]; exact (if_neg (show ¬ ((1000 : Int) = 0) by decide)).trans rfl
        | some out => simp only [tellU, if_true]; rfl
      rw [if_neg h4, if_neg h4, Ak.ack_Get_f (by omega) (by omega), Option.bind_some, B_tail]
      by_cases h3 : (Ak.getAck ((B a).drop 12)).2 = 0
      · rw [if_pos h3, if_pos h3]; rfl
      · rw [if_neg h3, if_neg h3]; rfl
    · rw [show ((Hd.getHead (B a)).2.2.1 != (a.size : Int)) = true from bne_iff_ne.mpr h1, if_neg (fun hh : (Hd.getHead (B a)).2.2.2 = 0 ∧ (Hd.getHead (B a)).2.2.1 = ((B a).length : Int) => h1 (by rw [hh.2, hbl]))]
      simp only [packet_Get.j0, if_true]; rfl
  · rw [if_neg h0, if_neg (fun hh : (Hd.getHead (B a)).2.2.2 = 0 ∧ (Hd.getHead (B a)).2.2.1 = ((B a).length : Int) => h0 hh.1)]
    simp only [packet_Get.j0, if_true]; rfl
theorem getPkt_put {t r : Int} {xs : List Int} {us : List S45} {hs : List S47} (h : PkOk t r xs us hs) : getPkt (pbytes t r xs us hs) = some (t, r, xs, us, hs) := by
  have hh := pk_head h
  have hl := pbytes_len t r xs us hs
  unfold getPkt
  rw [show Hd.getHead (pbytes t r xs us hs) = _ from Hd.get_hdr hh _, show (pbytes t r xs us hs).drop 12 = plist t xs us hs from by
    unfold pbytes; rw [← Hd.hdr_len t r (12 + ((plist t xs us hs).length : Int)), List.drop_left], hl]
  simp only
  rw [if_pos (by constructor <;> first | trivial | omega)]
  have p1 : plist 1 xs us hs = He.helloBytes xs := by unfold plist; rw [if_pos rfl]
  have p4 : plist 4 xs us hs = updB us := by unfold plist; rw [if_neg (by decide), if_pos rfl]
  have p5 : plist 5 xs us hs = Ak.ackBytes hs := by unfold plist; rw [if_neg (by decide), if_neg (by decide)]
  rcases h.2 with ⟨rfl, g, rfl, rfl⟩ | ⟨rfl, g, rfl, rfl⟩ | ⟨rfl, g, rfl, rfl⟩
  · rw [p1, if_pos rfl, He.get_put g]; rfl
  · rw [p4, if_neg (show ¬ ((4 : Int) = 1) by decide), if_pos rfl, getUpd_put g]
  · rw [p5, if_neg (show ¬ ((5 : Int) = 1) by decide), if_neg (show ¬ ((5 : Int) = 4) by decide), Ak.get_ack g]; rfl
theorem getHello_ok {b : List Int} (h : (He.getHello b).2 = 0) : He.heard 0 (He.getHello b).1 = true ∧ He.helloBytes (He.getHello b).1 = b := by
  unfold He.getHello at h ⊢
  by_cases hc : He.heard 0 (b.drop 1) = true ∧ He.helloBytes (b.drop 1) = b
  · rw [if_pos hc]; exact hc
  · rw [if_neg hc] at h; exact absurd h (by decide)
theorem getPkt_some {b : List Int} {t r : Int} {xs : List Int} {us : List S45} {hs : List S47} (h : getPkt b = some (t, r, xs, us, hs)) : PkOk t r xs us hs ∧ pbytes t r xs us hs = b := by
  unfold getPkt at h
  by_cases h0 : (Hd.getHead b).2.2.2 = 0 ∧ (Hd.getHead b).2.2.1 = (b.length : Int)
  · rw [if_pos h0] at h
    obtain ⟨g1, g2, g3⟩ := getHead_ok h0.1
    have hsz := h0.2
    have key : ∀ l : List Int, l = b.drop 12 → Hd.hdr (Hd.getHead b).1 (Hd.getHead b).2.1 (12 + (l.length : Int)) ++ l = b := by
      intro l hl
      have : 12 + (l.length : Int) = (Hd.getHead b).2.2.1 := by rw [hl, List.length_drop, hsz]; omega
      rw [this, g2, hl, List.take_append_drop]
    clear h0 g2
    generalize Hd.getHead b = g at *
    by_cases h2 : g.1 = 1
    · rw [if_pos h2] at h
      by_cases h3 : (He.getHello (b.drop 12)).2 = 0
      · rw [if_pos h3] at h
        obtain ⟨q1, q2⟩ := getHello_ok h3
        simp only [Option.some.injEq, Prod.mk.injEq] at h
        obtain ⟨rfl, rfl, rfl, rfl, rfl⟩ := h
        refine ⟨⟨⟨g1.2.1, g1.2.2.1⟩, .inl ⟨h2, q1, rfl, rfl⟩⟩, ?_⟩
        unfold pbytes plist; rw [if_pos h2]
        exact key _ q2
      · rw [if_neg h3] at h; cases h
    rw [if_neg h2] at h
    by_cases h4 : g.1 = 4
    · rw [if_pos h4] at h
      cases hg : getUpd (b.drop 12) with
      | none => rw [hg] at h; cases h
      | some out =>
        rw [hg] at h
        obtain ⟨q1, q2⟩ := getUpd_some hg
        simp only [Option.some.injEq, Prod.mk.injEq] at h
        obtain ⟨rfl, rfl, rfl, rfl, rfl⟩ := h
        refine ⟨⟨⟨g1.2.1, g1.2.2.1⟩, .inr (.inl ⟨h4, q1, rfl, rfl⟩)⟩, ?_⟩
        unfold pbytes plist; rw [if_neg h2, if_pos h4]
        exact key _ q2
    rw [if_neg h4] at h
    by_cases h3 : (Ak.getAck (b.drop 12)).2 = 0
    · rw [if_pos h3] at h
      obtain ⟨q1, q2⟩ := Ak.getAck_ok h3
      simp only [Option.some.injEq, Prod.mk.injEq] at h
      obtain ⟨rfl, rfl, rfl, rfl, rfl⟩ := h
      have h5 : g.1 = 5 := by rcases g1.1 with h | h | h <;> omega
      refine ⟨⟨⟨g1.2.1, g1.2.2.1⟩, .inr (.inr ⟨h5, q1, rfl, rfl⟩)⟩, ?_⟩
      unfold pbytes plist; rw [if_neg h2, if_neg h4]
      exact key _ q2
    · rw [if_neg h3] at h; cases h
  · rw [if_neg h0] at h; cases h
theorem pbytes_inj {t r : Int} {xs : List Int} {us : List S45} {hs : List S47} {t' r' : Int} {xs' : List Int} {us' : List S45} {hs' : List S47} (h : PkOk t r xs us hs) (h' : PkOk t' r' xs' us' hs')
    (e : pbytes t r xs us hs = pbytes t' r' xs' us' hs') : t = t' ∧ r = r' ∧ xs = xs' ∧ us = us' ∧ hs = hs' := by
  have h1 := getPkt_put h
  rw [e, getPkt_put h'] at h1
  simp only [Option.some.injEq, Prod.mk.injEq] at h1
  obtain ⟨rfl, rfl, rfl, rfl, rfl⟩ := h1
  exact ⟨rfl, rfl, rfl, rfl, rfl⟩
theorem SameP_f {t r : Int} {xs : List Int} {us : List S45} {hs : List S47} {t' r' : Int} {xs' : List Int} {us' : List S45} {hs' : List S47} {M : Nat} (hx : xs.length ≤ 1000000000000000000) (ha : us.length ≤ 1000000000000000000) (hh : hs.length ≤ 1000000000000000000)
    (hM : ∀ x ∈ us, x.f3.length < M) (hM2 : M ≤ 9223372036854775807) {k : Nat} (hk : xs.length + us.length + hs.length + M < k) :
    watchwordlaw0_SamePacket.f k t r xs us hs t' r' xs' us' hs' = some (decide (t = t' ∧ r = r' ∧ xs = xs' ∧ us = us' ∧ hs = hs')) := by
  unfold watchwordlaw0_SamePacket.f
  rw [He.SameInts_f (by omega) (show xs.length < k by omega), SameU_f (by omega) hM hM2 (show us.length + M < k by omega), Ak.SameH_f (by omega) (show hs.length < k by omega)]
  simp only [Option.bind_some, decide_eq_true_eq]
  by_cases h1 : t = t'
  · by_cases h2 : r = r'
    · by_cases h3 : xs = xs'
      · by_cases h4 : us = us'
        · rw [if_pos h1, if_pos h2, if_pos h3, if_pos h4]; simp [h1, h2, h3, h4]
        · rw [if_pos h1, if_pos h2, if_pos h3, if_neg h4]; simp [h4]
      · rw [if_pos h1, if_pos h2, if_neg h3]; simp [h3]
    · rw [if_pos h1, if_neg h2]; simp [h2]
  · rw [if_neg h1]; simp [h1]
/-- The layer is awake. -/
theorem awake_ok {k : Nat} (hk : 800 ≤ k) : watchwordlaw12_awake.f k = some true :=
  at_rounds (g := fun k => watchwordlaw12_awake.f k) watchwordlaw12_awake.mono hk (by decide +kernel)

end Go.Proofs.Ytbajimbccbckkaa.L12
