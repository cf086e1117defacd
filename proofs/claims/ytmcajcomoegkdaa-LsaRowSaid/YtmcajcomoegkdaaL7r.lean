/- What the functions of the layer 'lsa' come to, in plain lists. -/
import Derived.Test.YtmcajcomoegkdaaQ7rx124
import Derived.Test.YtmcajcomoegkdaaBase
namespace Go.Proofs.Ytmcajcomoegkdaa.L7
open Go.RowKit Go.Proofs.YtmcajcomoegkdaaW.PrintWords Go.Proofs.YtmcajcomoegkdaaW.PrintLast Go.Proofs.YtmcajcomoegkdaaW.PrintMore Go.Proofs.Ytmcajcomoegkdaa.Base Go.Proofs.Ytmcajcomoegkdaa.Q7r
set_option linter.unusedVariables false
set_option linter.unusedSimpArgs false
/-! ### lsa: One, Two, Four, Number -/
theorem lsa_One_f (x : Int) : lsa_One.f x = some (strOfNums (e1 x)) := rfl
theorem lsa_Two_f (x : Int) : lsa_Two.f x = some (strOfNums (e2 x)) := rfl
theorem lsa_Four_f (x : Int) : lsa_Four.f x = some (strOfNums (e4 x)) := by
  simp only [lsa_Four.f, lsa_Two_f, Option.bind_some, strOf_append, strOf_size, e2_len]
  rw [if_pos (by decide)]
  have h1 : x / 65536 / 256 = x / 16777216 := by omega
  simp only [e2, e4, List.cons_append, List.nil_append, h1]
theorem lsa_Number_step {acc : Int} {s : ByteArray} {i k d : Nat} (hd : i + (d + 1) = s.size) (hi : i ≤ 6) (h0 : 0 ≤ acc) (h1 : acc < lim i) :
    lsa_Number.l0 (k + 1) s acc (s.size : Int) (i : Int) = lsa_Number.l0 k s (acc * 256 + (B s).getD i 0) (s.size : Int) ((i + 1 : Nat) : Int) := by
  have hb : bt s (i : Int) = (B s).getD i 0 := by rw [bt_B, Int.toNat_natCast]
  have hr := byt_getD (B_byt s) i
  have hp : lim i ≤ 281474976710656 := lim_le6 hi
  have h2 : wrap64 (acc * 256) = acc * 256 := wrap_id (by omega) (by omega)
  have h3 : wrap64 ((B s).getD i 0) = (B s).getD i 0 := wrap_id (by omega) (by omega)
  have h4 : wrap64 ((i : Int) + 1) = ((i + 1 : Nat) : Int) := by rw [wrap_id (by omega) (by omega)]; omega
  have h5 : Go.bits .or .i64 (acc * 256) ((B s).getD i 0) = acc * 256 + (B s).getD i 0 := or_byte (by omega) (by omega) (by omega) hr.1 hr.2
  simp only [lsa_Number.l0]
  rw [if_pos (by omega), if_pos (by omega), if_pos (by omega), hb, h2, h3, h4, h5]
theorem lsa_Number_l {s : ByteArray} (hs : s.size ≤ 7) : ∀ (d k i : Nat) (acc : Int), i + d = s.size → d < k → 0 ≤ acc → acc < lim i →
    lsa_Number.l0 k s acc (s.size : Int) (i : Int) = some (((B s).drop i).foldl (fun a b => a * 256 + b) acc) := by
  intro d
  induction d with
  | zero =>
    intro k i acc hi hk h0 h1
    obtain ⟨k, rfl⟩ : ∃ m, k = m + 1 := ⟨k - 1, by omega⟩
    simp only [lsa_Number.l0]
    rw [if_neg (by omega), List.drop_of_length_le (by rw [B_len]; omega)]
    rfl
  | succ d ih =>
    intro k i acc hi hk h0 h1
    obtain ⟨k, rfl⟩ : ∃ m, k = m + 1 := ⟨k - 1, by omega⟩
    have hlt : i < (B s).length := by rw [B_len]; omega
    have hd : (B s).drop i = (B s).getD i 0 :: (B s).drop (i + 1) := by
      rw [List.drop_eq_getElem_cons hlt, List.getD_eq_getElem?_getD, List.getElem?_eq_getElem hlt, Option.getD_some]
    have hr := byt_getD (B_byt s) i
    have hl := lim_succ i
    rw [lsa_Number_step hi (by omega) h0 h1, ih k (i + 1) _ (by omega) (by omega) (by omega) (by omega), hd, List.foldl_cons]
theorem lsa_Number_f {s : ByteArray} (hs : s.size ≤ 7) {k : Nat} (hk : 8 ≤ k) : lsa_Number.f k s = some (num (B s)) :=
  lsa_Number_l hs s.size k 0 0 (by omega) (by omega) (by omega) (by decide)
/-! ### lsa: Links, May, body, Put, Get, Head (S49: the struct Link) -/
instance : DecidableEq S49 := fun a b => decidable_of_iff (a.f0 = b.f0 ∧ a.f1 = b.f1) (by cases a; cases b; simp)
def LinkOk (rt : Int) (x : S49) : Prop := 1 ≤ x.f0 ∧ x.f0 ≤ 4 ∧ x.f0 ≠ rt ∧ 1 ≤ x.f1 ∧ x.f1 ≤ 65535
instance (rt : Int) (x : S49) : Decidable (LinkOk rt x) := by unfold LinkOk; infer_instance
def links (rt : Int) : Int → List S49 → Bool
  | _, [] => true
  | p, x :: l => if LinkOk rt x ∧ p < x.f0 then links rt x.f0 l else false
theorem links_short {rt : Int} : ∀ (l : List S49) (p : Int), 0 ≤ p → links rt p l = true → l.length = 0 ∨ (l.length : Int) ≤ 4 - p
  | [], _, _, _ => .inl rfl
  | x :: l, p, h0, h => by
    unfold links at h
    by_cases hc : LinkOk rt x ∧ p < x.f0
    · rw [if_pos hc] at h
      have h4 := hc.1.2.1
      rcases links_short l x.f0 (by omega) h with h1 | h1
      · right; simp only [List.length_cons, h1]; omega
      · right; simp only [List.length_cons]; omega
    · rw [if_neg hc] at h; cases h
theorem links_len {rt : Int} {l : List S49} (h : links rt 0 l = true) : l.length ≤ 4 := by
  rcases links_short l 0 (by omega) h with h1 | h1 <;> omega
theorem links_range {rt : Int} : ∀ (l : List S49) (p : Int), links rt p l = true → ∀ x ∈ l, LinkOk rt x
  | [], _, _, _, hx => by cases hx
  | y :: l, p, h, x, hx => by
    unfold links at h
    by_cases hc : LinkOk rt y ∧ p < y.f0
    · rw [if_pos hc] at h
      rcases List.mem_cons.mp hx with rfl | hx
      · exact hc.1
      · exact links_range l y.f0 h x hx
    · rw [if_neg hc] at h; cases h
theorem rdL_at {l : List S49} {i : Nat} (h : i < l.length) : rd_T49 l (i : Int) = l[i] := by
  unfold rd_T49; rw [Int.toNat_natCast, List.getD_eq_getElem?_getD, List.getElem?_eq_getElem h]; rfl
def prevL (l : List S49) (i : Nat) : Int := if i = 0 then 0 else (rd_T49 l ((i : Int) - 1)).f0
theorem prevL_succ (l : List S49) (i : Nat) : prevL l (i + 1) = (rd_T49 l (i : Int)).f0 := by
  unfold prevL; rw [if_neg (by omega)]
  have : ((i + 1 : Nat) : Int) - 1 = (i : Int) := by omega
  rw [this]
theorem dropL_at {l : List S49} {i : Nat} (h : i < l.length) : l.drop i = rd_T49 l (i : Int) :: l.drop (i + 1) := by
  rw [List.drop_eq_getElem_cons h, rdL_at h]
theorem lsa_Router_f (x : Int) : lsa_Router.f x = some (decide (1 ≤ x ∧ x ≤ 4)) := by
  unfold lsa_Router.f
  by_cases h : x ≥ 1
  · rw [if_pos h]; simp [show (1 : Int) ≤ x from h]
  · rw [if_neg h]; simp [show ¬ (1 : Int) ≤ x from h]
theorem lsa_Links_l {l : List S49} {rt : Int} (hn : l.length ≤ 9223372036854775807) : ∀ (d k i : Nat), i + d = l.length → d < k →
    lsa_Links.l0 k l rt l (l.length : Int) (i : Int) = some (links rt (prevL l i) (l.drop i)) := by
  intro d
  induction d with
  | zero =>
    intro k i hi hk
    obtain ⟨k, rfl⟩ : ∃ m, k = m + 1 := ⟨k - 1, by omega⟩
    simp only [lsa_Links.l0]
    rw [if_neg (by omega), List.drop_of_length_le (by omega)]
    rfl
  | succ d ih =>
    intro k i hi hk
    obtain ⟨k, rfl⟩ : ∃ m, k = m + 1 := ⟨k - 1, by omega⟩
    have hlt : i < l.length := by omega
    have h4 : wrap64 ((i : Int) + 1) = ((i + 1 : Nat) : Int) := by rw [wrap_id (by omega) (by omega)]; omega
    have h5 : wrap64 ((i : Int) - 1) = (i : Int) - 1 := wrap_id (by omega) (by omega)
    have hr := ih k (i + 1) (by omega) (by omega)
    simp only [lsa_Links.l0, lsa_Router_f, Option.bind_some, decide_eq_true_eq]
    rw [if_pos (by omega), if_pos (by omega), if_pos (by omega), h4, h5, hr, prevL_succ, dropL_at hlt]
    generalize hx : rd_T49 l (i : Int) = x
    by_cases c1 : 1 ≤ x.f0 ∧ x.f0 ≤ 4
    · rw [if_pos c1]
      by_cases c2 : x.f0 = rt
      · rw [if_pos c2]; unfold links; rw [if_neg (fun hh => hh.1.2.2.1 c2)]
      rw [if_neg c2]
      by_cases c3 : x.f1 < 1
      · rw [if_pos c3]; unfold links; rw [if_neg (fun hh => by have := hh.1.2.2.2.1; omega)]
      rw [if_neg c3]
      by_cases c4 : x.f1 > 65535
      · rw [if_pos c4]; unfold links; rw [if_neg (fun hh => by have := hh.1.2.2.2.2; omega)]
      rw [if_neg c4]
      have hok : LinkOk rt x := ⟨c1.1, c1.2, c2, by omega, by omega⟩
      by_cases h0 : (i : Int) > 0
      · rw [if_pos h0, if_pos (by omega), if_pos (by omega)]
        have hp : prevL l i = (rd_T49 l ((i : Int) - 1)).f0 := by unfold prevL; rw [if_neg (by omega)]
        by_cases hg : (rd_T49 l ((i : Int) - 1)).f0 ≥ x.f0
        · rw [if_pos hg]; unfold links; rw [if_neg (by rw [hp]; omega)]
        · rw [if_neg hg]; conv => rhs; unfold links
          rw [if_pos ⟨hok, by rw [hp]; omega⟩]
      · rw [if_neg h0]
        have hp : prevL l i = 0 := by unfold prevL; rw [if_pos (by omega)]
        conv => rhs; unfold links
        rw [if_pos ⟨hok, by rw [hp]; omega⟩]
    · rw [if_neg c1]; unfold links; rw [if_neg (fun hh => c1 ⟨hh.1.1, hh.1.2.1⟩)]
theorem lsa_Links_f {l : List S49} {rt : Int} (hn : l.length ≤ 9223372036854775807) {k : Nat} (hk : l.length < k) : lsa_Links.f k l rt = some (links rt 0 l) :=
  lsa_Links_l hn l.length k 0 (by omega) hk
def LsaOk (r s g : Int) (l : List S49) : Prop := 1 ≤ r ∧ r ≤ 4 ∧ 1 ≤ s ∧ s ≤ 2147483647 ∧ 0 ≤ g ∧ g ≤ 60 ∧ links r 0 l = true
instance (r s g : Int) (l : List S49) : Decidable (LsaOk r s g l) := by unfold LsaOk; infer_instance
theorem lsa_May_f {r s g : Int} {l : List S49} (hn : l.length ≤ 9223372036854775807) {k : Nat} (hk : l.length < k) : lsa_May.f k r s g l = some (decide (LsaOk r s g l)) := by
  simp only [lsa_May.f, lsa_Links_f hn hk, lsa_Router_f, Option.bind_some]
  unfold lsa_Serial.f lsa_Age.f
  by_cases h1 : 1 ≤ r ∧ r ≤ 4
  · unfold LsaOk
    by_cases h3 : s ≥ 1
    · by_cases h4 : s ≤ 2147483647
      · by_cases h5 : g ≥ 0
        · by_cases h6 : g ≤ 60
          · simp [h1.1, h1.2, h3, h4, h5, h6]
          · simp [h1.1, h1.2, h3, h4, h5, h6]
        · simp [h1.1, h1.2, h3, h4, h5]
      · simp [h1.1, h1.2, h3, h4]
    · simp [h1.1, h1.2, h3]
  · rw [decide_eq_false h1, if_neg (by decide), decide_eq_false (fun hh : LsaOk r s g l => h1 ⟨hh.1, hh.2.1⟩)]
def lbytes (x : S49) : List Int := e1 x.f0 ++ e2 x.f1
theorem lbytes_byt (x : S49) : Byt (lbytes x) := byt_append (e1_byt _) (e2_byt _)
theorem lbytes_len (x : S49) : (lbytes x).length = 3 := rfl
theorem lflat_byt (l : List S49) : Byt (l.flatMap lbytes) := by
  intro y hy
  obtain ⟨x, _, hx⟩ := List.mem_flatMap.mp hy
  exact lbytes_byt x y hx
theorem lflat_len (l : List S49) : (l.flatMap lbytes).length = 3 * l.length := by
  induction l with
  | nil => rfl
  | cons x l ih => rw [List.flatMap_cons, List.length_append, ih, lbytes_len, List.length_cons]; omega
def bodyB (r s : Int) (l : List S49) : List Int := ((e1 r ++ e4 s) ++ e1 (l.length : Int)) ++ l.flatMap lbytes
theorem bodyB_byt (r s : Int) (l : List S49) : Byt (bodyB r s l) := byt_append (byt_append (byt_append (e1_byt _) (e4_byt _)) (e1_byt _)) (lflat_byt l)
theorem bodyB_len (r s : Int) (l : List S49) : (bodyB r s l).length = 6 + 3 * l.length := by
  unfold bodyB; simp only [List.length_append, lflat_len, e1_len, e4_len]
theorem lsa_body_l {l : List S49} (hn : l.length ≤ 255) : ∀ (d k i : Nat) (acc : List Int), i + d = l.length → d < k → acc.length ≤ 10 + 3 * i →
    lsa_body.l0 k (strOfNums acc) l (l.length : Int) (i : Int) = some (strOfNums (acc ++ (l.drop i).flatMap lbytes)) := by
  intro d
  induction d with
  | zero =>
    intro k i acc hi hk ha
    obtain ⟨k, rfl⟩ : ∃ m, k = m + 1 := ⟨k - 1, by omega⟩
    simp only [lsa_body.l0]
    rw [if_neg (by omega), List.drop_of_length_le (by omega)]
    simp
  | succ d ih =>
    intro k i acc hi hk ha
    obtain ⟨k, rfl⟩ : ∃ m, k = m + 1 := ⟨k - 1, by omega⟩
    have hlt : i < l.length := by omega
    have h4 : wrap64 ((i : Int) + 1) = ((i + 1 : Nat) : Int) := by rw [wrap_id (by omega) (by omega)]; omega
    simp only [lsa_body.l0, lsa_One_f, lsa_Two_f, Option.bind_some, strOf_append, strOf_size, List.length_append, e1_len, e2_len]
    rw [if_pos (by omega), if_pos (by omega), if_pos (by omega), if_pos (by decide), if_pos (by omega), h4,
      ih k (i + 1) _ (by omega) (by omega) (by simp only [List.length_append, e1_len, e2_len]; omega), dropL_at hlt, List.flatMap_cons]
    simp only [lbytes, List.append_assoc]
theorem lsa_body_f {r s g : Int} {l : List S49} (hn : l.length ≤ 255) {k : Nat} (hk : l.length < k) : lsa_body.f k r s g l = some (strOfNums (bodyB r s l)) := by
  simp only [lsa_body.f, lsa_One_f, lsa_Four_f, Option.bind_some, strOf_append, strOf_size, List.length_append, e1_len, e4_len]
  rw [if_pos (by decide), if_pos (by decide)]
  exact lsa_body_l hn l.length k 0 _ (by omega) hk (by simp only [List.length_append, e1_len, e4_len]; omega)
def fl : Int → Int → List Int → Int
  | a, b, [] => 256 * b + a
  | a, b, x :: l => fl ((a + x) % 255) ((b + (a + x) % 255) % 255) l
theorem fl_range : ∀ (l : List Int) (a b : Int), 0 ≤ a ∧ a < 255 → 0 ≤ b ∧ b < 255 → 0 ≤ fl a b l ∧ fl a b l ≤ 65278
  | [], a, b, ha, hb => by unfold fl; omega
  | x :: l, a, b, ha, hb => by unfold fl; exact fl_range l _ _ (by omega) (by omega)
def flSum (l : List Int) : Int := fl 0 0 l
theorem flSum_range (l : List Int) : 0 ≤ flSum l ∧ flSum l ≤ 65278 := fl_range l 0 0 (by omega) (by omega)
theorem fletch_Sum_l {s : ByteArray} (hs : s.size ≤ 140737488351232) : ∀ (d k i : Nat) (a b : Int), i + d = s.size → d < k → 0 ≤ a ∧ a < 255 → 0 ≤ b ∧ b < 255 →
    fletch_Sum.l0 k s a b (s.size : Int) (i : Int) = some (fl a b ((B s).drop i)) := by
  intro d
  induction d with
  | zero =>
    intro k i a b hi hk ha hb
    obtain ⟨k, rfl⟩ : ∃ m, k = m + 1 := ⟨k - 1, by omega⟩
    simp only [fletch_Sum.l0]
    rw [if_neg (by omega), List.drop_of_length_le (by rw [B_len]; omega), wrap_id (x := 256 * b) (by omega) (by omega), wrap_id (by omega) (by omega)]
    rfl
  | succ d ih =>
    intro k i a b hi hk ha hb
    obtain ⟨k, rfl⟩ : ∃ m, k = m + 1 := ⟨k - 1, by omega⟩
    have hlt : i < (B s).length := by rw [B_len]; omega
    have hd : (B s).drop i = (B s).getD i 0 :: (B s).drop (i + 1) := by
      rw [List.drop_eq_getElem_cons hlt, List.getD_eq_getElem?_getD, List.getElem?_eq_getElem hlt, Option.getD_some]
    have hbt : bt s (i : Int) = (B s).getD i 0 := by rw [bt_B, Int.toNat_natCast]
    have hr := byt_getD (B_byt s) i
    have h4 : wrap64 ((i : Int) + 1) = ((i + 1 : Nat) : Int) := by rw [wrap_id (by omega) (by omega)]; omega
    simp only [fletch_Sum.l0]
    rw [if_pos (by omega), if_pos (by omega), if_pos (by omega), hbt, h4, hd]
    generalize (B s).getD i 0 = x at hr ⊢
    rw [wrap_id (x := x) (by omega) (by omega), wrap_id (x := a + x) (by omega) (by omega), Int.tmod_eq_emod_of_nonneg (a := a + x) (by omega),
      wrap_id (x := b + (a + x) % 255) (by omega) (by omega), Int.tmod_eq_emod_of_nonneg (a := b + (a + x) % 255) (by omega),
      ih k (i + 1) _ _ (by omega) (by omega) (by omega) (by omega)]
    rfl
theorem fletch_Sum_f {s : ByteArray} (hs : s.size ≤ 140737488351232) {k : Nat} (hk : s.size < k) : fletch_Sum.f k s = some (flSum (B s)) :=
  fletch_Sum_l hs s.size k 0 0 0 (by omega) hk (by omega) (by omega)
def putB (r s g : Int) (l : List S49) : List Int := (e1 g ++ bodyB r s l) ++ e2 (flSum (bodyB r s l))
theorem putB_byt (r s g : Int) (l : List S49) : Byt (putB r s g l) := byt_append (byt_append (e1_byt _) (bodyB_byt r s l)) (e2_byt _)
theorem putB_len (r s g : Int) (l : List S49) : (putB r s g l).length = 9 + 3 * l.length := by
  unfold putB; simp only [List.length_append, bodyB_len, e1_len, e2_len]; omega
theorem lsa_Put_f {r s g : Int} {l : List S49} (hn : l.length ≤ 9223372036854775807) {k : Nat} (hk : l.length < k) (h20 : 20 ≤ k) :
    lsa_Put.f k r s g l = some (if LsaOk r s g l then (strOfNums (putB r s g l), 0) else (⟨#[]⟩, 700)) := by
  simp only [lsa_Put.f, lsa_May_f hn hk, Option.bind_some, decide_eq_true_eq]
  by_cases h : LsaOk r s g l
  · have h4 := links_len h.2.2.2.2.2.2
    have hb := bodyB_len r s l
    rw [if_pos h, if_pos h, lsa_body_f (by omega) hk]
    simp only [Option.bind_some, lsa_One_f, lsa_Two_f]
    rw [fletch_Sum_f (by rw [strOf_size]; omega) (by rw [strOf_size]; omega), B_strOf (bodyB_byt r s l)]
    simp only [Option.bind_some, strOf_append, strOf_size, List.length_append, e1_len, e2_len, hb]
    rw [if_pos (by omega), if_pos (by omega)]
    rfl
  · rw [if_neg h, if_neg h]
def parseL : Nat → List Int → List S49
  | 0, _ => []
  | n + 1, b => ⟨b.getD 0 0, num ((b.drop 1).take 2)⟩ :: parseL n (b.drop 3)
theorem parseL_len : ∀ (n : Nat) (b : List Int), (parseL n b).length = n
  | 0, _ => rfl
  | n + 1, b => by unfold parseL; rw [List.length_cons, parseL_len n]
def endL (b : List Int) (sz : Nat) (r s g : Int) (l : List S49) : Option (Int × Int × Int × List S49 × Nat) :=
  if LsaOk r s g l ∧ putB r s g l = b.take sz then some (r, s, g, l, sz) else none
def getLsa (b : List Int) : Option (Int × Int × Int × List S49 × Nat) :=
  if b.length < 7 then none else
  if b.length < 9 + 3 * (b.getD 6 0).toNat then none else
  endL b (9 + 3 * (b.getD 6 0).toNat) (b.getD 1 0) (num ((b.drop 2).take 4)) (b.getD 0 0) (parseL (b.getD 6 0).toNat (b.drop 7))
def tellL (at_ : Int) : Option (Int × Int × Int × List S49 × Nat) → Int × Int × Int × List S49 × Int × Int
  | some (r, s, g, l, sz) => (r, s, g, l, at_ + (sz : Int), 0)
  | none => (0, 0, 0, [], 0, 700)
theorem lgetD_drop (b : List Int) (i j : Nat) : (b.drop i).getD j 0 = b.getD (i + j) 0 := by
  rw [List.getD_eq_getElem?_getD, List.getD_eq_getElem?_getD, List.getElem?_drop]
theorem B_tail (x : ByteArray) (p : Nat) : B (x.extract p x.size) = (B x).drop p := by
  rw [B_extract, List.take_of_length_le]
  rw [List.length_drop, B_len]; exact Nat.le_refl _
theorem size_tail (x : ByteArray) (p : Nat) : (x.extract p x.size).size = x.size - p := by
  rw [ByteArray.size_extract, Nat.min_self]
theorem lsa_Number_at (x : ByteArray) (p a b : Nat) (hab : b - a ≤ 7) {k : Nat} (hk : 8 ≤ k) : lsa_Number.f k ((x.extract p x.size).extract a b) = some (num ((((B x).drop p).drop a).take (b - a))) := by
  have e : B ((x.extract p x.size).extract a b) = (((B x).drop p).drop a).take (b - a) := by rw [B_extract, B_tail]
  have hs : ((x.extract p x.size).extract a b).size ≤ 7 := by rw [← B_len, e, List.length_take]; exact Nat.le_trans (Nat.min_le_left _ _) hab
  rw [lsa_Number_f hs hk, e]
theorem bt_tail (x : ByteArray) (p j : Nat) : bt (x.extract p x.size) (j : Int) = ((B x).drop p).getD j 0 := by
  rw [bt_B, B_tail, Int.toNat_natCast]
theorem wrap_bt (x : ByteArray) (p j : Nat) : wrap64 (bt (x.extract p x.size) (j : Int)) = ((B x).drop p).getD j 0 := by
  have h := byt_getD (byt_drop p (B_byt x)) j
  rw [bt_tail]; exact wrap_id (by omega) (by omega)
theorem wrap_bt0 (x : ByteArray) (p : Nat) : wrap64 (bt (x.extract p x.size) 0) = ((B x).drop p).getD 0 0 := wrap_bt x p 0
theorem tail_bounds {z p : Nat} (h : p + 3 ≤ z) : (p : Int) ≤ (z : Int) ∧ 0 < ((z - p : Nat) : Int) ∧ 3 ≤ ((z - p : Nat) : Int) := by omega
theorem link_in {sz n i z : Nat} (hsz : sz = 9 + 3 * n) (hx : sz ≤ z) (hi : i < n) : 7 + 3 * i + 3 ≤ z := by omega
theorem wrap_3 {i : Nat} (h : i ≤ 255) : wrap64 (3 * (i : Int)) = 3 * (i : Int) := wrap_id (by omega) (by omega)
theorem wrap_7 {i : Nat} (h : i ≤ 255) : wrap64 (7 + 3 * (i : Int)) = ((7 + 3 * i : Nat) : Int) := by rw [wrap_id (by omega) (by omega)]; omega
theorem wrap_1 {i : Nat} (h : i ≤ 255) : wrap64 ((i : Int) + 1) = ((i + 1 : Nat) : Int) := by rw [wrap_id (by omega) (by omega)]; omega
set_option maxHeartbeats 2000000 in
theorem lsa_Get_l {x : ByteArray} (hs : x.size ≤ 281474976710656) {at_ : Int} (ha0 : 0 ≤ at_) (ha1 : at_ ≤ 281474976710656) {r s g : Int} {n sz : Nat} (hn : n ≤ 255) (hsz : sz = 9 + 3 * n) (hx : sz ≤ x.size) : ∀ (d k i : Nat) (acc : List S49), acc.length = i → i + d = n → d + 300 ≤ k →
    lsa_Get.l0 k at_ x (sz : Int) (n : Int) (i : Int) r s g acc = some (tellL at_ (endL (B x) sz r s g (acc ++ parseL d ((B x).drop (7 + 3 * i))))) := by
  intro d
  induction d with
  | zero =>
    intro k i acc ha hi hk
    obtain ⟨k, rfl⟩ : ∃ m, k = m + 1 := ⟨k - 1, by omega⟩
    simp only [lsa_Get.l0]
    rw [if_neg (by omega), lsa_Put_f (by omega) (by omega) (by omega), Option.bind_some]
    have he : acc ++ parseL 0 ((B x).drop (7 + 3 * i)) = acc := by unfold parseL; simp
    rw [he]
    unfold endL
    by_cases h : LsaOk r s g acc
    · rw [if_pos h, if_pos rfl, if_pos (by omega), if_pos (by omega), Int.toNat_natCast]
      have hB : B (x.extract 0 sz) = (B x).take sz := by rw [B_extract, List.drop_zero, Nat.sub_zero]
      by_cases h2 : putB r s g acc = (B x).take sz
      · rw [if_pos (by rw [toList_iff, B_strOf (putB_byt _ _ _ _), hB]; exact h2), if_pos ⟨h, h2⟩, wrap_id (by omega) (by omega)]
        rfl
      · rw [if_neg (by rw [toList_iff, B_strOf (putB_byt _ _ _ _), hB]; exact h2), if_neg (fun hh => h2 hh.2)]
        rfl
    · rw [if_neg h, if_neg (by decide), if_neg (fun hh => h hh.1)]
      rfl
  | succ d ih =>
    intro k i acc ha hi hk
    obtain ⟨k, rfl⟩ : ∃ m, k = m + 1 := ⟨k - 1, by omega⟩
    have hlt : i < n := by omega
    have hp : parseL (d + 1) ((B x).drop (7 + 3 * i)) = (⟨((B x).drop (7 + 3 * i)).getD 0 0, num ((((B x).drop (7 + 3 * i)).drop 1).take 2)⟩ : S49) :: parseL d ((B x).drop (7 + 3 * (i + 1))) := by
      have h0 : ((B x).drop (7 + 3 * i)).drop 3 = (B x).drop (7 + 3 * (i + 1)) := by rw [List.drop_drop]; congr 1
      conv => lhs; unfold parseL
      rw [h0]
    obtain ⟨c1, c2, c3⟩ := tail_bounds (z := x.size) (p := 7 + 3 * i) (link_in hsz hx hlt)
    have hr := ih k (i + 1) (acc ++ [(⟨((B x).drop (7 + 3 * i)).getD 0 0, num ((((B x).drop (7 + 3 * i)).drop 1).take 2)⟩ : S49)]) (by simp only [List.length_append, List.length_singleton]; omega) (by omega) (by omega)
    have hk8 : 8 ≤ k := by omega
    have ha2 : acc.length < 8796093022208 := by omega
    have w3 := wrap_3 (show i ≤ 255 by omega)
    have w7 := wrap_7 (show i ≤ 255 by omega)
    have w1 := wrap_1 (show i ≤ 255 by omega)
    clear ih ha hi hk hsz hs ha0 ha1
    simp only [lsa_Get.l0, w3, w7, w1, Int.toNat_natCast, size_tail]
    rw [if_pos (Int.ofNat_lt.mpr hlt), if_pos (Int.natCast_nonneg _), if_pos c1, if_pos c2, if_pos (by decide), if_pos c3, lsa_Number_at x (7 + 3 * i) 1 3 (by decide) hk8, Option.bind_some, wrap_bt0 x (7 + 3 * i), if_pos ha2, hr, hp, List.append_assoc]
    rfl
set_option maxHeartbeats 2000000 in
theorem lsa_Get_f {a : ByteArray} (hs : a.size ≤ 281474976710656) {at_ : Int} (hw : -9223372036854775808 ≤ at_ ∧ at_ ≤ 9223372036854775807) {k : Nat} (hk : 600 ≤ k) :
    lsa_Get.f k a at_ = some (tellL at_ (if 0 ≤ at_ then getLsa ((B a).drop at_.toNat) else none)) := by
  obtain ⟨k, rfl⟩ : ∃ m, k = m + 1 := ⟨k - 1, by omega⟩
  have hl := B_len a
  unfold lsa_Get.f
  by_cases c0 : at_ < 0
  · rw [if_pos c0, if_neg (by omega)]
    simp only [lsa_Get.j0, if_true]; rfl
  rw [if_neg c0, if_pos (show 0 ≤ at_ by omega)]
  obtain ⟨p, rfl⟩ : ∃ p : Nat, at_ = (p : Int) := ⟨at_.toNat, by omega⟩
  rw [Int.toNat_natCast]
  have hld : ((B a).drop p).length = a.size - p := by rw [List.length_drop, hl]
  by_cases c1 : (p : Int) > (a.size : Int)
  · rw [if_pos c1]
    simp only [lsa_Get.j0, if_true]
    unfold getLsa
    rw [if_pos (by omega)]; rfl
  rw [if_neg c1, wrap_id (x := (a.size : Int) - (p : Int)) (by omega) (by omega)]
  by_cases c2 : (a.size : Int) - (p : Int) < 7
  · rw [decide_eq_true c2]
    simp only [lsa_Get.j0, if_true]
    unfold getLsa
    rw [if_pos (by omega)]; rfl
  rw [decide_eq_false c2]
  have hby : Byt ((B a).drop p) := byt_drop p (B_byt a)
  have hr6 := byt_getD hby 6
  simp only [lsa_Get.j0, Int.toNat_natCast, Bool.false_eq_true, if_false, size_tail]
  rw [if_pos (by omega), if_pos (by omega), if_pos (by omega), if_pos (by omega), if_pos (by decide), if_pos (by omega), lsa_Number_at a p 2 6 (by omega) (show 8 ≤ k by omega), Option.bind_some, if_pos (by omega), wrap_bt0 a p, show wrap64 (bt (a.extract p a.size) 1) = _ from wrap_bt a p 1, show wrap64 (bt (a.extract p a.size) 6) = _ from wrap_bt a p 6]
  unfold getLsa
  rw [hld]
  generalize hn : ((B a).drop p).getD 6 0 = n at hr6 ⊢
  obtain ⟨n, rfl⟩ : ∃ m : Nat, n = (m : Int) := ⟨n.toNat, by omega⟩
  clear hn
  rw [wrap_id (x := 3 * (n : Int)) (by omega) (by omega), wrap_id (x := 7 + 3 * (n : Int)) (by omega) (by omega), wrap_id (x := 7 + 3 * (n : Int) + 2) (by omega) (by omega), Int.toNat_natCast]
  by_cases c3 : 7 + 3 * (n : Int) + 2 > ((a.size - p : Nat) : Int)
  · rw [if_pos c3, if_neg (by omega), if_pos (by omega)]; rfl
  rw [if_neg c3, if_neg (by omega), if_neg (by omega)]
  have hz : 7 + 3 * (n : Int) + 2 = ((9 + 3 * n : Nat) : Int) := by omega
  have := lsa_Get_l (x := a.extract p a.size) (by rw [size_tail]; omega) (show 0 ≤ (p : Int) by omega) (by omega) (r := ((B a).drop p).getD 1 0) (s := num ((((B a).drop p).drop 2).take 4)) (g := ((B a).drop p).getD 0 0) (n := n) (sz := 9 + 3 * n) (by omega) rfl (by rw [size_tail]; omega) n k 0 [] rfl (by omega) (by omega)
  rw [hz]
  refine Eq.trans this ?_
  rw [B_tail]
  rfl
theorem parse_links : ∀ (l : List S49) (r : List Int), (∀ x ∈ l, 1 ≤ x.f0 ∧ x.f0 ≤ 4 ∧ 1 ≤ x.f1 ∧ x.f1 ≤ 65535) → parseL l.length (l.flatMap lbytes ++ r) = l
  | [], r, _ => rfl
  | x :: l, r, h => by
    have hx := h x (by simp)
    rw [List.flatMap_cons, List.length_cons, List.append_assoc]
    unfold parseL
    have a0 : (lbytes x ++ (l.flatMap lbytes ++ r)).getD 0 0 = x.f0 := by simp [lbytes, e1]; omega
    have a1 : ((lbytes x ++ (l.flatMap lbytes ++ r)).drop 1).take 2 = e2 x.f1 := by simp [lbytes, e1, e2]
    rw [a0, a1, num_e2 (by omega) (by omega), ← lbytes_len x, List.drop_left, parse_links l r (fun y hy => h y (by simp [hy]))]
theorem get_put {r s g : Int} {l : List S49} (h : LsaOk r s g l) (rest : List Int) : getLsa (putB r s g l ++ rest) = some (r, s, g, l, 9 + 3 * l.length) := by
  obtain ⟨h1, h2, h3, h4, h5, h6, h7⟩ := h
  have hl := links_len h7
  have hlen := putB_len r s g l
  have hbn : (bodyB r s l).length = 6 + 3 * l.length := bodyB_len r s l
  have hform : putB r s g l ++ rest = (g % 256) :: (r % 256) :: (s / 16777216 % 256) :: (s / 65536 % 256) :: (s / 256 % 256) :: (s % 256) :: ((l.length : Int) % 256) :: (l.flatMap lbytes ++ (e2 (flSum (bodyB r s l)) ++ rest)) := by
    unfold putB
    conv => lhs; rw [show bodyB r s l = ((e1 r ++ e4 s) ++ e1 (l.length : Int)) ++ l.flatMap lbytes from rfl]
    simp [e1, e4, bodyB]
  have g0 : (putB r s g l ++ rest).getD 0 0 = g := by rw [hform]; show g % 256 = g; omega
  have g1 : (putB r s g l ++ rest).getD 1 0 = r := by rw [hform]; show r % 256 = r; omega
  have g6 : (putB r s g l ++ rest).getD 6 0 = (l.length : Int) := by rw [hform]; show (l.length : Int) % 256 = _; omega
  have g2 : ((putB r s g l ++ rest).drop 2).take 4 = e4 s := by rw [hform]; rfl
  have g7 : (putB r s g l ++ rest).drop 7 = l.flatMap lbytes ++ (e2 (flSum (bodyB r s l)) ++ rest) := by rw [hform]; rfl
  unfold getLsa
  rw [if_neg (by rw [List.length_append]; omega), g6, Int.toNat_natCast, if_neg (by rw [List.length_append]; omega), g0, g1, g2, g7, num_e4 (by omega) (by omega),
    parse_links l _ (fun x hx => by have := links_range l 0 h7 x hx; exact ⟨this.1, this.2.1, this.2.2.2.1, this.2.2.2.2⟩)]
  unfold endL
  rw [if_pos ⟨⟨h1, h2, h3, h4, h5, h6, h7⟩, by rw [← hlen, List.take_left]⟩]
theorem get_some {b : List Int} {r s g : Int} {l : List S49} {sz : Nat} (h : getLsa b = some (r, s, g, l, sz)) : LsaOk r s g l ∧ putB r s g l = b.take sz ∧ sz ≤ b.length ∧ sz = 9 + 3 * l.length := by
  unfold getLsa at h
  by_cases c0 : b.length < 7
  · rw [if_pos c0] at h; cases h
  rw [if_neg c0] at h
  by_cases c1 : b.length < 9 + 3 * (b.getD 6 0).toNat
  · rw [if_pos c1] at h; cases h
  rw [if_neg c1] at h
  unfold endL at h
  split at h
  · rename_i hc
    simp only [Option.some.injEq, Prod.mk.injEq] at h
    obtain ⟨rfl, rfl, rfl, rfl, rfl⟩ := h
    exact ⟨hc.1, hc.2, by omega, by rw [parseL_len]⟩
  · cases h
theorem SameL_l {l m : List S49} (hn : l.length ≤ 9223372036854775807) (he : l.length = m.length) : ∀ (d k i : Nat), i + d = l.length → d < k →
    watchwordlaw0_SameLinks.l0 k l m (i : Int) = some (decide (l.drop i = m.drop i)) := by
  intro d
  induction d with
  | zero =>
    intro k i hi hk
    obtain ⟨k, rfl⟩ : ∃ m, k = m + 1 := ⟨k - 1, by omega⟩
    simp only [watchwordlaw0_SameLinks.l0]
    rw [if_neg (by omega), List.drop_of_length_le (by omega), List.drop_of_length_le (by omega)]
    simp
  | succ d ih =>
    intro k i hi hk
    obtain ⟨k, rfl⟩ : ∃ m, k = m + 1 := ⟨k - 1, by omega⟩
    have h4 : wrap64 ((i : Int) + 1) = ((i + 1 : Nat) : Int) := by rw [wrap_id (by omega) (by omega)]; omega
    simp only [watchwordlaw0_SameLinks.l0]
    rw [if_pos (by omega), if_pos (by omega), if_pos (by omega), h4, ih k (i + 1) (by omega) (by omega), dropL_at (l := l) (i := i) (by omega), dropL_at (l := m) (i := i) (by omega)]
    generalize rd_T49 l (i : Int) = x
    generalize rd_T49 m (i : Int) = y
    have hx : (!(x.f0 == y.f0) || (!(x.f1 == y.f1))) = !decide (x = y) := by
      cases x; cases y
      rw [Bool.eq_iff_iff]
      simp
    rw [hx]
    by_cases hc : x = y
    · rw [hc]; simp
    · simp [hc]
theorem SameL_f {l m : List S49} (hn : l.length ≤ 9223372036854775807) {k : Nat} (hk : l.length < k) : watchwordlaw0_SameLinks.f k l m = some (decide (l = m)) := by
  unfold watchwordlaw0_SameLinks.f
  by_cases h : l.length = m.length
  · rw [if_pos (by omega)]
    have := SameL_l hn h l.length k 0 (by omega) hk
    rw [List.drop_zero, List.drop_zero] at this
    exact this
  · rw [if_neg (by omega), decide_eq_false (fun e => h (by rw [e]))]
theorem SameLsa_f {r s g r' s' g' : Int} {l m : List S49} (hn : l.length ≤ 9223372036854775807) {k : Nat} (hk : l.length < k) :
    watchwordlaw0_SameLsa.f k r s g l r' s' g' m = some (decide (r = r' ∧ s = s' ∧ g = g' ∧ l = m)) := by
  unfold watchwordlaw0_SameLsa.f
  rw [SameL_f hn hk]
  by_cases h1 : r = r'
  · by_cases h2 : s = s'
    · by_cases h3 : g = g'
      · rw [if_pos h1, if_pos h2, if_pos h3]; simp [h1, h2, h3]
      · rw [if_pos h1, if_pos h2, if_neg h3]; simp [h3]
    · rw [if_pos h1, if_neg h2]; simp [h2]
  · rw [if_neg h1]; simp [h1]
/-! ### lsa.Head -/
theorem lsa_Head_f {r s g : Int} {l : List S49} (hn : l.length ≤ 9223372036854775807) {k : Nat} (hk : l.length < k) (h20 : 20 ≤ k) :
    lsa_Head.f k r s g l = some (if LsaOk r s g l then (r, s, g, flSum (bodyB r s l), 0) else (0, 0, 0, 0, 700)) := by
  simp only [lsa_Head.f, lsa_May_f hn hk, Option.bind_some, decide_eq_true_eq]
  by_cases h : LsaOk r s g l
  · have h4 := links_len h.2.2.2.2.2.2
    have hb := bodyB_len r s l
    rw [if_pos h, if_pos h, lsa_body_f (by omega) hk]
    simp only [Option.bind_some]
    rw [fletch_Sum_f (by rw [strOf_size]; omega) (by rw [strOf_size]; omega), B_strOf (bodyB_byt r s l)]
    rfl
  · rw [if_neg h, if_neg h]
/-- The layer is awake. -/
theorem awake_ok {k : Nat} (hk : 700 ≤ k) : watchwordlaw7_awake.f k = some true :=
  at_rounds (g := fun k => watchwordlaw7_awake.f k) watchwordlaw7_awake.mono hk (by decide +kernel)

end Go.Proofs.Ytmcajcomoegkdaa.L7
