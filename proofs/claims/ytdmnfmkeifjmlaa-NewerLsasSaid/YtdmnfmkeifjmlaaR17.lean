/- What the document's own function HeadOf comes to, in plain lists. -/
import Derived.Test.YtdmnfmkeifjmlaaQ17x127
import Derived.Test.YtdmnfmkeifjmlaaBase
namespace Go.Proofs.Ytdmnfmkeifjmlaa.R17
open Go.RowKit Go.Proofs.YtdmnfmkeifjmlaaW.PrintWords Go.Proofs.YtdmnfmkeifjmlaaW.PrintLast Go.Proofs.YtdmnfmkeifjmlaaW.PrintMore Go.Proofs.Ytdmnfmkeifjmlaa.Base Go.Proofs.Ytdmnfmkeifjmlaa.Q17
set_option linter.unusedVariables false
set_option linter.unusedSimpArgs false
/-! ### the reference: Num, Of -/
theorem ref_Num1 {k : Nat} (hk : 3 ≤ k) (x : Int) : watchwordref1_Num.f k x 1 = some (strOfNums (e1 x)) := by
  obtain ⟨k, rfl⟩ : ∃ m, k = m + 3 := ⟨k - 3, by omega⟩
  simp [watchwordref1_Num.f, watchwordref1_Num.l0, wrap64, shr, IntKind.bits, e1]
theorem ref_Num2 {k : Nat} (hk : 5 ≤ k) (x : Int) : watchwordref1_Num.f k x 2 = some (strOfNums (e2 x)) := by
  obtain ⟨k, rfl⟩ : ∃ m, k = m + 5 := ⟨k - 5, by omega⟩
  simp [watchwordref1_Num.f, watchwordref1_Num.l0, wrap64, shr, IntKind.bits, e2]
theorem ref_Num4 {k : Nat} (hk : 7 ≤ k) (x : Int) : watchwordref1_Num.f k x 4 = some (strOfNums (e4 x)) := by
  obtain ⟨k, rfl⟩ : ∃ m, k = m + 7 := ⟨k - 7, by omega⟩
  simp [watchwordref1_Num.f, watchwordref1_Num.l0, wrap64, shr, IntKind.bits, e4]
/-! ### lsa: Links, May, body, Put, Get, Head (S72: the struct Link) -/
instance : DecidableEq S72 := fun a b => decidable_of_iff (a.f0 = b.f0 ∧ a.f1 = b.f1) (by cases a; cases b; simp)
def LinkOk (rt : Int) (x : S72) : Prop := 1 ≤ x.f0 ∧ x.f0 ≤ 4 ∧ x.f0 ≠ rt ∧ 1 ≤ x.f1 ∧ x.f1 ≤ 65535
instance (rt : Int) (x : S72) : Decidable (LinkOk rt x) := by unfold LinkOk; infer_instance
def links (rt : Int) : Int → List S72 → Bool
  | _, [] => true
  | p, x :: l => if LinkOk rt x ∧ p < x.f0 then links rt x.f0 l else false
theorem links_short {rt : Int} : ∀ (l : List S72) (p : Int), 0 ≤ p → links rt p l = true → l.length = 0 ∨ (l.length : Int) ≤ 4 - p
  | [], _, _, _ => .inl rfl
  | x :: l, p, h0, h => by
    unfold links at h
    by_cases hc : LinkOk rt x ∧ p < x.f0
    · rw [if_pos hc] at h
      have h4 := hc.1.2.1
      rcases links_short l x.f0 (by omega) h with h1 | h1
      · right; simp only [List.length_cons, h1]; omega
      · right; simp only [List.length_cons]; omega
    · rw [if_neg hc] at h; cases h
theorem links_len {rt : Int} {l : List S72} (h : links rt 0 l = true) : l.length ≤ 4 := by
  rcases links_short l 0 (by omega) h with h1 | h1 <;> omega
theorem links_range {rt : Int} : ∀ (l : List S72) (p : Int), links rt p l = true → ∀ x ∈ l, LinkOk rt x
  | [], _, _, _, hx => by cases hx
  | y :: l, p, h, x, hx => by
    unfold links at h
    by_cases hc : LinkOk rt y ∧ p < y.f0
    · rw [if_pos hc] at h
      rcases List.mem_cons.mp hx with rfl | hx
      · exact hc.1
      · exact links_range l y.f0 h x hx
    · rw [if_neg hc] at h; cases h
theorem rdL_at {l : List S72} {i : Nat} (h : i < l.length) : rd_T72 l (i : Int) = l[i] := by
  unfold rd_T72; rw [Int.toNat_natCast, List.getD_eq_getElem?_getD, List.getElem?_eq_getElem h]; rfl
def prevL (l : List S72) (i : Nat) : Int := if i = 0 then 0 else (rd_T72 l ((i : Int) - 1)).f0
theorem prevL_succ (l : List S72) (i : Nat) : prevL l (i + 1) = (rd_T72 l (i : Int)).f0 := by
  unfold prevL; rw [if_neg (by omega)]
  have : ((i + 1 : Nat) : Int) - 1 = (i : Int) := by omega
  rw [this]
theorem dropL_at {l : List S72} {i : Nat} (h : i < l.length) : l.drop i = rd_T72 l (i : Int) :: l.drop (i + 1) := by
  rw [List.drop_eq_getElem_cons h, rdL_at h]
def LsaOk (r s g : Int) (l : List S72) : Prop := 1 ≤ r ∧ r ≤ 4 ∧ 1 ≤ s ∧ s ≤ 2147483647 ∧ 0 ≤ g ∧ g ≤ 60 ∧ links r 0 l = true
instance (r s g : Int) (l : List S72) : Decidable (LsaOk r s g l) := by unfold LsaOk; infer_instance
def lbytes (x : S72) : List Int := e1 x.f0 ++ e2 x.f1
theorem lbytes_byt (x : S72) : Byt (lbytes x) := byt_append (e1_byt _) (e2_byt _)
theorem lbytes_len (x : S72) : (lbytes x).length = 3 := rfl
theorem lflat_byt (l : List S72) : Byt (l.flatMap lbytes) := by
  intro y hy
  obtain ⟨x, _, hx⟩ := List.mem_flatMap.mp hy
  exact lbytes_byt x y hx
theorem lflat_len (l : List S72) : (l.flatMap lbytes).length = 3 * l.length := by
  induction l with
  | nil => rfl
  | cons x l ih => rw [List.flatMap_cons, List.length_append, ih, lbytes_len, List.length_cons]; omega
def bodyB (r s : Int) (l : List S72) : List Int := ((e1 r ++ e4 s) ++ e1 (l.length : Int)) ++ l.flatMap lbytes
theorem bodyB_byt (r s : Int) (l : List S72) : Byt (bodyB r s l) := byt_append (byt_append (byt_append (e1_byt _) (e4_byt _)) (e1_byt _)) (lflat_byt l)
theorem bodyB_len (r s : Int) (l : List S72) : (bodyB r s l).length = 6 + 3 * l.length := by
  unfold bodyB; simp only [List.length_append, lflat_len, e1_len, e4_len]
def fl : Int → Int → List Int → Int
  | a, b, [] => 256 * b + a
  | a, b, x :: l => fl ((a + x) % 255) ((b + (a + x) % 255) % 255) l
theorem fl_range : ∀ (l : List Int) (a b : Int), 0 ≤ a ∧ a < 255 → 0 ≤ b ∧ b < 255 → 0 ≤ fl a b l ∧ fl a b l ≤ 65278
  | [], a, b, ha, hb => by unfold fl; omega
  | x :: l, a, b, ha, hb => by unfold fl; exact fl_range l _ _ (by omega) (by omega)
def flSum (l : List Int) : Int := fl 0 0 l
theorem flSum_range (l : List Int) : 0 ≤ flSum l ∧ flSum l ≤ 65278 := fl_range l 0 0 (by omega) (by omega)
def putB (r s g : Int) (l : List S72) : List Int := (e1 g ++ bodyB r s l) ++ e2 (flSum (bodyB r s l))
theorem putB_byt (r s g : Int) (l : List S72) : Byt (putB r s g l) := byt_append (byt_append (e1_byt _) (bodyB_byt r s l)) (e2_byt _)
theorem putB_len (r s g : Int) (l : List S72) : (putB r s g l).length = 9 + 3 * l.length := by
  unfold putB; simp only [List.length_append, bodyB_len, e1_len, e2_len]; omega
def parseL : Nat → List Int → List S72
  | 0, _ => []
  | n + 1, b => ⟨b.getD 0 0, num ((b.drop 1).take 2)⟩ :: parseL n (b.drop 3)
theorem parseL_len : ∀ (n : Nat) (b : List Int), (parseL n b).length = n
  | 0, _ => rfl
  | n + 1, b => by unfold parseL; rw [List.length_cons, parseL_len n]
def endL (b : List Int) (sz : Nat) (r s g : Int) (l : List S72) : Option (Int × Int × Int × List S72 × Nat) :=
  if LsaOk r s g l ∧ putB r s g l = b.take sz then some (r, s, g, l, sz) else none
def getLsa (b : List Int) : Option (Int × Int × Int × List S72 × Nat) :=
  if b.length < 7 then none else
  if b.length < 9 + 3 * (b.getD 6 0).toNat then none else
  endL b (9 + 3 * (b.getD 6 0).toNat) (b.getD 1 0) (num ((b.drop 2).take 4)) (b.getD 0 0) (parseL (b.getD 6 0).toNat (b.drop 7))
def tellL (at_ : Int) : Option (Int × Int × Int × List S72 × Nat) → Int × Int × Int × List S72 × Int × Int
  | some (r, s, g, l, sz) => (r, s, g, l, at_ + (sz : Int), 0)
  | none => (0, 0, 0, [], 0, 700)
theorem lgetD_drop (b : List Int) (i j : Nat) : (b.drop i).getD j 0 = b.getD (i + j) 0 := by
  rw [List.getD_eq_getElem?_getD, List.getD_eq_getElem?_getD, List.getElem?_drop]
theorem B_tail (x : ByteArray) (p : Nat) : B (x.extract p x.size) = (B x).drop p := by
  rw [B_extract, List.take_of_length_le]
  rw [List.length_drop, B_len]; exact Nat.le_refl _
theorem size_tail (x : ByteArray) (p : Nat) : (x.extract p x.size).size = x.size - p := by
  rw [ByteArray.size_extract, Nat.min_self]
theorem bt_tail (x : ByteArray) (p j : Nat) : bt (x.extract p x.size) (j : Int) = ((B x).drop p).getD j 0 := by
  rw [bt_B, B_tail, Int.toNat_natCast]
theorem wrap_bt (x : ByteArray) (p j : Nat) : wrap64 (bt (x.extract p x.size) (j : Int)) = ((B x).drop p).getD j 0 := by
  have h := byt_getD (byt_drop p (B_byt x)) j
  rw [bt_tail]; exact wrap_id (by omega) (by omega)
theorem wrap_bt0 (x : ByteArray) (p : Nat) : wrap64 (bt (x.extract p x.size) 0) = ((B x).drop p).getD 0 0 := wrap_bt x p 0
theorem tail_bounds {z p : Nat} (h : p + 3 ≤ z) : (p : Int) ≤ (z : Int) ∧ 0 < ((z - p : Nat) : Int) ∧ 3 ≤ ((z - p : Nat) : Int) := by omega
theorem link_in {sz n i z : Nat} (hsz : sz = 9 + 3 * n) (hx : sz ≤ z) (hi : i < n) : 7 + 3 * i + 3 ≤ z := by omega
theorem wrap_3 {i : Nat} (h : i ≤ 255) : wrap64 (3 * (i : Int)) = 3 * (i : Int) := wrap_id (by omega) (by omega)
theorem wrap_7 {i : Nat} (h : i ≤ 255) : wrap64 (7 + 3 * (i : Int)) = ((7 + 3 * i : Nat) : Int) := by rw [wrap_id (by omega) (by omega)]; omega
theorem wrap_1 {i : Nat} (h : i ≤ 255) : wrap64 ((i : Int) + 1) = ((i + 1 : Nat) : Int) := by rw [wrap_id (by omega) (by omega)]; omega
theorem parse_links : ∀ (l : List S72) (r : List Int), (∀ x ∈ l, 1 ≤ x.f0 ∧ x.f0 ≤ 4 ∧ 1 ≤ x.f1 ∧ x.f1 ≤ 65535) → parseL l.length (l.flatMap lbytes ++ r) = l
  | [], r, _ => rfl
  | x :: l, r, h => by
    have hx := h x (by simp)
    rw [List.flatMap_cons, List.length_cons, List.append_assoc]
    unfold parseL
    have a0 : (lbytes x ++ (l.flatMap lbytes ++ r)).getD 0 0 = x.f0 := by simp [lbytes, e1]; omega
    have a1 : ((lbytes x ++ (l.flatMap lbytes ++ r)).drop 1).take 2 = e2 x.f1 := by simp [lbytes, e1, e2]
    rw [a0, a1, num_e2 (by omega) (by omega), ← lbytes_len x, List.drop_left, parse_links l r (fun y hy => h y (by simp [hy]))]
theorem get_put {r s g : Int} {l : List S72} (h : LsaOk r s g l) (rest : List Int) : getLsa (putB r s g l ++ rest) = some (r, s, g, l, 9 + 3 * l.length) := by
  obtain ⟨h1, h2, h3, h4, h5, h6, h7⟩ := h
  have hl := links_len h7
  have hlen := putB_len r s g l
  have hbn : (bodyB r s l).length = 6 + 3 * l.length := bodyB_len r s l
  have hform : putB r s g l ++ rest = (g % 256) :: (r % 256) :: (s / 16777216 % 256) :: (s / 65536 % 256) :: (s / 256 % 256) :: (s % 256) :: ((l.length : Int) % 256) :: (l.flatMap lbytes ++ (e2 (flSum (bodyB r s l)) ++ rest)) := by
    unfold putB
    conv => lhs; rw [show bodyB r s l = ((e1 r ++ e4 s) ++ e1 (l.length : Int)) ++ l.flatMap lbytes from rfl]
    simp [e1, e4, bodyB]
  have g0 : (putB r s g l ++ rest).getD 0 0 = g := by rw [hform]; show g % 256 = g; omega
  have g1 : (putB r s g l ++ rest).getD 1 0 = r := by rw [hform]; show r % 256 = r; omega
  have g6 : (putB r s g l ++ rest).getD 6 0 = (l.length : Int) := by rw [hform]; show (l.length : Int) % 256 = _; omega
  have g2 : ((putB r s g l ++ rest).drop 2).take 4 = e4 s := by rw [hform]; rfl
  have g7 : (putB r s g l ++ rest).drop 7 = l.flatMap lbytes ++ (e2 (flSum (bodyB r s l)) ++ rest) := by rw [hform]; rfl
  unfold getLsa
  rw [if_neg (by rw [List.length_append]; omega), g6, Int.toNat_natCast, if_neg (by rw [List.length_append]; omega), g0, g1, g2, g7, num_e4 (by omega) (by omega),
    parse_links l _ (fun x hx => by have := links_range l 0 h7 x hx; exact ⟨this.1, this.2.1, this.2.2.2.1, this.2.2.2.2⟩)]
  unfold endL
  rw [if_pos ⟨⟨h1, h2, h3, h4, h5, h6, h7⟩, by rw [← hlen, List.take_left]⟩]
theorem get_some {b : List Int} {r s g : Int} {l : List S72} {sz : Nat} (h : getLsa b = some (r, s, g, l, sz)) : LsaOk r s g l ∧ putB r s g l = b.take sz ∧ sz ≤ b.length ∧ sz = 9 + 3 * l.length := by
  unfold getLsa at h
  by_cases c0 : b.length < 7
  · rw [if_pos c0] at h; cases h
  rw [if_neg c0] at h
  by_cases c1 : b.length < 9 + 3 * (b.getD 6 0).toNat
  · rw [if_pos c1] at h; cases h
  rw [if_neg c1] at h
  unfold endL at h
  split at h
  · rename_i hc
    simp only [Option.some.injEq, Prod.mk.injEq] at h
    obtain ⟨rfl, rfl, rfl, rfl, rfl⟩ := h
    exact ⟨hc.1, hc.2, by omega, by rw [parseL_len]⟩
  · cases h
/-! ### the document's own: LinksMay, LsaMay, bytes, Fletch, PutLsa, GetLsa, HeadOf -/
theorem ref_upTo (x a b : Int) : watchwordref1_upTo.f x a b = some (decide (a ≤ x ∧ x ≤ b)) := by
  unfold watchwordref1_upTo.f
  by_cases h : x ≥ a
  · rw [if_pos h]; simp [show a ≤ x from h]
  · rw [if_neg h]; simp [show ¬ a ≤ x from h]
theorem ref_router (x : Int) : watchwordref1_routerMay.f x = some (decide (1 ≤ x ∧ x ≤ 4)) := by
  unfold watchwordref1_routerMay.f; rw [ref_upTo]; rfl
theorem ref_Links_l {l : List S72} {rt : Int} (hn : l.length ≤ 9223372036854775807) : ∀ (d k i : Nat), i + d = l.length → d < k →
    watchwordref1_LinksMay.l0 k rt l (i : Int) = some (links rt (prevL l i) (l.drop i) && decide (l.length ≤ 4)) := by
  intro d
  induction d with
  | zero =>
    intro k i hi hk
    obtain ⟨k, rfl⟩ : ∃ m, k = m + 1 := ⟨k - 1, by omega⟩
    simp only [watchwordref1_LinksMay.l0]
    rw [if_neg (by omega), List.drop_of_length_le (by omega)]
    unfold links
    rw [Bool.true_and]
    congr 1
    rw [Bool.eq_iff_iff, decide_eq_true_eq, decide_eq_true_eq]
    omega
  | succ d ih =>
    intro k i hi hk
    obtain ⟨k, rfl⟩ : ∃ m, k = m + 1 := ⟨k - 1, by omega⟩
    have hlt : i < l.length := by omega
    have h4 : wrap64 ((i : Int) + 1) = ((i + 1 : Nat) : Int) := by rw [wrap_id (by omega) (by omega)]; omega
    have h5 : wrap64 ((i : Int) - 1) = (i : Int) - 1 := wrap_id (by omega) (by omega)
    have hr := ih k (i + 1) (by omega) (by omega)
    simp only [watchwordref1_LinksMay.l0, ref_router, ref_upTo, Option.bind_some, decide_eq_true_eq]
    rw [if_pos (by omega), if_pos (by omega), h4, h5, hr, prevL_succ, dropL_at hlt]
    generalize rd_T72 l (i : Int) = x
    by_cases c1 : 1 ≤ x.f0 ∧ x.f0 ≤ 4
    · rw [if_pos c1]
      by_cases c2 : x.f0 = rt
      · rw [if_pos c2]; unfold links; rw [if_neg (fun hh => hh.1.2.2.1 c2)]; rfl
      rw [if_neg c2]
      by_cases c3 : 1 ≤ x.f1 ∧ x.f1 ≤ 65535
      · rw [if_pos c3]
        have hok : LinkOk rt x := ⟨c1.1, c1.2, c2, c3.1, c3.2⟩
        by_cases h0 : (i : Int) > 0
        · rw [if_pos h0, if_pos (by omega), if_pos (by omega)]
          have hp : prevL l i = (rd_T72 l ((i : Int) - 1)).f0 := by unfold prevL; rw [if_neg (by omega)]
          by_cases hg : x.f0 ≤ (rd_T72 l ((i : Int) - 1)).f0
          · rw [if_pos hg]; unfold links; rw [if_neg (by rw [hp]; omega)]; rfl
          · rw [if_neg hg]; conv => rhs; unfold links
            rw [if_pos ⟨hok, by rw [hp]; omega⟩]
        · rw [if_neg h0]
          have hp : prevL l i = 0 := by unfold prevL; rw [if_pos (by omega)]
          conv => rhs; unfold links
          rw [if_pos ⟨hok, by rw [hp]; omega⟩]
      · rw [if_neg c3]; unfold links; rw [if_neg (fun hh => c3 ⟨hh.1.2.2.2.1, hh.1.2.2.2.2⟩)]; rfl
    · rw [if_neg c1]; unfold links; rw [if_neg (fun hh => c1 ⟨hh.1.1, hh.1.2.1⟩)]; rfl
theorem ref_Links_f {l : List S72} {rt : Int} (hn : l.length ≤ 9223372036854775807) {k : Nat} (hk : l.length < k) : watchwordref1_LinksMay.f k rt l = some (links rt 0 l) := by
  have h := ref_Links_l (rt := rt) hn l.length k 0 (by omega) hk
  unfold watchwordref1_LinksMay.f
  rw [show (0 : Int) = ((0 : Nat) : Int) from rfl, h]
  show some (links rt 0 l && decide (l.length ≤ 4)) = some (links rt 0 l)
  by_cases g : links rt 0 l = true
  · rw [g, decide_eq_true (links_len g)]; rfl
  · rw [Bool.eq_false_iff.mpr g]; rfl
theorem ref_May_f {r s g : Int} {l : List S72} (hn : l.length ≤ 9223372036854775807) {k : Nat} (hk : l.length < k) : watchwordref1_LsaMay.f k r s g l = some (decide (LsaOk r s g l)) := by
  simp only [watchwordref1_LsaMay.f, ref_Links_f hn hk, ref_router, ref_upTo, Option.bind_some, decide_eq_true_eq]
  by_cases h1 : 1 ≤ r ∧ r ≤ 4
  · rw [if_pos h1]
    by_cases h2 : 1 ≤ s ∧ s ≤ 2147483647
    · rw [if_pos h2]
      by_cases h3 : 0 ≤ g ∧ g ≤ 60
      · rw [if_pos h3]; unfold LsaOk; simp [h1.1, h1.2, h2.1, h2.2, h3.1, h3.2]
      · rw [if_neg h3, decide_eq_false (fun hh : LsaOk r s g l => h3 ⟨hh.2.2.2.2.1, hh.2.2.2.2.2.1⟩)]
    · rw [if_neg h2, decide_eq_false (fun hh : LsaOk r s g l => h2 ⟨hh.2.2.1, hh.2.2.2.1⟩)]
  · rw [if_neg h1, decide_eq_false (fun hh : LsaOk r s g l => h1 ⟨hh.1, hh.2.1⟩)]
theorem ref_bytes_l {r s g : Int} {l : List S72} (hn : l.length ≤ 255) : ∀ (d k i : Nat) (acc : List Int), i + d = l.length → d + 10 < k → acc.length ≤ 10 + 3 * i →
    watchwordref1_bytes.l0 k (strOfNums acc) (i : Int) r s g l = some (strOfNums (acc ++ (l.drop i).flatMap lbytes)) := by
  intro d
  induction d with
  | zero =>
    intro k i acc hi hk ha
    obtain ⟨k, rfl⟩ : ∃ m, k = m + 1 := ⟨k - 1, by omega⟩
    simp only [watchwordref1_bytes.l0]
    rw [if_neg (by omega), List.drop_of_length_le (by omega)]
    simp
  | succ d ih =>
    intro k i acc hi hk ha
    obtain ⟨k, rfl⟩ : ∃ m, k = m + 1 := ⟨k - 1, by omega⟩
    have hlt : i < l.length := by omega
    have h4 : wrap64 ((i : Int) + 1) = ((i + 1 : Nat) : Int) := by rw [wrap_id (by omega) (by omega)]; omega
    simp only [watchwordref1_bytes.l0]
    rw [ref_Num1 (by omega), ref_Num2 (by omega)]
    simp only [Option.bind_some, strOf_append, strOf_size, List.length_append, e1_len, e2_len]
    rw [if_pos (by omega), if_pos (by omega), if_pos (by omega), if_pos (by omega), h4,
      ih k (i + 1) _ (by omega) (by omega) (by simp only [List.length_append, e1_len, e2_len]; omega), dropL_at hlt, List.flatMap_cons]
    simp only [lbytes, List.append_assoc]
theorem ref_bytes_f {r s g : Int} {l : List S72} (hn : l.length ≤ 255) {k : Nat} (hk : l.length + 10 < k) : watchwordref1_bytes.f k r s g l = some (strOfNums (bodyB r s l)) := by
  unfold watchwordref1_bytes.f
  rw [ref_Num1 (by omega), ref_Num4 (by omega), ref_Num1 (by omega)]
  simp only [Option.bind_some, strOf_append, strOf_size, List.length_append, e1_len, e4_len]
  rw [if_pos (by decide), if_pos (by decide)]
  exact ref_bytes_l hn l.length k 0 _ (by omega) hk (by simp only [List.length_append, e1_len, e4_len]; omega)
theorem ref_Fletch_l {s : ByteArray} (hs : s.size ≤ 140737488351232) : ∀ (d k i : Nat) (a b : Int), i + d = s.size → d < k → 0 ≤ a ∧ a < 255 → 0 ≤ b ∧ b < 255 →
    watchwordref1_Fletch.l0 k s a b (i : Int) = some (fl a b ((B s).drop i)) := by
  intro d
  induction d with
  | zero =>
    intro k i a b hi hk ha hb
    obtain ⟨k, rfl⟩ : ∃ m, k = m + 1 := ⟨k - 1, by omega⟩
    simp only [watchwordref1_Fletch.l0]
    rw [if_neg (by omega), List.drop_of_length_le (by rw [B_len]; omega), wrap_id (x := 256 * b) (by omega) (by omega), wrap_id (by omega) (by omega)]
    rfl
  | succ d ih =>
    intro k i a b hi hk ha hb
    obtain ⟨k, rfl⟩ : ∃ m, k = m + 1 := ⟨k - 1, by omega⟩
    have hlt : i < (B s).length := by rw [B_len]; omega
    have hd : (B s).drop i = (B s).getD i 0 :: (B s).drop (i + 1) := by
      rw [List.drop_eq_getElem_cons hlt, List.getD_eq_getElem?_getD, List.getElem?_eq_getElem hlt, Option.getD_some]
    have hbt : bt s (i : Int) = (B s).getD i 0 := by rw [bt_B, Int.toNat_natCast]
    have hr := byt_getD (B_byt s) i
    have h4 : wrap64 ((i : Int) + 1) = ((i + 1 : Nat) : Int) := by rw [wrap_id (by omega) (by omega)]; omega
    simp only [watchwordref1_Fletch.l0]
    rw [if_pos (by omega), if_pos (by omega), hbt, h4, hd]
    generalize (B s).getD i 0 = x at hr ⊢
    rw [wrap_id (x := x) (by omega) (by omega), wrap_id (x := a + x) (by omega) (by omega), Int.tmod_eq_emod_of_nonneg (a := a + x) (by omega),
      wrap_id (x := b + (a + x) % 255) (by omega) (by omega), Int.tmod_eq_emod_of_nonneg (a := b + (a + x) % 255) (by omega),
      ih k (i + 1) _ _ (by omega) (by omega) (by omega) (by omega)]
    rfl
theorem ref_Fletch_f {s : ByteArray} (hs : s.size ≤ 140737488351232) {k : Nat} (hk : s.size < k) : watchwordref1_Fletch.f k s = some (flSum (B s)) :=
  ref_Fletch_l hs s.size k 0 0 0 (by omega) hk (by omega) (by omega)
theorem ref_Head_f {r s g : Int} {l : List S72} (hn : l.length ≤ 9223372036854775807) {k : Nat} (hk : l.length + 10 < k) (h20 : 30 ≤ k) :
    watchwordref1_HeadOf.f k r s g l = some (if LsaOk r s g l then (r, s, g, flSum (bodyB r s l), 0) else (0, 0, 0, 0, 700)) := by
  simp only [watchwordref1_HeadOf.f, ref_May_f hn (show l.length < k by omega), Option.bind_some, decide_eq_true_eq]
  by_cases h : LsaOk r s g l
  · have h4 := links_len h.2.2.2.2.2.2
    have hb := bodyB_len r s l
    rw [if_pos h, if_pos h, ref_bytes_f (by omega) hk]
    simp only [Option.bind_some]
    rw [ref_Fletch_f (by rw [strOf_size]; omega) (by rw [strOf_size]; omega), B_strOf (bodyB_byt r s l)]
    rfl
  · rw [if_neg h, if_neg h]

end Go.Proofs.Ytdmnfmkeifjmlaa.R17
