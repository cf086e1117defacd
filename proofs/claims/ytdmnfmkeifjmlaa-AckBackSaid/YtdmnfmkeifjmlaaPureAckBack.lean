/- AckBack: for any heads and any text, heads that ack.Put takes come back from ack.Get, and a text that ack.Get takes is what ack.Put makes of its heads; no condition beyond the row's own. -/
import Derived.Test.YtdmnfmkeifjmlaaQ11x7
import Derived.Test.YtdmnfmkeifjmlaaL11
import Derived.Test.YtdmnfmkeifjmlaaO11
namespace Go.Proofs.Ytdmnfmkeifjmlaa.Pure
open Go.RowKit Go.Proofs.YtdmnfmkeifjmlaaW.PrintWords Go.Proofs.YtdmnfmkeifjmlaaW.PrintLast Go.Proofs.YtdmnfmkeifjmlaaW.PrintMore Go.Proofs.Ytdmnfmkeifjmlaa.Base Go.Proofs.Ytdmnfmkeifjmlaa.Q11 Go.Proofs.Ytdmnfmkeifjmlaa.L11 Go.Proofs.Ytdmnfmkeifjmlaa.O11
set_option linter.unusedVariables false

theorem flat_len (l : List S40) : (l.flatMap hbytes).length = 8 * l.length := by
  induction l with
  | nil => rfl
  | cons x l ih => rw [List.flatMap_cons, List.length_append, ih, hbytes_len, List.length_cons]; omega
theorem ackBytes_len (l : List S40) : (ackBytes l).length = 1 + 8 * l.length := by
  unfold ackBytes; rw [List.length_append, e1_len, flat_len]
theorem ab_j0 {k : Nat} (hk : 30 ≤ k) {s : ByteArray} (hs : s.size ≤ 140737488351232) : watchwordlaw11_AckBack.j0 (k + 1) s = some true := by
  simp only [watchwordlaw11_AckBack.j0, ack_Get_f hs hk, watchwordlaw0_Num.f, Option.bind_some]
  by_cases h : (getAck (B s)).2 = 0
  · obtain ⟨h1, h2⟩ := getAck_ok h
    have hl := heads_len h1
    rw [if_pos h, ack_Put_f (by omega) (by omega), if_pos h1, Option.bind_some, if_pos rfl, h2, strOf_B]
    simp
  · rw [if_neg h, getAck_no h]
    rfl
theorem AckBack : ∀ (l0 : List (S40)) (a1 : ByteArray), (l0.length * 32 ≤ 140737488351232 ∧ l0.length ≤ maxLen ∧ ∀ y ∈ l0, R40 y) → a1.size ≤ 140737488351232 → ∃ k, watchwordlaw11_AckBack.f k l0 a1 = some true := by
  intro l s hl hs
  refine ⟨l.length + 101, ?_⟩
  have hn : l.length ≤ 140737488351232 := by omega
  simp only [watchwordlaw11_AckBack.f, awake_ok (show 100 ≤ l.length + 101 by omega), ack_Put_f (show l.length ≤ 9223372036854775807 by omega) (show l.length < l.length + 101 by omega), watchwordlaw0_Num.f, Option.bind_some, if_true, ab_j0 (show 30 ≤ l.length + 100 by omega) hs]
  by_cases h : heads 0 l = true
  · have h4 := heads_len h
    rw [if_pos h, if_pos rfl]
    have hB : B (strOfNums (ackBytes l)) = ackBytes l := B_strOf (ackBytes_byt l)
    rw [ack_Get_f (by rw [strOf_size, ackBytes_len]; omega) (show 30 ≤ l.length + 101 by omega), hB, get_ack h]
    simp only [Option.bind_some, if_true, SameH_f (show l.length ≤ 9223372036854775807 by omega) (show l.length < l.length + 101 by omega), decide_true]
    rw [if_pos (by rw [strOf_size, ackBytes_len, wrap_id (x := 8 * (l.length : Int)) (by omega) (by omega), wrap_id (by omega) (by omega)]; omega)]
  · rw [if_neg h, if_neg (by decide)]

end Go.Proofs.Ytdmnfmkeifjmlaa.Pure
