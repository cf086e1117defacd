/- slices.Insert of one element into a row of the call's own, at elements of 4 cells: what it returns is such a row again. -/
import Derived.Test.YtabjambabnbmnaaQ14x0
import Derived.Lib.Overlaps
import Derived.Lib.AppendZerosOnto
import Derived.Laws.NewBlocks
import Derived.Laws.Externs
import Derived.Lib.JoinLaws
import Derived.Deep.RegionLaw
import Derived.Maps.AppendAt
namespace Go.Proofs.Ytabjambabnbmnaa.Ins24
open Go.RowKit Go.Lib Go.Proofs.YtabjambabnbmnaaW.PrintWords Go.Proofs.YtabjambabnbmnaaW.PrintLast Go.Proofs.YtabjambabnbmnaaW.PrintMore Go.Proofs.Ytabjambabnbmnaa.Q14
set_option linter.unusedVariables false
set_option linter.unusedSimpArgs false

/-- 'copy' into a row that is known whole, at elements of k cells. -/
theorem run_copy_rowK {P : Program} (w : World) (dT sT ty elem : TypeId) (g o dLen dCap : Nat) (a : Addr) (sLen sCap : Nat) (cur : Array Value) (t : TypeId) (cs : List Value) (k m : Nat)
    (hu : P.underlying dT = some (.slice elem)) (hs : (P.info? elem).map (·.size) = some k)
    (hg : w.heap[g]? = some (.cells cur t (0, 0))) (hm : m = Nat.min sLen dLen) (hn : cs.length = m * k)
    (hsrc : ∀ j v, cs[j]? = some v → w.cell? (a.add j) = some v) (hfit : o + cs.length ≤ cur.size) (h1 : ∀ v ∈ cs, v.oneCell' = true) :
    (Builtin.copy_ #[dT, sT] ty #[.slice (some ⟨g, o, none⟩) dLen dCap, .slice (some a) sLen sCap]).run P w =
      .ok (goInt m) (w.setRow g (cur.toList.take o ++ cs ++ cur.toList.drop (o + cs.length)).toArray) := by
  have hl := run_loadCells_list (P := P) w a cs hsrc
  have hst := run_storeCells_at P g o t cs 0 cur w hg (by simpa using hfit) h1
  cases hq : P.info? elem with
  | none => simp [hq] at hs
  | some i =>
    have hi : i.size = k := by simpa [hq] using hs
    subst hm
    simp only [Nat.add_zero] at hst
    simp [Builtin.copy_, run_underlying hu, Builtin.lenOf, Builtin.firstCells, sizeOf, typeInfo, hq, hi, ← hn, hl, hst]
theorem wpList_copy_runI {P : Program} (w : World) {ops : Array Oper} {rest : List Oper} {o : Oper} {a : Act} {Q : Exit → Act → World → Prop} (hgd : o.guard = none) (d s : Operand) (t t' : TypeId)
    (ho : o.op = .call { callee := .builtin .copy, args := #[d, s], argTypes := #[t, t'] }) (v u : Value) (hd : a.eval d = v) (hs : a.eval s = u) {v' : Value} {w' : World}
    (hr : (Builtin.copy_ #[t, t'] o.type #[v, u]).run P w = .ok v' w') (h : wpList P ops Q rest (a.put o.dst v') w') : wpList P ops Q (o :: rest) a w :=
  wpList_plain hgd fun K hK => by
    unfold Oper.wp execOp
    simp only [ho, resolve, invoke, builtin, Sem.run_bind, Sem.run_pure, Result.andThen_ok, List.map_toArray, List.map_cons, List.map_nil, hd, hs, hr]
    exact hK _ _ h
theorem step_copy_runI {P : Program} {ops : Array Oper} {o : Oper} {a : Act} {w : World} {K : Act → World → Prop} {Q : Exit → Act → World → Prop} {E : Prop}
    (hg : o.guard = none) (d x : Operand) (dT sT : TypeId) (hop : o.op = Op.call { callee := Callee.builtin Builtin.copy, args := #[d, x], argTypes := #[dT, sT] })
    (v u : Value) (hd : a.eval d = v) (hx : a.eval x = u) {v' : Value} {w' : World} (hr : (Builtin.copy_ #[dT, sT] o.type #[v, u]).run P w = .ok v' w') (hK : K (a.put o.dst v') w') :
    if Region.wanted o (yielded ops a.tmps) = true then Oper.wp P o a w K Q else E := by
  have hw : Region.wanted o (yielded ops a.tmps) = true := by simp [Region.wanted, hg]
  rw [if_pos hw]
  unfold Oper.wp
  simp [execOp, hop, resolve, invoke, builtin, hd, hx, hr, Result.andThen]
  exact hK

set_option maxHeartbeats 8000000 in
set_option maxRecDepth 100000 in
theorem insert_own (v : Value) (n i vb B : Nat) (xs vs : List Value) (w : World) (hown : w.ownsRow B 24 4 v n xs) (hB : B ≤ w.heap.size) (hi : i ≤ n) (hby : (n + 1) * 32 ≤ 140737488355328)
    (hvs : w.heap[vb]? = some (.cells vs.toArray 24 (0, 0))) (hvl : vs.length = 4) (hvb : some vb ≠ v.ownBlock) (h1 : ∀ u ∈ vs, u.oneCell' = true) (h1x : ∀ u ∈ xs, u.oneCell' = true) :
    Calls Try.prog 45 #[v, .int .i64 i, .slice (some ⟨vb, 0, none⟩) 1 1] w fun e w' => ∃ v', e = .returned v' ∧ w'.ownsRow B 24 4 v' (n + 1) (xs.take (i * 4) ++ vs ++ xs.drop (i * 4)) ∧ w.grownBy w' v.ownBlock ∧ (v'.ownBlock = v.ownBlock ∨ v'.ownBlock = some w.heap.size) := by
  have hvc : ∀ j u, vs[j]? = some u → w.cell? ((⟨vb, 0, none⟩ : Addr).add j) = some u := by
    intro j u hj
    rw [Addr.add_lit, cell_of_row w vb (0 + j) vs.toArray 24 (0, 0) hvs]
    simpa using hj
  obtain ⟨i0, hi0, hz0, hzs, hzb⟩ : ∃ i0, Try.prog.info? 24 = some i0 ∧ i0.zero = some (.agg #[.int .i64 0, .int .i64 0, .int .i64 0, .int .i64 0]) ∧ i0.size = 4 ∧ i0.bytes = 32 := by
    have h := info24
    cases hq : Try.prog.info? 24 with
    | none => rw [hq] at h; cases h
    | some i0 => rw [hq] at h; simp only [Option.map_some, Option.some.injEq, Prod.mk.injEq] at h; exact ⟨i0, rfl, h.1, h.2.1, h.2.2⟩
  have t22 := Try.underlying22
  by_cases hin : i = n
  · subst hin
    have htk : xs.take (i * 4) ++ vs ++ xs.drop (i * 4) = xs ++ vs := by
      rw [List.take_of_length_le (by rw [hown.1]; exact Nat.le_refl _), List.drop_eq_nil_of_le (by rw [hown.1]; exact Nat.le_refl _), List.append_nil]
    rw [htk]
    obtain ⟨HVC⟩ : Aside0 (∀ j u, vs[j]? = some u → w.cell? ((⟨vb, 0, none⟩ : Addr).add j) = some u) := ⟨hvc⟩
    have HO := Aside0.mk hown
    have H1 := Aside0.mk h1
    have HV := Aside0.mk hvc
    clear hown hvc h1x h1 htk hvs hvb HVC
    have hform : (v = .slice none 0 0 ∧ i = 0) ∨ ∃ g cap, v = .slice (some ⟨g, 0, none⟩) i cap ∧ i ≤ cap ∧ cap ≤ maxLen := by
      rcases HO.out.2 with h | ⟨g, cap, cur, rfl, _, _, hc, hm, _⟩
      · exact .inl h
      · exact .inr ⟨g, cap, rfl, hc, hm⟩
    rcases hform with ⟨rfl, rfl⟩ | ⟨g, cap, rfl, hc, hm⟩
    · go_enter Try.func45, Try.ntmps45
      go_wp2_with (at_builtin; refine wpList_append_own_at _ rfl _ _ 22 rfl B 24 i0 (.agg #[.int .i64 0, .int .i64 0, .int .i64 0, .int .i64 0]) 4 32 t22 hi0 hz0 hzs hzb rfl (by decide) _ _ xs rfl HO.out ⟨vb, 0, none⟩ 1 1 vs rfl (by rw [hvl]) HV.out H1.out (by simp only [maxLen]; omega) (by omega) hB ?_; intro v' w1 hown' hgrow hnil hat)
      go_ret
      exact ⟨v', rfl, hown', hgrow, hat⟩
    · go_enter Try.func45, Try.ntmps45
      simp only [maxLen] at hm
      go_wp2_with (at_builtin; refine wpList_append_own_at _ rfl _ _ 22 rfl B 24 i0 (.agg #[.int .i64 0, .int .i64 0, .int .i64 0, .int .i64 0]) 4 32 t22 hi0 hz0 hzs hzb rfl (by decide) _ _ xs rfl HO.out ⟨vb, 0, none⟩ 1 1 vs rfl (by rw [hvl]) HV.out H1.out (by simp only [maxLen]; omega) (by omega) hB ?_; intro v' w1 hown' hgrow hnil hat)
      all_goals (go_ret; exact ⟨v', rfl, hown', hgrow, hat⟩)
  · have hlt : i < n := by omega
    rcases hown.2 with ⟨rfl, rfl⟩ | ⟨g, cap, cur, rfl, hbg, hg, hnc, hcm, hcs, htake⟩
    · omega
    have hvg : vb ≠ g := by rintro rfl; exact hvb rfl
    have hgb : g < w.heap.size := (Array.getElem?_eq_some_iff.1 hg).1
    have hcur : cur.toList.length = cap * 4 := by simpa using hcs
    have hxl : xs.length = n * 4 := hown.1
    have hdl : (xs.drop (i * 4)).length = (n - i) * 4 := by rw [List.length_drop, hxl]; omega
    have hsz : (Try.prog.info? 24).map (·.size) = some 4 := by rw [hi0]; simp [hzs]
    simp only [maxLen] at hcm
    have hxc : ∀ j u, (xs.drop (i * 4))[j]? = some u → w.cell? ((⟨g, i * 4, none⟩ : Addr).add j) = some u := by
      intro j u hj
      rw [Addr.add_lit, cell_of_row w g (i * 4 + j) cur 24 (0, 0) hg]
      rw [List.getElem?_drop, ← htake, List.getElem?_take] at hj
      split at hj
      · simpa using hj
      · cases hj
    have h1d : ∀ u ∈ xs.drop (i * 4), u.oneCell' = true := fun u hu => h1x u (List.mem_of_mem_drop hu)
    by_cases hroom : n + 1 ≤ cap
    · have hsa : w.shape? vb = some (24, vs.length) := by simp [World.shape?, hvs]
      have hsb : w.shape? g = some (24, cur.size) := by simp [World.shape?, hg]
      have hov : ∀ lb cb, (callFunc 61 #[.slice (some ⟨vb, 0, none⟩) 1 1, .slice (some ⟨g, (i + 1) * 4, none⟩) lb cb]).run Try.prog w = .ok (.value (.bool false)) w := fun lb cb => by
        rw [run_callFunc_extern Try.func61 (by kernel_rfl) (by kernel_rfl) (by kernel_rfl) (e := Extern.SlicesOverlaps.overlaps #[22, 22] #[4]) (by kernel_rfl),
          Lib.run_overlaps_apart w 22 4 24 t22 4 Try.sizeOf24 ⟨vb, 0, none⟩ ⟨g, (i + 1) * 4, none⟩ 1 1 lb cb hvg 24 24 vs.length cur.size hsa hsb (by omega) (by simp [World.frozen?, hvs]) (by simp [World.frozen?, hvs])]
        rfl
      obtain ⟨X1, hX1⟩ : ∃ X1 : Array Value, X1 = (cur.toList.take ((i + 1) * 4) ++ xs.drop (i * 4) ++ cur.toList.drop ((i + 1) * 4 + (xs.drop (i * 4)).length)).toArray := ⟨_, rfl⟩
      obtain ⟨W1, hW1⟩ : ∃ W1, W1 = w.drew.setRow g X1 := ⟨_, rfl⟩
      have hcp1 : ∀ ty dc sc, (Builtin.copy_ #[22, 22] ty #[.slice (some ⟨g, (i + 1) * 4, none⟩) (n - i) dc, .slice (some ⟨g, i * 4, none⟩) (n + 1 - i) sc]).run Try.prog w.drew = .ok (goInt (n - i : Nat)) W1 := fun ty dc sc => by
        rw [hW1, hX1]
        exact run_copy_rowK w.drew _ _ ty 24 g ((i + 1) * 4) (n - i) dc ⟨g, i * 4, none⟩ (n + 1 - i) sc cur 24 (xs.drop (i * 4)) 4 (n - i) t22 hsz hg (by simp only [Nat.min_def]; split <;> omega) hdl hxc (by rw [hdl, hcs]; omega) h1d
      have hX1l : X1.toList.length = cap * 4 := by
        rw [hX1]; simp only [List.length_append, List.length_take, List.length_drop, hcur, hdl]; omega
      have hW1g : W1.heap[g]? = some (.cells X1 24 (0, 0)) := by rw [hW1]; exact setRow_heap w.drew g cur X1 24 _ hg
      have hW1o : ∀ k, k ≠ g → W1.heap[k]? = w.heap[k]? := fun k hk => by rw [hW1]; exact setRow_other w.drew g k X1 hk
      have hW1s : W1.heap.size = w.heap.size := by rw [hW1]; simp [World.setRow]
      obtain ⟨X2, hX2⟩ : ∃ X2 : Array Value, X2 = (X1.toList.take (i * 4) ++ vs ++ X1.toList.drop (i * 4 + vs.length)).toArray := ⟨_, rfl⟩
      have hcp2 : ∀ (W : World), W.heap = W1.heap → ∀ ty dc, (Builtin.copy_ #[22, 22] ty #[.slice (some ⟨g, i * 4, none⟩) (n + 1 - i) dc, .slice (some ⟨vb, 0, none⟩) 1 1]).run Try.prog W = .ok (goInt (1 : Nat)) (W.setRow g X2) := fun W hW ty dc => by
        rw [hX2]
        exact run_copy_rowK W _ _ ty 24 g (i * 4) (n + 1 - i) dc ⟨vb, 0, none⟩ 1 1 X1 24 vs 4 1 t22 hsz (by rw [hW]; exact hW1g) (by simp only [Nat.min_def]; split <;> omega) (by rw [hvl]) (fun j u hj => by
          rw [Addr.add_lit, cell_of_row W vb (0 + j) vs.toArray 24 (0, 0) (by rw [hW, hW1o vb hvg]; exact hvs)]
          simpa using hj) (by have : X1.size = X1.toList.length := by simp
                              rw [this, hX1l, hvl]; omega) h1
      have hfin : ∀ W : World, W.heap = W1.heap → W.os = w.os → W.tape = w.tape → W.output = w.output → ∃ v', (Ending.returned (.slice (some ⟨g, 0, none⟩) (n + 1) cap) : Ending) = .returned v' ∧ (W.setRow g X2).ownsRow B 24 4 v' (n + 1) (xs.take (i * 4) ++ vs ++ xs.drop (i * 4)) ∧ w.grownBy (W.setRow g X2) (Value.slice (some ⟨g, 0, none⟩) n cap).ownBlock ∧ (v'.ownBlock = (Value.slice (some ⟨g, 0, none⟩) n cap).ownBlock ∨ v'.ownBlock = some w.heap.size) := by
        intro W hW ho ht hp
        rw [hX2]
        refine ⟨_, rfl, ⟨by simp only [List.length_append, List.length_take, List.length_drop, hxl, hvl]; omega, .inr ⟨g, cap, _, rfl, hbg, setRow_heap W g X1 _ 24 _ (by rw [hW]; exact hW1g), hroom, by simp only [maxLen]; omega, ?_, ?_⟩⟩, ⟨ho, ht, hp, by simp [World.setRow, hW, hW1s], fun k hk hne => ?_⟩, .inl rfl⟩
        · simp only [List.size_toArray, List.length_append, List.length_take, List.length_drop, hX1l, hvl]; omega
        · have e1 : X1.toList.take (i * 4) = xs.take (i * 4) := by
            rw [hX1, List.toList_toArray, List.append_assoc, List.take_append_of_le_length (by rw [List.length_take, hcur]; omega), List.take_take, ← htake, List.take_take]
            congr 1; omega
          have e2 : (X1.toList.drop (i * 4 + vs.length)).take ((n - i) * 4) = xs.drop (i * 4) := by
            rw [hX1, List.toList_toArray, List.append_assoc, List.drop_append, List.drop_eq_nil_of_le (by rw [List.length_take, hcur, hvl]; omega), List.nil_append, List.length_take, hcur, hvl]
            rw [show i * 4 + 4 - min ((i + 1) * 4) (cap * 4) = 0 by omega, List.drop_zero, List.take_append_of_le_length (by rw [hdl]; exact Nat.le_refl _)]
            exact List.take_of_length_le (by rw [hdl]; exact Nat.le_refl _)
          rw [List.toList_toArray, e1, List.take_append, List.take_of_length_le (by simp only [List.length_append, List.length_take, hxl, hvl]; omega)]
          congr 1
          rw [← e2]
          congr 1
          simp only [List.length_append, List.length_take, hxl, hvl]; omega
        · have hk' : k ≠ g := fun e => hne (by simp [Value.ownBlock, e])
          rw [setRow_other W g k _ hk', hW]
          exact hW1o k hk'
      have hW1os : W1.os = w.os ∧ W1.tape = w.tape ∧ W1.output = w.output := by rw [hW1]; exact ⟨rfl, rfl, rfl⟩
      have HF := Aside0.mk hfin
      have HC1 := Aside0.mk hcp1
      have HC2 := Aside0.mk hcp2
      have HOS := Aside0.mk hW1os
      have hz2 : ¬ ((i : Int) = (n : Int)) := by omega
      have hw1 : IntKind.i64.wrap ((n : Int) + 1) = (n : Int) + 1 := by rw [IntKind.wrap_i64]; omega
      have hw2 : IntKind.i64.wrap ((i : Int) + 1) = (i : Int) + 1 := by rw [IntKind.wrap_i64]; omega
      have hb0 : ¬ ((cap : Int) < (n : Int) + 1) := by omega
      have hb1 : (0 : Int) ≤ (i : Int) + 1 := by omega
      have hb2 : ¬ (cap = i + 1) := by omega
      have hb3 : (i : Int) ≤ (n : Int) + 1 := by omega
      have hb4 : ¬ (cap = i) := by omega
      have htn : ((i : Int) + 1).toNat = i + 1 := by omega
      have htn2 : ((n : Int) + 1).toNat = n + 1 := by omega
      clear hfin hcp1 hcp2 hW1os hW1 hX2 hX1 hX1l hW1g hW1o hW1s htake hxc h1d hdl hsa hsb hown hvc h1 h1x hvs
      go_enter Try.func45, Try.ntmps45
      go_wp2_with (simp only [hov])
      have hc1 := HC1.out 3 (cap - (i + 1)) (cap - i)
      go_region
      have hc2 := HC2.out W1 rfl 3 (cap - i)
      go_wp2
      go_ret
      exact HF.out _ rfl HOS.out.1 HOS.out.2.1 HOS.out.2.2
    · obtain rfl : cap = n := by omega
      obtain ⟨gN, hgN⟩ : ∃ gN, gN = w.heap.size := ⟨_, rfl⟩
      obtain ⟨G, hG⟩ : ∃ G, G = grownCap w (cap + 1) cap 24 := ⟨_, rfl⟩
      have hGn : cap + 1 ≤ G := by rw [hG]; exact grownCap_ge w _ _ _
      have hG63 : G ≤ 9223372036854775807 := by
        have := grownCap_le_maxLen w (cap + 1) cap 24 (by unfold maxLen; omega)
        rw [← hG] at this
        unfold maxLen at this
        omega
      have hvn : vb < w.heap.size := (Array.getElem?_eq_some_iff.1 hvs).1
      have htl : (xs.take (i * 4)).length = i * 4 := by rw [List.length_take, hxl]; omega
      have hold : (Builtin.firstCells i0.size i (.slice (some ⟨g, 0, none⟩) i cap)).run Try.prog w.drew = .ok (xs.take (i * 4)).toArray w.drew := by
        rw [hzs]
        exact run_firstCells_some w.drew 4 i ⟨g, 0, none⟩ i cap (xs.take (i * 4)) htl (fun j u hj => by
          rw [Addr.add_lit]
          rw [List.getElem?_take] at hj
          split at hj
          · rw [cell_of_row w.drew g (0 + j) cur 24 (0, 0) hg]
            rw [← htake, List.getElem?_take] at hj
            split at hj
            · simpa using hj
            · cases hj
          · cases hj)
      obtain ⟨X1, hX1⟩ : ∃ X1 : Array Value, X1 = (xs.take (i * 4)).toArray ++ Builtin.zeroCells (.agg #[.int .i64 0, .int .i64 0, .int .i64 0, .int .i64 0] : Value).cells (cap + 1 - i) ++ Builtin.zeroCells (.agg #[.int .i64 0, .int .i64 0, .int .i64 0, .int .i64 0] : Value).cells (G - (cap + 1)) := ⟨_, rfl⟩
      obtain ⟨W1, hW1⟩ : ∃ W1, W1 = w.drew.alloc (.cells X1 24) := ⟨_, rfl⟩
      have hkk : (cap : Int) + 1 - (i : Int) = ((cap + 1 - i : Nat) : Int) := by omega
      have hik : i + (cap + 1 - i) = cap + 1 := by omega
      have hrz : (Builtin.append_ #[22, 3] 22 #[.slice (some ⟨g, 0, none⟩) i cap, .int .i64 ((cap : Int) + 1 - (i : Int))]).run Try.prog w = .ok (.slice (some ⟨gN, 0, none⟩) (cap + 1) G) W1 := by
        have h := Lib.run_append_grow_zeros w 22 3 22 24 i0 _ .i64 .i64 t22 Try.underlying3 hi0 hz0 (some ⟨g, 0, none⟩) i cap (xs.take (i * 4)) hold (cap + 1 - i) (by omega) (by omega) (by omega) (by omega) (by rw [hzb]; omega) (by rw [hzb, hik]; exact growslice_fits (by omega) hby)
        rw [hik] at h
        rw [hkk, hW1, hX1, hgN, hG]
        exact h
      have hX1l : X1.toList.length = G * 4 := by
        rw [hX1]
        simp only [Array.toList_append, List.length_append, List.toList_toArray, htl, Array.length_toList, size_zeroCells]
        simp [Value.cells]
        omega
      have hX1t : X1.toList.take (i * 4) = xs.take (i * 4) := by
        rw [hX1]
        simp only [Array.toList_append, List.toList_toArray, List.append_assoc]
        rw [List.take_append_of_le_length (by rw [htl]; exact Nat.le_refl _)]
        exact List.take_of_length_le (by rw [htl]; exact Nat.le_refl _)
      have hW1g : W1.heap[gN]? = some (.cells X1 24 (0, 0)) := by rw [hW1, hgN]; exact heap_alloc_new w.drew _
      have hW1o : ∀ k, k < w.heap.size → W1.heap[k]? = w.heap[k]? := fun k hk => by rw [hW1]; first | exact heap_alloc_old w.drew _ hk | exact heap_alloc_old w.drew _ k hk
      have hW1s : W1.heap.size = w.heap.size + 1 := by rw [hW1]; simp
      have hW1os : W1.os = w.os ∧ W1.tape = w.tape ∧ W1.output = w.output := by rw [hW1]; exact ⟨rfl, rfl, rfl⟩
      have hgn1 : g ≠ gN := by omega
      have hvn1 : vb ≠ gN := by omega
      obtain ⟨X2, hX2⟩ : ∃ X2 : Array Value, X2 = (X1.toList.take (i * 4) ++ vs ++ X1.toList.drop (i * 4 + vs.length)).toArray := ⟨_, rfl⟩
      have hX2l : X2.toList.length = G * 4 := by
        rw [hX2]; simp only [List.length_append, List.length_take, List.length_drop, hX1l, hvl]; omega
      have hX2t : X2.toList.take ((i + 1) * 4) = xs.take (i * 4) ++ vs := by
        rw [hX2, List.toList_toArray, hX1t, List.take_append_of_le_length (by rw [List.length_append, htl, hvl]; omega)]
        exact List.take_of_length_le (by rw [List.length_append, htl, hvl]; omega)
      obtain ⟨W2, hW2⟩ : ∃ W2, W2 = W1.setRow gN X2 := ⟨_, rfl⟩
      have hW2g : W2.heap[gN]? = some (.cells X2 24 (0, 0)) := by rw [hW2]; exact setRow_heap W1 gN X1 X2 24 _ hW1g
      have hW2o : ∀ k, k ≠ gN → W2.heap[k]? = W1.heap[k]? := fun k hk => by rw [hW2]; exact setRow_other W1 gN k X2 hk
      have hW2s : W2.heap.size = w.heap.size + 1 := by rw [hW2, ← hW1s]; simp [World.setRow]
      have hW2os : W2.os = w.os ∧ W2.tape = w.tape ∧ W2.output = w.output := by rw [hW2]; exact hW1os
      have hcA : (Builtin.copy_ #[22, 22] 3 #[.slice (some ⟨gN, i * 4, none⟩) (cap + 1 - i) (G - i), .slice (some ⟨vb, 0, none⟩) 1 1]).run Try.prog W1 = .ok (goInt (1 : Nat)) W2 := by
        rw [hW2, hX2]
        exact run_copy_rowK W1 _ _ 3 24 gN (i * 4) (cap + 1 - i) (G - i) ⟨vb, 0, none⟩ 1 1 X1 24 vs 4 1 t22 hsz hW1g (by simp only [Nat.min_def]; split <;> omega) (by rw [hvl]) (fun j u hj => by
          rw [Addr.add_lit, cell_of_row W1 vb (0 + j) vs.toArray 24 (0, 0) (by rw [hW1o vb hvn]; exact hvs)]
          simpa using hj) (by have : X1.size = X1.toList.length := by simp
                              rw [this, hX1l, hvl]; omega) h1
      obtain ⟨X3, hX3⟩ : ∃ X3 : Array Value, X3 = (X2.toList.take ((i + 1) * 4) ++ xs.drop (i * 4) ++ X2.toList.drop ((i + 1) * 4 + (xs.drop (i * 4)).length)).toArray := ⟨_, rfl⟩
      obtain ⟨W3, hW3⟩ : ∃ W3, W3 = W2.drew.setRow gN X3 := ⟨_, rfl⟩
      have hcB : ∀ sc, (Builtin.copy_ #[22, 22] 3 #[.slice (some ⟨gN, (i + 1) * 4, none⟩) (cap - i) (G - (i + 1)), .slice (some ⟨g, i * 4, none⟩) (cap - i) sc]).run Try.prog W2.drew = .ok (goInt (cap - i : Nat)) W3 := fun sc => by
        rw [hW3, hX3]
        exact run_copy_rowK W2.drew _ _ 3 24 gN ((i + 1) * 4) (cap - i) (G - (i + 1)) ⟨g, i * 4, none⟩ (cap - i) sc X2 24 (xs.drop (i * 4)) 4 (cap - i) t22 hsz hW2g (by simp only [Nat.min_def]; split <;> omega) hdl (fun j u hj => by
          have h := hxc j u hj
          rw [Addr.add_lit] at h ⊢
          rw [cell_of_row w g (i * 4 + j) cur 24 (0, 0) hg] at h
          rw [cell_of_row W2.drew g (i * 4 + j) cur 24 (0, 0) (by show W2.heap[g]? = _; rw [hW2o g hgn1, hW1o g hgb]; exact hg)]
          exact h) (by have : X2.size = X2.toList.length := by simp
                       rw [this, hX2l, hdl]; omega) h1d
      have hfin : W3.ownsRow B 24 4 (.slice (some ⟨gN, 0, none⟩) (cap + 1) G) (cap + 1) (xs.take (i * 4) ++ vs ++ xs.drop (i * 4)) ∧ w.grownBy W3 (Value.slice (some ⟨g, 0, none⟩) cap cap).ownBlock := by
        have hX3l : X3.toList.length = G * 4 := by
          rw [hX3]; simp only [List.length_append, List.length_take, List.length_drop, hX2l, hdl]; omega
        refine ⟨⟨by simp only [List.length_append, htl, hvl, hdl]; omega, .inr ⟨gN, G, X3, rfl, by omega, by rw [hW3]; exact setRow_heap W2.drew gN X2 X3 24 _ hW2g, hGn, by simp only [maxLen]; omega, by simpa using hX3l, ?_⟩⟩, ⟨by rw [hW3]; exact hW2os.1, by rw [hW3]; exact hW2os.2.1, by rw [hW3]; exact hW2os.2.2, by rw [hW3]; simp [World.setRow, hW2s], fun k hk hne => ?_⟩⟩
        · rw [hX3, List.toList_toArray, hX2t, List.take_append_of_le_length (by simp only [List.length_append, htl, hvl, hdl]; omega)]
          exact List.take_of_length_le (by simp only [List.length_append, htl, hvl, hdl]; omega)
        · have hk' : k ≠ gN := by omega
          rw [hW3, setRow_other W2.drew gN k X3 hk']
          show W2.heap[k]? = _
          rw [hW2o k hk', hW1o k hk]
      have HF := Aside0.mk hfin
      have HGN := Aside0.mk hgN
      have hcb := hcB (cap - i)
      have hz2 : ¬ ((i : Int) = (cap : Int)) := by omega
      have hw1 : IntKind.i64.wrap ((cap : Int) + 1) = (cap : Int) + 1 := by rw [IntKind.wrap_i64]; omega
      have hw2 : IntKind.i64.wrap ((i : Int) + 1) = (i : Int) + 1 := by rw [IntKind.wrap_i64]; omega
      have hw3 : IntKind.i64.wrap ((cap : Int) + 1 - (i : Int)) = (cap : Int) + 1 - (i : Int) := by rw [IntKind.wrap_i64]; omega
      have hb1 : (0 : Int) ≤ (i : Int) + 1 := by omega
      have hb2 : ¬ (G = i + 1) := by omega
      have hb3 : (i : Int) ≤ (cap : Int) := by omega
      have hb4 : ¬ (G = i) := by omega
      have hb5 : ¬ (cap = i) := by omega
      have hb6 : (i : Int) ≤ (cap : Int) + 1 := by omega
      have htn : ((i : Int) + 1).toNat = i + 1 := by omega
      clear hcB hfin hX1 hX2 hX3 hX1l hX1t hX2l hX2t hW1 hW2 hW3 hW1g hW1o hW1s hW1os hW2g hW2o hW2s hW2os hold hkk hik hG hgN htake hxc h1d hdl hown hvc h1 h1x hvs hroom hcur hcs hg htl
      go_enter Try.func45, Try.ntmps45
      go_wp2_with (at_builtin; refine Lib.wpList_append_run _ rfl _ _ _ _ rfl _ _ rfl rfl _ _ hrz ?_)
      go_region
      go_wp2
      go_ret
      exact ⟨_, rfl, HF.out.1, HF.out.2, .inr (congrArg some HGN.out)⟩
end Go.Proofs.Ytabjambabnbmnaa.Ins24
