/- A part of a proof: walks of functions and lemmas of our own. No conditions. -/
import Derived.Test.YtphjpngpmhammaaTAj
import Derived.Test.YtphjpngpmhammaaTAo
import Derived.Handy
import Derived.Test.YtphjpngpmhammaaTAl
import Derived.Test.YtphjpngpmhammaaTAm
import Derived.Test.YtphjpngpmhammaaTAp
import Derived.Test.YtphjpngpmhammaaTAk
import Derived.Test.YtphjpngpmhammaaTAi
import Derived.Test.YtphjpngpmhammaaRows
set_option linter.unusedSectionVars false
set_option linter.unusedVariables false
set_option linter.unusedSimpArgs false
namespace Go.Ab
open Go Go.Proofs Go.RowKit Go.Lib Go.Shelf
theorem slices_Insert_Spare_DD : DOk Try.prog (DD []) := DD_nil _
set_option maxHeartbeats 4000000 in
set_option maxRecDepth 100000 in
theorem slices_Insert_Spare_raw : InsRaw Try.prog 107 63 3 32 := by
  intro w v y n i m A B news hin hm hA hB hN oA oB oN hv hy hne hby hbig
  obtain ⟨i0, z, ET⟩ := ElT.mk' (tS := 28) (tE := 63) G_ok rfl rfl rfl (by decide)
  obtain ⟨u0, inf0, zero0, size0, byt0, zs0, pos0, zone0⟩ := ET
  have u3 : Try.prog.underlying 3 = some (.int .i64) := by kernel_rfl
  rcases hy with ⟨_, h⟩ | ⟨vb, vc, vcur, rfl, hvh, hvs, hvm, hvc, hvn⟩
  · omega
  have hz1 : ¬ ((m : Int) = 0) := by omega
  have hsrc : ∀ (j : Nat) (u : Value), news[j]? = some u → w.cell? ((⟨vb, 0, none⟩ : Addr).add j) = some u := by
    intro j u hu
    have hj : j < m * 3 := by rw [← hN]; exact (List.getElem?_eq_some_iff.1 hu).1
    rw [Addr.add_lit, Nat.zero_add, cell_of_row w vb j vcur 63 (0, 0) hvh, hvn j hj]
    exact hu
  by_cases hend : i = n
  · subst hend
    have hB0 : B = [] := List.eq_nil_of_length_eq_zero (by simpa using hB)
    subst hB0
    obtain ⟨v', w', hr, ho⟩ := append_run (P := Try.prog) (w := w) (ty := 28) (y := .slice (some ⟨vb, 0, none⟩) m vc) u0 inf0 zero0 size0 byt0 zs0 hA hN oN (by
      rcases hv with h | ⟨b, c, cur, h1, h2, h3, h4, h5, h6⟩
      · exact .inl h
      · exact .inr ⟨b, c, cur, h1, h2, h3, h4, h5, fun j hj => by rw [h6 j hj, List.append_nil]⟩) (.inr ⟨_, _, rfl, hsrc⟩) hby hbig
    rcases ho with ⟨_, h, _⟩ | ⟨b', cap', cur', rfl, ho⟩
    · omega
    have fin : AppOut w w' 63 3 (i + m) 0 v.ownBlock (A ++ news ++ []) [] b' cap' cur' := by
      refine ⟨ho.os, ho.tape, ho.output, ho.size, ho.other, ho.row, ho.len, by have := ho.fit; omega, ho.big, ?_, fun j hj => by omega, ho.place⟩
      intro j hj
      rw [List.append_nil]
      by_cases h : j < i * 3
      · rw [List.getElem?_append_left (by omega)]; exact ho.olds j h
      · have := ho.adds (j - i * 3) (by omega)
        rw [List.getElem?_append_right (by omega), hA, ← this]
        congr 1; omega
    rw [List.append_nil] at fin
    have hsh : (v = .slice none 0 0 ∧ i = 0) ∨ ∃ b c, v = .slice (some ⟨b, 0, none⟩) i c ∧ i ≤ c ∧ c ≤ 9223372036854775807 := by
      rcases hv with h | ⟨b, c, cur, h1, h2, h3, h4, h5, h6⟩
      · exact .inl h
      · exact .inr ⟨b, c, h1, h4, h5⟩
    clear hne ho hv hvh hvs hvn hsrc hA hB hN oA oB oN
    rcases hsh with ⟨rfl, rfl⟩ | ⟨b, c, rfl, hic, hcm⟩
    · go_enter Try.func107, Try.ntmps107
      go_wp2_with (at_builtin; refine wpList_appendE _ rfl _ _ _ _ rfl _ _ rfl rfl hr ?_)
      go_ret
      rw [Nat.zero_add] at fin ⊢
      (exact ⟨b', cap', cur', rfl, by (rw [List.append_nil]; exact fin)⟩)
    · go_enter Try.func107, Try.ntmps107
      go_wp2_with (at_builtin; refine wpList_appendE _ rfl _ _ _ _ rfl _ _ rfl rfl hr ?_)
      all_goals go_ret
      all_goals (exact ⟨b', cap', rfl, cur', by exact fin⟩)
  · have hlt : i < n := by omega
    rcases hv with ⟨_, h⟩ | ⟨b, c, cur, rfl, hb, hcs, hnc, hcm, hold⟩
    · omega
    have hvb : vb ≠ b := fun h => hne b rfl (by rw [h]; rfl)
    have mixed : Try.prog.follows .mixedOrders = true := by kernel_rfl
    have hz2 : ¬ ((i : Int) = (n : Int)) := by omega
    have hcSX : c ≤ 9223372036854775807 := hcm
    have hw1 : IntKind.i64.wrap ((i : Int) + (m : Int)) = (i : Int) + (m : Int) := by rw [IntKind.wrap_i64]; omega
    have hb1 : (0 : Int) ≤ (i : Int) + (m : Int) := by omega
    have hin : i ≤ n := by omega
    have htn : ((i : Int) + (m : Int)).toNat = i + m := by omega
    have hb4 : ¬ (c = i) := by omega
    have hAn : A.length + B.length = n * 3 := by omega
    have hgA : ∀ (j : Nat) (u : Value), A[j]? = some u → cur[j]? = some u := by
      intro j u hu
      have hj : j < A.length := (List.getElem?_eq_some_iff.1 hu).1
      rw [hold j (by omega), List.getElem?_append_left hj, hu]
    have hgB : ∀ (j : Nat) (u : Value), B[j]? = some u → cur[i * 3 + j]? = some u := by
      intro j u hu
      have hj : j < B.length := (List.getElem?_eq_some_iff.1 hu).1
      rw [hold _ (by omega), List.getElem?_append_right (by omega), hA, Nat.add_sub_cancel_left, hu]
    by_cases hroom : n + m ≤ c
    · have hb2 : ¬ (c = i + m) := by omega
      have hb3 : (i : Int) ≤ (n : Int) + (m : Int) := by omega
      have hmin : Nat.min (n + m - i) (n + m - (i + m)) = n - i := by simp only [Nat.min_def]; split <;> omega
      have hmin2 : Nat.min m (n + m - i) = m := by simp only [Nat.min_def]; split <;> omega
      obtain ⟨cur1, hcur1⟩ : ∃ cur1, cur1 = (putV ((i + m) * 3) B cur.toList).toArray := ⟨_, rfl⟩
      have hl1 : cur1.size = cur.size := by rw [hcur1]; simp [putV_length]
      have hov : ∀ lb cb, (callFunc 126 #[.slice (some ⟨vb, 0, none⟩) m vc, .slice (some ⟨b, (i + m) * 3, none⟩) lb cb]).run Try.prog w = .ok (.value (.bool false)) w := fun lb cb => by
        rw [run_callFunc_extern Try.func126 (by kernel_rfl) (by kernel_rfl) (by kernel_rfl) (e := Extern.SlicesOverlaps.overlaps #[28, 28] #[4]) (by kernel_rfl),
          run_overlapsE w 28 4 63 i0 u0 inf0 vb b 0 ((i + m) * 3) m vc lb cb hvb vcur cur 63 63 hvh hb (by omega)]
        rfl
      have hcp1 : ∀ ty dc sc, (Builtin.copy_ #[28, 28] ty #[.slice (some ⟨b, (i + m) * 3, none⟩) (n + m - (i + m)) dc, .slice (some ⟨b, i * 3, none⟩) (n + m - i) sc]).run Try.prog w.drew = .ok (goInt ((n - i : Nat) : Int)) (w.drew.setRow b cur1) := fun ty dc sc => by
        rw [hcur1]
        exact run_copyE w.drew 28 28 ty 63 i0 b ((i + m) * 3) _ dc ⟨b, i * 3, none⟩ _ sc (n - i) cur 63 B u0 inf0 hb hmin (by rw [size0]; exact hB)
          (fun j u hj => by rw [Addr.add_lit, cell_of_row w.drew b _ cur 63 (0, 0) hb]; exact hgB j u hj) (by omega) oB
      have hr1 : ∀ W : World, W.heap = (w.drew.setRow b cur1).heap → W.heap[b]? = some (.cells cur1 63 (0, 0)) := fun W h => by rw [h]; exact setRow_heap w.drew b cur cur1 63 (0, 0) hb
      have hcp2 : ∀ (W : World), W.heap = (w.drew.setRow b cur1).heap → ∀ ty dc, (Builtin.copy_ #[28, 28] ty #[.slice (some ⟨b, i * 3, none⟩) (n + m - i) dc, .slice (some ⟨vb, 0, none⟩) m vc]).run Try.prog W = .ok (goInt m) (W.setRow b (putV (i * 3) news cur1.toList).toArray) := fun W hW ty dc =>
        run_copyE W 28 28 ty 63 i0 b (i * 3) _ dc ⟨vb, 0, none⟩ m vc m cur1 63 news u0 inf0 (hr1 W hW) hmin2 (by rw [size0]; exact hN)
          (fun j u hj => by
            have hj2 : j < m * 3 := by rw [← hN]; exact (List.getElem?_eq_some_iff.1 hj).1
            have hvh2 : W.heap[vb]? = some (.cells vcur 63 (0, 0)) := by rw [hW, setRow_other w.drew b vb cur1 hvb]; exact hvh
            rw [Addr.add_lit, Nat.zero_add, cell_of_row W vb j vcur 63 (0, 0) hvh2, hvn j hj2]; exact hj) (by omega) oN
      have fin : ∀ W : World, W.heap = (w.drew.setRow b cur1).heap → W.os = w.os → W.tape = w.tape → W.output = w.output →
          AppOut w (W.setRow b (putV (i * 3) news cur1.toList).toArray) 63 3 (n + m) 0 (Value.ownBlock (.slice (some ⟨b, 0, none⟩) n c)) (A ++ news ++ B) [] b c (putV (i * 3) news cur1.toList).toArray := by
        intro W hW h1 h2 h3
        refine ⟨h1, h2, h3, ?_, ?_, setRow_heap W b cur1 _ 63 (0, 0) (hr1 W hW), by simp [putV_length, hl1, hcs], by omega, hcm, ?_, fun j hj => by omega, .inl rfl⟩
        · simp [hW]
        · intro k hk hkb
          rw [setRow_other W b k _ hkb, hW, setRow_other w.drew b k _ hkb]; rfl
        · intro j hj
          simp only [List.getElem?_toArray, putV_get]
          have hcl : cur1.toList.length = c * 3 := by simp [hl1, hcs]
          by_cases h1 : j < i * 3
          · rw [if_neg (by omega), List.append_assoc, List.getElem?_append_left (by omega), hcur1]
            simp only [putV_get]
            rw [if_neg (by omega)]
            have : A[j]? = some A[j] := List.getElem?_eq_getElem (by omega)
            rw [this]; simpa using hgA j _ this
          · by_cases h2 : j < (i + m) * 3
            · rw [if_pos (by rw [hcl, hN]; omega), List.append_assoc, List.getElem?_append_right (by omega), List.getElem?_append_left (by omega), hA]
            · rw [if_neg (by omega), List.getElem?_append_right (by simp only [List.length_append]; omega), hcur1]
              simp only [putV_get]
              rw [if_pos (by simp only [Array.length_toList]; omega)]
              congr 1; simp only [List.length_append]; omega
      clear hold hgA hgB hcs hb hvh hvs hvn hsrc hA hB hN oA oB oN hne hby hAn hr1 zero0 byt0 zs0 zone0 size0 hcur1 hl1 hmin hmin2
      go_enter Try.func107, Try.ntmps107
      go_wp2_with (simp only [hov])
      go_region_law_o (refine step_copyE rfl _ _ 28 28 rfl _ _ (by simp [Act.eval, Act.put]) (by simp [Act.eval, Act.put]) (hcp1 _ _ _) ?_)
      go_wp2_with (at_builtin; refine wpList_copyE _ rfl _ _ 28 28 rfl _ _ rfl rfl (hcp2 _ rfl _ _) ?_)
      go_ret
      exact ⟨b, c, _, rfl, fin _ rfl rfl rfl rfl⟩
    · have hz3 : (c : Int) < (n : Int) + (m : Int) := by omega
      have hbw : b < w.heap.size := (Array.getElem?_eq_some_iff.1 hb).1
      have hvw : vb < w.heap.size := (Array.getElem?_eq_some_iff.1 hvh).1
      have hik : i + (n + m - i) = n + m := by omega
      have hrz : ∀ ty, (Builtin.append_ #[28, 3] ty #[.slice (some ⟨b, 0, none⟩) i c, .int .i64 ((n : Int) + (m : Int) - (i : Int))]).run Try.prog w = .ok (.slice (some ⟨w.heap.size, 0, none⟩) (n + m) (grownCap w (n + m) c 63)) (w.drew.alloc (.cells (A.toArray ++ Builtin.zeroCells z.cells (n + m - i) ++ Builtin.zeroCells z.cells (grownCap w (n + m) c 63 - (n + m))) 63)) := fun ty => by
        have h := run_append_makeE (P := Try.prog) w 28 3 ty 63 i0 z u0 u3 inf0 zero0 ⟨b, 0, none⟩ i c A (by rw [size0]; exact hA)
          (fun j u hj => by rw [Addr.add_lit, Nat.zero_add, cell_of_row w b _ cur 63 (0, 0) hb]; exact hgA j u hj) (n + m - i) (by omega) (by rw [size0]; decide) (by omega) (by omega) (by rw [byt0, hik]; exact hby)
        rw [hik, show ((n + m - i : Nat) : Int) = (n : Int) + (m : Int) - (i : Int) by omega] at h
        exact h
      obtain ⟨N, hN0⟩ : ∃ N, N = w.heap.size := ⟨_, rfl⟩
      obtain ⟨G9, hG⟩ : ∃ G9, G9 = grownCap w (n + m) c 63 := ⟨_, rfl⟩
      have hGn : n + m ≤ G9 := by rw [hG]; exact grownCap_ge w _ _ _
      have hGSX : G9 ≤ 9223372036854775807 := by
        have := grownCap_le_maxLen w (n + m) c 63 (by unfold maxLen; omega)
        rw [← hG] at this
        unfold maxLen at this
        omega
      obtain ⟨row, hrow⟩ : ∃ row : Array Value, row = A.toArray ++ Builtin.zeroCells z.cells (n + m - i) ++ Builtin.zeroCells z.cells (G9 - (n + m)) := ⟨_, rfl⟩
      rw [← hG, ← hrow, ← hN0] at hrz
      have hrl : row.size = G9 * 3 := by
        rw [hrow]; simp only [Array.size_append, List.size_toArray, size_zeroCells, zs0, hA]; omega
      have hGi : ¬ (G9 = i) := by omega
      have hGim : ¬ (G9 = i + m) := by omega
      have hbN : b ≠ N := by omega
      have hvN : vb ≠ N := by omega
      have hmin1 : Nat.min m (n + m - i) = m := by simp only [Nat.min_def]; split <;> omega
      have hmin2 : Nat.min (n - i) (n + m - (i + m)) = n - i := by simp only [Nat.min_def]; split <;> omega
      have hW1 : ∀ W : World, W.heap = w.heap.push (.cells row 63) → W.heap[N]? = some (.cells row 63 (0, 0)) ∧ W.heap[b]? = some (.cells cur 63 (0, 0)) ∧ W.heap[vb]? = some (.cells vcur 63 (0, 0)) := by
        intro W h
        rw [h]
        refine ⟨by rw [hN0]; simp, ?_, ?_⟩
        · rw [Array.getElem?_push, if_neg (by omega)]; exact hb
        · rw [Array.getElem?_push, if_neg (by omega)]; exact hvh
      obtain ⟨row2, hrow2⟩ : ∃ row2, row2 = (putV (i * 3) news row.toList).toArray := ⟨_, rfl⟩
      have hl2 : row2.size = G9 * 3 := by rw [hrow2]; simp [putV_length, hrl]
      have hcpA : ∀ (W : World), W.heap = w.heap.push (.cells row 63) → ∀ ty dc, (Builtin.copy_ #[28, 28] ty #[.slice (some ⟨N, i * 3, none⟩) (n + m - i) dc, .slice (some ⟨vb, 0, none⟩) m vc]).run Try.prog W = .ok (goInt m) (W.setRow N row2) := fun W hW ty dc => by
        rw [hrow2]
        exact run_copyE W 28 28 ty 63 i0 N (i * 3) _ dc ⟨vb, 0, none⟩ m vc m row 63 news u0 inf0 (hW1 W hW).1 hmin1 (by rw [size0]; exact hN)
          (fun j u hj => by
            have hj2 : j < m * 3 := by rw [← hN]; exact (List.getElem?_eq_some_iff.1 hj).1
            rw [Addr.add_lit, Nat.zero_add, cell_of_row W vb j vcur 63 (0, 0) (hW1 W hW).2.2, hvn j hj2]; exact hj) (by omega) oN
      have hW2 : ∀ W W0 : World, W0.heap = w.heap.push (.cells row 63) → W.heap = (W0.setRow N row2).heap → W.heap[N]? = some (.cells row2 63 (0, 0)) ∧ W.heap[b]? = some (.cells cur 63 (0, 0)) := by
        intro W W0 h0 h
        rw [h]
        exact ⟨setRow_heap W0 N row row2 63 (0, 0) (hW1 W0 h0).1, by rw [setRow_other W0 N b row2 hbN]; exact (hW1 W0 h0).2.1⟩
      have hcpB : ∀ (W W0 : World), W0.heap = w.heap.push (.cells row 63) → W.heap = (W0.setRow N row2).heap → ∀ ty dc sc, (Builtin.copy_ #[28, 28] ty #[.slice (some ⟨N, (i + m) * 3, none⟩) (n + m - (i + m)) dc, .slice (some ⟨b, i * 3, none⟩) (n - i) sc]).run Try.prog W = .ok (goInt ((n - i : Nat) : Int)) (W.setRow N (putV ((i + m) * 3) B row2.toList).toArray) := fun W W0 h0 hW ty dc sc =>
        run_copyE W 28 28 ty 63 i0 N ((i + m) * 3) _ dc ⟨b, i * 3, none⟩ _ sc (n - i) row2 63 B u0 inf0 (hW2 W W0 h0 hW).1 hmin2 (by rw [size0]; exact hB)
          (fun j u hj => by rw [Addr.add_lit, cell_of_row W b _ cur 63 (0, 0) (hW2 W W0 h0 hW).2]; exact hgB j u hj) (by omega) oB
      have fin : ∀ W W0 : World, W0.heap = w.heap.push (.cells row 63) → W.heap = (W0.setRow N row2).heap → W.os = w.os → W.tape = w.tape → W.output = w.output →
          AppOut w (W.setRow N (putV ((i + m) * 3) B row2.toList).toArray) 63 3 (n + m) 0 (Value.ownBlock (.slice (some ⟨b, 0, none⟩) n c)) (A ++ news ++ B) [] N G9 (putV ((i + m) * 3) B row2.toList).toArray := by
        intro W W0 h0 hW h1 h2 h3
        refine ⟨h1, h2, h3, ?_, ?_, setRow_heap W N row2 _ 63 (0, 0) (hW2 W W0 h0 hW).1, by simp [putV_length, hl2], by omega, hGSX, ?_, fun j hj => by omega, .inr hN0⟩
        · simp [hW, h0]
        · intro k hk hkb
          rw [setRow_other W N k _ hkb, hW, setRow_other W0 N k _ hkb, h0, Array.getElem?_push, if_neg (by omega)]
        · intro j hj
          simp only [List.getElem?_toArray, putV_get]
          have hcl : row2.toList.length = G9 * 3 := by simp [hl2]
          have hcl1 : row.toList.length = G9 * 3 := by simp [hrl]
          by_cases h1 : (i + m) * 3 ≤ j
          · rw [if_pos (by omega), List.getElem?_append_right (by simp only [List.length_append]; omega)]
            congr 1; simp only [List.length_append]; omega
          · rw [if_neg (by omega), hrow2, List.getElem?_append_left (by simp only [List.length_append]; omega)]
            simp only [putV_get]
            by_cases h2 : i * 3 ≤ j
            · rw [if_pos (by omega), List.getElem?_append_right (by omega), hA]
            · rw [if_neg (by omega), List.getElem?_append_left (by omega), hrow]
              rw [Array.toList_append, Array.toList_append, List.append_assoc, List.getElem?_append_left (by simp; omega)]
      clear hold hgA hgB hcs hb hvh hvs hvn hsrc hA hB hN oA oB oN hne hby hAn zero0 byt0 zs0 zone0 size0 hW1 hW2 hrl hl2 hik hrow hrow2 hG hmin1 hmin2 hbw hvw
      subst hN0
      have hcpA1 := hcpA (w.alloc (.cells row 63)).drew rfl
      have hcpB1 := hcpB ((w.alloc (.cells row 63)).drew.setRow w.heap.size row2).drew (w.alloc (.cells row 63)).drew rfl rfl
      go_enter Try.func107, Try.ntmps107
      go_wp2_with (at_builtin; refine wpList_appendE _ rfl _ _ _ _ rfl _ _ rfl rfl (hrz _) ?_)
      go_region_law_o (refine step_copyE rfl _ _ 28 28 rfl _ _ (by simp [Act.eval, Act.put]) (by simp [Act.eval, Act.put]) (hcpB1 _ _ _) ?_)
      go_wp2
      go_ret
      (exact ⟨_, _, _, rfl, fin _ (w.alloc (.cells row 63)).drew rfl rfl rfl rfl rfl⟩)
def slices_Insert_Spare (a0 : (List Spare)) (a1 : Int) (a2 : (List Spare)) : List Spare := a0.take a1.toNat ++ a2 ++ a0.drop a1.toNat
theorem slices_Insert_Spare_den (a0 : (List Spare)) (a1 : Int) (a2 : (List Spare)) (hp0 : 0 ≤ a1) (hp1 : a1 ≤ a0.length) (hp2 : 0 < a2.length) (hp3 : a0.length < 1099511627776) (hp4 : a2.length < 1099511627776) : DenM Try.prog 107 [ownL 63 3 eSpare a0, .int .i64 a1, ownL 63 3 eSpare a2] (ownL 63 3 eSpare (slices_Insert_Spare a0 a1 a2)) [.any, .any, .any] :=
  ins_den ⟨_, Try.func107, rfl, rfl⟩ slices_Insert_Spare_raw (fun v => by simp [eSpare, ownL, NoBorL, NoBor]) a0 a2 a1 hp0 hp1 hp2 (by omega) (by omega)
def D_slices_Insert_Spare : List AV → Option (AV × List AV × List Prop)
  | [x0, x1, x2] => some (ownL 63 3 eSpare (slices_Insert_Spare (rdL dSpare x0) (rdI x1) (rdL dSpare x2)), [.any, .any, .any], [wO 63 3 eSpare dSpare x0, wI .i64 x1, wO 63 3 eSpare dSpare x2, 0 ≤ (rdI x1), (rdI x1) ≤ (rdL dSpare x0).length, 0 < (rdL dSpare x2).length, (rdL dSpare x0).length < 1099511627776, (rdL dSpare x2).length < 1099511627776])
  | _ => none
theorem D_slices_Insert_Spare_ok : OkM Try.prog 107 D_slices_Insert_Spare := by
  intro xs r outs ob h ho
  unfold D_slices_Insert_Spare at h
  split at h
  · simp only [Option.some.injEq, Prod.mk.injEq] at h
    obtain ⟨rfl, rfl, rfl⟩ := h
    obtain ⟨h0, h1, h2, hp0, hp1, hp2, hp3, hp4, _⟩ := ho
    exact DenM.sim (slices_Insert_Spare_den _ _ _ hp0 hp1 hp2 hp3 hp4) (simOL_cons (wO_sim h0) <| simOL_cons (wI_sim h1).1 <| simOL_cons (wO_sim h2) <| trivial)
  · cases h
end Go.Ab

namespace Go.Ab
open Go Go.Proofs
theorem slices_Insert_Spare_len (l : List Spare) (i : Int) (x : List Spare) : (slices_Insert_Spare l i x).length = l.length + x.length := by
  simp [slices_Insert_Spare]; omega
theorem slices_Insert_Spare_mem (l : List Spare) (i : Int) (x : List Spare) (v : Spare) (h : v ∈ slices_Insert_Spare l i x) : v ∈ l ∨ v ∈ x := by
  simp only [slices_Insert_Spare, List.mem_append] at h
  rcases h with (h | h) | h
  · exact .inl (List.mem_of_mem_take h)
  · exact .inr h
  · exact .inl (List.mem_of_mem_drop h)
end Go.Ab

namespace Go.Ab
open Go Go.Proofs
theorem impl_AddSpare_DD : DOk Try.prog (DD [(107, dM [true, false, true] D_slices_Insert_Spare), (18, dP D_impl_ValidStore), (66, dP D_impl_isSpare), (70, dP D_impl_Store_spareOf), (95, dP D_impl_clone_Spare), (97, dP D_impl_clone_Entry)]) := DD_cons D_slices_Insert_Spare_ok.e <| DD_cons D_impl_ValidStore_ok.e <| DD_cons D_impl_isSpare_ok.e <| DD_cons D_impl_Store_spareOf_ok.e <| DD_cons D_impl_clone_Spare_ok.e <| DD_cons D_impl_clone_Entry_ok.e <| DD_nil _
def impl_AddSpare (a0 : Store) (a1 : Spare) : (Store × Int) :=
  (bif ((!(impl_ValidStore a0)) || (!(impl_isSpare a1))) then ({ Spares := [], Entries := [] : Store }, 1) else (bif (impl_Store_spareOf a0 a1.Name).2 then ({ Spares := [], Entries := [] : Store }, 4) else (bif ((a0.Spares.length : Int) == 16) then ({ Spares := [], Entries := [] : Store }, 5) else ({ Spares := ((slices_Insert_Spare (impl_clone_Spare a0.Spares) ((impl_Store_spareOf a0 a1.Name).1) [a1])), Entries := (impl_clone_Entry a0.Entries) : Store }, 0))))
theorem impl_AddSpare_den (a0 : Store) (a1 : Spare) (hb0 : bdStore a0) (hb1 : bdSpare a1) : Den Try.prog 52 [.agg (eStore a0), .agg (eSpare a1)] (.tup [.agg (eStoreO ((impl_AddSpare a0 a1).1)), .int .i64 ((impl_AddSpare a0 a1).2)]) := by
  generalize hR : impl_AddSpare a0 a1 = r
  unfold impl_AddSpare at hR
  refine den_intro G_ok Try.func52 (by kernel_rfl) rfl Try.ntmps52 (by rw [Try.results52]) (by simp) rfl ?_
  intro c hL hc hk
  obtain ⟨hL0, hL1, _⟩ := hL
  have hw0 : bwStore a0 := Store_lens a0 hL0
  have hw1 : bwSpare a1 := Spare_lens a1 hL1
  clear hL0 hL1
  simp only [pars, Nat.zero_add]
  have hix := impl_Store_spareOf_le a0 a1.Name (And.left (And.left hw0))
  refine AWP.seq ?_
  refine AWP.regS G_ok impl_AddSpare_DD hc (by kernel_rfl) (fun K hK => ?_); simp only [ea, absV, absVL, gv, sv, D_slices_Insert_Spare, D_impl_ValidStore, D_impl_isSpare, D_impl_Store_spareOf, D_impl_clone_Spare, D_impl_clone_Entry, reduceCtorEq, reduceIte, Nat.reduceBEq, Nat.reduceAdd, Nat.reduceEqDiff, Nat.reduceLT, Nat.reduceLeDiff, Nat.reduceMul, Nat.reduceSub, BEq.rfl, beq_self_eq_true, Int.reduceToNat]
  (refine hK _ ?_)
  clear hK K
  refine AWP.seq ?_
  refine AWP.seq ?_
  refine AWP.regS G_ok impl_AddSpare_DD hc (by kernel_rfl) (fun K hK => ?_); simp only [ea, absV, absVL, gv, sv, D_slices_Insert_Spare, D_impl_ValidStore, D_impl_isSpare, D_impl_Store_spareOf, D_impl_clone_Spare, D_impl_clone_Entry, reduceCtorEq, reduceIte, Nat.reduceBEq, Nat.reduceAdd, Nat.reduceEqDiff, Nat.reduceLT, Nat.reduceLeDiff, Nat.reduceMul, Nat.reduceSub, BEq.rfl, beq_self_eq_true, Int.reduceToNat]
  (refine ⟨by (trivial), hK _ ?_⟩)
  clear hK K
  refine AWP.cond rfl (fun hb => ?_) (fun hb => ?_)
  · (simp only [hb, cond_true] at hR)
    refine AWP.seq ?_
    refine AWP.regS G_ok impl_AddSpare_DD hc (by kernel_rfl) (fun K hK => ?_); simp only [ea, absV, absVL, gv, sv, D_slices_Insert_Spare, D_impl_ValidStore, D_impl_isSpare, D_impl_Store_spareOf, D_impl_clone_Spare, D_impl_clone_Entry, reduceCtorEq, reduceIte, Nat.reduceBEq, Nat.reduceAdd, Nat.reduceEqDiff, Nat.reduceLT, Nat.reduceLeDiff, Nat.reduceMul, Nat.reduceSub, BEq.rfl, beq_self_eq_true, Int.reduceToNat]
    (refine hK _ ?_)
    clear hK K
    refine AWP.ret ?_
    subst hR
    (simp only [en, si, ea, gv, sv, hk, reduceCtorEq, reduceIte, Nat.reduceBEq, Nat.reduceAdd, Nat.reduceEqDiff, Nat.reduceLT, Nat.reduceLeDiff, Nat.reduceMul, Nat.reduceSub, BEq.rfl, beq_self_eq_true, Int.reduceToNat]; done)
  · (simp only [hb, cond_false] at hR)
    refine AWP.skip ?_
    refine AWP.seq ?_
    refine AWP.regS G_ok impl_AddSpare_DD hc (by kernel_rfl) (fun K hK => ?_); simp only [ea, absV, absVL, gv, sv, D_slices_Insert_Spare, D_impl_ValidStore, D_impl_isSpare, D_impl_Store_spareOf, D_impl_clone_Spare, D_impl_clone_Entry, reduceCtorEq, reduceIte, Nat.reduceBEq, Nat.reduceAdd, Nat.reduceEqDiff, Nat.reduceLT, Nat.reduceLeDiff, Nat.reduceMul, Nat.reduceSub, BEq.rfl, beq_self_eq_true, Int.reduceToNat]
    (refine hK _ ?_)
    clear hK K
    refine AWP.seq ?_
    refine AWP.block ?_
    refine AWP.seq ?_
    refine AWP.regS G_ok impl_AddSpare_DD hc (by kernel_rfl) (fun K hK => ?_); simp only [ea, absV, absVL, gv, sv, D_slices_Insert_Spare, D_impl_ValidStore, D_impl_isSpare, D_impl_Store_spareOf, D_impl_clone_Spare, D_impl_clone_Entry, reduceCtorEq, reduceIte, Nat.reduceBEq, Nat.reduceAdd, Nat.reduceEqDiff, Nat.reduceLT, Nat.reduceLeDiff, Nat.reduceMul, Nat.reduceSub, BEq.rfl, beq_self_eq_true, Int.reduceToNat]
    (refine hK _ ?_)
    clear hK K
    refine AWP.cond rfl (fun hb => ?_) (fun hb => ?_)
    · (simp only [hb, cond_true] at hR)
      refine AWP.seq ?_
      refine AWP.regS G_ok impl_AddSpare_DD hc (by kernel_rfl) (fun K hK => ?_); simp only [ea, absV, absVL, gv, sv, D_slices_Insert_Spare, D_impl_ValidStore, D_impl_isSpare, D_impl_Store_spareOf, D_impl_clone_Spare, D_impl_clone_Entry, reduceCtorEq, reduceIte, Nat.reduceBEq, Nat.reduceAdd, Nat.reduceEqDiff, Nat.reduceLT, Nat.reduceLeDiff, Nat.reduceMul, Nat.reduceSub, BEq.rfl, beq_self_eq_true, Int.reduceToNat]
      (refine hK _ ?_)
      clear hK K
      refine AWP.ret ?_
      subst hR
      (simp only [en, si, ea, gv, sv, hk, reduceCtorEq, reduceIte, Nat.reduceBEq, Nat.reduceAdd, Nat.reduceEqDiff, Nat.reduceLT, Nat.reduceLeDiff, Nat.reduceMul, Nat.reduceSub, BEq.rfl, beq_self_eq_true, Int.reduceToNat]; done)
    · (simp only [hb, cond_false] at hR)
      refine AWP.seq ?_
      refine AWP.regS G_ok impl_AddSpare_DD hc (by kernel_rfl) (fun K hK => ?_); simp only [ea, absV, absVL, gv, sv, D_slices_Insert_Spare, D_impl_ValidStore, D_impl_isSpare, D_impl_Store_spareOf, D_impl_clone_Spare, D_impl_clone_Entry, reduceCtorEq, reduceIte, Nat.reduceBEq, Nat.reduceAdd, Nat.reduceEqDiff, Nat.reduceLT, Nat.reduceLeDiff, Nat.reduceMul, Nat.reduceSub, BEq.rfl, beq_self_eq_true, Int.reduceToNat]
      (refine hK _ ?_)
      clear hK K
      refine AWP.cond rfl (fun hb => ?_) (fun hb => ?_)
      · (simp only [hb, cond_true] at hR)
        refine AWP.seq ?_
        refine AWP.regS G_ok impl_AddSpare_DD hc (by kernel_rfl) (fun K hK => ?_); simp only [ea, absV, absVL, gv, sv, D_slices_Insert_Spare, D_impl_ValidStore, D_impl_isSpare, D_impl_Store_spareOf, D_impl_clone_Spare, D_impl_clone_Entry, reduceCtorEq, reduceIte, Nat.reduceBEq, Nat.reduceAdd, Nat.reduceEqDiff, Nat.reduceLT, Nat.reduceLeDiff, Nat.reduceMul, Nat.reduceSub, BEq.rfl, beq_self_eq_true, Int.reduceToNat]
        (refine hK _ ?_)
        clear hK K
        refine AWP.ret ?_
        subst hR
        (simp only [en, si, ea, gv, sv, hk, reduceCtorEq, reduceIte, Nat.reduceBEq, Nat.reduceAdd, Nat.reduceEqDiff, Nat.reduceLT, Nat.reduceLeDiff, Nat.reduceMul, Nat.reduceSub, BEq.rfl, beq_self_eq_true, Int.reduceToNat]; done)
      · (simp only [hb, cond_false] at hR)
        refine AWP.skip ?_
        refine AWP.seq ?_
        refine AWP.regP mixed G_ok impl_AddSpare_DD hc 9 [0, 1, 3, 4, 7, 8] (.alt 2 [] [3, 4, 7, 8] (.alt 5 [] [3, 7, 8] (.alt 6 [] [7, 8] .leaf .stop) .stop) (.alt 5 [] [0, 1, 3, 7, 8] (.alt 2 [] [3, 7, 8] (.alt 6 [] [7, 8] .leaf .stop) .stop) .stop)) (by kernel_rfl) (by kernel_rfl) (by kernel_rfl) (fun K hK => ?_)
        refine join_sim ⟨[(4, .ptr 0 0), (5, .int .i64 0)], [.box [.ref 1 3 0 (((slices_Insert_Spare (impl_clone_Spare a0.Spares) ((impl_Store_spareOf a0 a1.Name).1) [a1])).length), .ref 2 3 0 ((impl_clone_Entry a0.Entries).length)], .arr 63 3 ((slices_Insert_Spare (impl_clone_Spare a0.Spares) ((impl_Store_spareOf a0 a1.Name).1) [a1])).length (fun j => eSpare (((slices_Insert_Spare (impl_clone_Spare a0.Spares) ((impl_Store_spareOf a0 a1.Name).1) [a1])).getD j default)), .arr 66 3 (impl_clone_Entry a0.Entries).length (fun j => eEntry ((impl_clone_Entry a0.Entries).getD j default))]⟩ hK ?_ (fun hJ => ?_)
        rotate_left
        · simp only [rootP, runN, runP, recheck, nthO, ea, absV, absVL, gv, sv, D_slices_Insert_Spare, D_impl_ValidStore, D_impl_isSpare, D_impl_Store_spareOf, D_impl_clone_Spare, D_impl_clone_Entry, reduceCtorEq, reduceIte, Nat.reduceBEq, Nat.reduceAdd, Nat.reduceEqDiff, Nat.reduceLT, Nat.reduceLeDiff, Nat.reduceMul, Nat.reduceSub, BEq.rfl, beq_self_eq_true, Int.reduceToNat]
          repeat' apply And.intro
          all_goals first | (refine hJ _ [2, 5, 6] ?_; (simp only [si, ea, gv, sv, hk, reduceCtorEq, reduceIte, Nat.reduceBEq, Nat.reduceAdd, Nat.reduceEqDiff, Nat.reduceLT, Nat.reduceLeDiff, Nat.reduceMul, Nat.reduceSub, BEq.rfl, beq_self_eq_true, Int.reduceToNat]; trivial)) | (first | trivial | omega | (simp only [ob, ln, bdv, impl_clone_Spare_id, impl_clone_Entry_id, sv] at *; omega) | ((try clear hK K); (repeat' (intro _)) <;> (simp only [ob, ln, bdv, impl_clone_Spare_id, impl_clone_Entry_id, sv] at *; (simp_all; done))))
        clear hK K
        refine AWP.ret ?_
        subst hR
        (simp only [en, si, ea, gv, sv, hk, reduceCtorEq, reduceIte, Nat.reduceBEq, Nat.reduceAdd, Nat.reduceEqDiff, Nat.reduceLT, Nat.reduceLeDiff, Nat.reduceMul, Nat.reduceSub, BEq.rfl, beq_self_eq_true, Int.reduceToNat]; (and_intros <;> omega))
def D_impl_AddSpare : DF
  | [x0, x1] => some (.tup [.agg (eStoreO ((impl_AddSpare (rdG dStore x0) (rdG dSpare x1)).1)), .int .i64 ((impl_AddSpare (rdG dStore x0) (rdG dSpare x1)).2)], false, [wG eStore dStore x0, wG eSpare dSpare x1, bdStore (rdG dStore x0), bdSpare (rdG dSpare x1)])
  | _ => none
def Dz_impl_AddSpare : DF
  | [x0, x1] => some (.tup [.agg (eStoreO ((impl_AddSpare (rdG dStore x0) (rdG dSpare x1)).1)), .int .i64 ((impl_AddSpare (rdG dStore x0) (rdG dSpare x1)).2)], true, [wG eStore dStore x0, wG eSpare dSpare x1, bdStore (rdG dStore x0), bdSpare (rdG dSpare x1)])
  | _ => none
theorem D_impl_AddSpare_ok : OkD Try.prog 52 D_impl_AddSpare := by
  intro xs r z ob h ho
  unfold D_impl_AddSpare at h
  split at h
  · simp only [Option.some.injEq, Prod.mk.injEq] at h
    obtain ⟨rfl, rfl, rfl⟩ := h
    obtain ⟨h0, h1, hb0, hb1, _⟩ := ho
    exact Den.sim (impl_AddSpare_den _ _ hb0 hb1) (simOL_cons (wG_sim h0).1 <| simOL_cons (wG_sim h1).1 <| trivial) (noIdL_cons (wG_sim h0).2 <| noIdL_cons (wG_sim h1).2 <| rfl) rfl
  · cases h
theorem Dz_impl_AddSpare_ok : OkD Try.prog 52 Dz_impl_AddSpare := by
  intro xs r z ob h ho
  unfold Dz_impl_AddSpare at h
  split at h
  · simp only [Option.some.injEq, Prod.mk.injEq] at h
    obtain ⟨rfl, rfl, rfl⟩ := h
    obtain ⟨h0, h1, hb0, hb1, _⟩ := ho
    exact Den.sim (impl_AddSpare_den _ _ hb0 hb1) (simOL_cons (wG_sim h0).1 <| simOL_cons (wG_sim h1).1 <| trivial) (noIdL_cons (wG_sim h0).2 <| noIdL_cons (wG_sim h1).2 <| rfl) rfl
  · cases h
end Go.Ab

namespace Go.Ab
open Go Go.Proofs
theorem impl_AddEntry_DD : DOk Try.prog (DD [(105, dP D_impl_Store_put), (18, dP D_impl_ValidStore), (71, dP D_impl_isEntry)]) := DD_cons D_impl_Store_put_ok.e <| DD_cons D_impl_ValidStore_ok.e <| DD_cons D_impl_isEntry_ok.e <| DD_nil _
def impl_AddEntry (a0 : Store) (a1 : Entry) : (Store × Int) :=
  (bif ((!(impl_ValidStore a0)) || (!(impl_isEntry a1))) then ({ Spares := [], Entries := [] : Store }, 1) else ({ Spares := ((impl_Store_put a0 a1).1).Spares, Entries := ((impl_Store_put a0 a1).1).Entries : Store }, (impl_Store_put a0 a1).2))
theorem impl_AddEntry_den (a0 : Store) (a1 : Entry) (hb0 : bdStore a0) (hb1 : bdEntry a1) : Den Try.prog 48 [.agg (eStore a0), .agg (eEntry a1)] (.tup [.agg (eStoreO ((impl_AddEntry a0 a1).1)), .int .i64 ((impl_AddEntry a0 a1).2)]) := by
  generalize hR : impl_AddEntry a0 a1 = r
  unfold impl_AddEntry at hR
  refine den_intro G_ok Try.func48 (by kernel_rfl) rfl Try.ntmps48 (by rw [Try.results48]) (by simp) rfl ?_
  intro c hL hc hk
  obtain ⟨hL0, hL1, _⟩ := hL
  have hw0 : bwStore a0 := Store_lens a0 hL0
  have hw1 : bwEntry a1 := Entry_lens a1 hL1
  clear hL0 hL1
  simp only [pars, Nat.zero_add]
  refine AWP.seq ?_
  refine AWP.regS G_ok impl_AddEntry_DD hc (by kernel_rfl) (fun K hK => ?_); simp only [ea, gv, sv, D_impl_Store_put, D_impl_ValidStore, D_impl_isEntry, reduceCtorEq, reduceIte, Nat.reduceBEq, Nat.reduceAdd, Nat.reduceEqDiff, Nat.reduceLT, Nat.reduceLeDiff, Nat.reduceMul, Nat.reduceSub, BEq.rfl, beq_self_eq_true, Int.reduceToNat]
  (refine hK _ ?_)
  clear hK K
  refine AWP.seq ?_
  refine AWP.seq ?_
  refine AWP.regS G_ok impl_AddEntry_DD hc (by kernel_rfl) (fun K hK => ?_); simp only [ea, gv, sv, D_impl_Store_put, D_impl_ValidStore, D_impl_isEntry, reduceCtorEq, reduceIte, Nat.reduceBEq, Nat.reduceAdd, Nat.reduceEqDiff, Nat.reduceLT, Nat.reduceLeDiff, Nat.reduceMul, Nat.reduceSub, BEq.rfl, beq_self_eq_true, Int.reduceToNat]
  (refine ⟨by (trivial), hK _ ?_⟩)
  clear hK K
  refine AWP.cond rfl (fun hb => ?_) (fun hb => ?_)
  · (simp only [hb, cond_true] at hR)
    refine AWP.seq ?_
    refine AWP.regS G_ok impl_AddEntry_DD hc (by kernel_rfl) (fun K hK => ?_); simp only [ea, gv, sv, D_impl_Store_put, D_impl_ValidStore, D_impl_isEntry, reduceCtorEq, reduceIte, Nat.reduceBEq, Nat.reduceAdd, Nat.reduceEqDiff, Nat.reduceLT, Nat.reduceLeDiff, Nat.reduceMul, Nat.reduceSub, BEq.rfl, beq_self_eq_true, Int.reduceToNat]
    (refine hK _ ?_)
    clear hK K
    refine AWP.ret ?_
    subst hR
    (simp only [en, si, ea, gv, sv, hk, reduceCtorEq, reduceIte, Nat.reduceBEq, Nat.reduceAdd, Nat.reduceEqDiff, Nat.reduceLT, Nat.reduceLeDiff, Nat.reduceMul, Nat.reduceSub, BEq.rfl, beq_self_eq_true, Int.reduceToNat]; done)
  · (simp only [hb, cond_false] at hR)
    refine AWP.skip ?_
    refine AWP.seq ?_
    refine AWP.regS G_ok impl_AddEntry_DD hc (by kernel_rfl) (fun K hK => ?_); simp only [ea, gv, sv, D_impl_Store_put, D_impl_ValidStore, D_impl_isEntry, reduceCtorEq, reduceIte, Nat.reduceBEq, Nat.reduceAdd, Nat.reduceEqDiff, Nat.reduceLT, Nat.reduceLeDiff, Nat.reduceMul, Nat.reduceSub, BEq.rfl, beq_self_eq_true, Int.reduceToNat]
    (refine ⟨by (((try clear hK K); (repeat' first | apply And.intro | intro _) <;> first | trivial | (simp only [ob, ln, bdv, sv] at *; first | omega | (simp_all; done) | grind [impl_ValidStore_len]))), hK _ ?_⟩)
    clear hK K
    refine AWP.ret ?_
    subst hR
    (simp only [en, si, ea, gv, sv, hk, reduceCtorEq, reduceIte, Nat.reduceBEq, Nat.reduceAdd, Nat.reduceEqDiff, Nat.reduceLT, Nat.reduceLeDiff, Nat.reduceMul, Nat.reduceSub, BEq.rfl, beq_self_eq_true, Int.reduceToNat]; (and_intros <;> omega))
def D_impl_AddEntry : DF
  | [x0, x1] => some (.tup [.agg (eStoreO ((impl_AddEntry (rdG dStore x0) (rdG dEntry x1)).1)), .int .i64 ((impl_AddEntry (rdG dStore x0) (rdG dEntry x1)).2)], false, [wG eStore dStore x0, wG eEntry dEntry x1, bdStore (rdG dStore x0), bdEntry (rdG dEntry x1)])
  | _ => none
def Dz_impl_AddEntry : DF
  | [x0, x1] => some (.tup [.agg (eStoreO ((impl_AddEntry (rdG dStore x0) (rdG dEntry x1)).1)), .int .i64 ((impl_AddEntry (rdG dStore x0) (rdG dEntry x1)).2)], true, [wG eStore dStore x0, wG eEntry dEntry x1, bdStore (rdG dStore x0), bdEntry (rdG dEntry x1)])
  | _ => none
theorem D_impl_AddEntry_ok : OkD Try.prog 48 D_impl_AddEntry := by
  intro xs r z ob h ho
  unfold D_impl_AddEntry at h
  split at h
  · simp only [Option.some.injEq, Prod.mk.injEq] at h
    obtain ⟨rfl, rfl, rfl⟩ := h
    obtain ⟨h0, h1, hb0, hb1, _⟩ := ho
    exact Den.sim (impl_AddEntry_den _ _ hb0 hb1) (simOL_cons (wG_sim h0).1 <| simOL_cons (wG_sim h1).1 <| trivial) (noIdL_cons (wG_sim h0).2 <| noIdL_cons (wG_sim h1).2 <| rfl) rfl
  · cases h
theorem Dz_impl_AddEntry_ok : OkD Try.prog 48 Dz_impl_AddEntry := by
  intro xs r z ob h ho
  unfold Dz_impl_AddEntry at h
  split at h
  · simp only [Option.some.injEq, Prod.mk.injEq] at h
    obtain ⟨rfl, rfl, rfl⟩ := h
    obtain ⟨h0, h1, hb0, hb1, _⟩ := ho
    exact Den.sim (impl_AddEntry_den _ _ hb0 hb1) (simOL_cons (wG_sim h0).1 <| simOL_cons (wG_sim h1).1 <| trivial) (noIdL_cons (wG_sim h0).2 <| noIdL_cons (wG_sim h1).2 <| rfl) rfl
  · cases h
end Go.Ab

namespace Go.Ab
open Go Go.Proofs
theorem impl_at_DD : DOk Try.prog (DD []) := DD_nil _
def impl_at (a0 : Int) (a1 : Int) : Bool :=
  (decide (0 ≤ a0) && decide (a0 < a1))
theorem impl_at_den (a0 : Int) (a1 : Int)  : Den Try.prog 94 [.int .i64 a0, .int .i64 a1] (.bool (impl_at a0 a1)) := by
  generalize hR : impl_at a0 a1 = r
  unfold impl_at at hR
  refine den_intro G_ok Try.func94 (by kernel_rfl) rfl Try.ntmps94 (by rw [Try.results94]) (by simp) rfl ?_
  intro c hL hc hk
  clear hL
  simp only [pars, Nat.zero_add]
  refine AWP.seq ?_
  refine AWP.regS G_ok impl_at_DD hc (by kernel_rfl) (fun K hK => ?_); simp only [ea, gv, sv, reduceCtorEq, reduceIte, Nat.reduceBEq, Nat.reduceAdd, Nat.reduceEqDiff, Nat.reduceLT, Nat.reduceLeDiff, Nat.reduceMul, Nat.reduceSub, BEq.rfl, beq_self_eq_true, Int.reduceToNat]
  (refine hK _ ?_)
  clear hK K
  refine AWP.seq ?_
  refine AWP.regS G_ok impl_at_DD hc (by kernel_rfl) (fun K hK => ?_); simp only [ea, gv, sv, reduceCtorEq, reduceIte, Nat.reduceBEq, Nat.reduceAdd, Nat.reduceEqDiff, Nat.reduceLT, Nat.reduceLeDiff, Nat.reduceMul, Nat.reduceSub, BEq.rfl, beq_self_eq_true, Int.reduceToNat]
  (refine hK _ ?_)
  clear hK K
  refine AWP.ret ?_
  subst hR
  (simp only [en, si, ea, gv, sv, hk, reduceCtorEq, reduceIte, Nat.reduceBEq, Nat.reduceAdd, Nat.reduceEqDiff, Nat.reduceLT, Nat.reduceLeDiff, Nat.reduceMul, Nat.reduceSub, BEq.rfl, beq_self_eq_true, Int.reduceToNat]; done)
def D_impl_at : DF
  | [x0, x1] => some (.bool (impl_at (rdI x0) (rdI x1)), false, [wI .i64 x0, wI .i64 x1])
  | _ => none
theorem D_impl_at_ok : OkD Try.prog 94 D_impl_at := by
  intro xs r z ob h ho
  unfold D_impl_at at h
  split at h
  · simp only [Option.some.injEq, Prod.mk.injEq] at h
    obtain ⟨rfl, rfl, rfl⟩ := h
    obtain ⟨h0, h1, _⟩ := ho
    exact Den.sim (impl_at_den _ _ ) (simOL_cons (wI_sim h0).1 <| simOL_cons (wI_sim h1).1 <| trivial) (noIdL_cons (wI_sim h0).2 <| noIdL_cons (wI_sim h1).2 <| rfl) rfl
  · cases h
end Go.Ab

namespace Go.Ab
open Go Go.Proofs Go.RowKit Go.Lib Go.Shelf
theorem slices_Delete_Entry_DD : DOk Try.prog (DD []) := DD_nil _
set_option maxHeartbeats 4000000 in
set_option maxRecDepth 100000 in
theorem slices_Delete_Entry_raw : DelRaw Try.prog 96 66 3 := by
  intro w b cap n i j cur A C B hij hjn hA hC hB oB hb hcs hnc hcm hold
  obtain ⟨i0, z, ET⟩ := ElT.mk' (tS := 29) (tE := 66) G_ok rfl rfl rfl (by decide)
  obtain ⟨u0, inf0, zero0, size0, byt0, zs0, pos0, zone0⟩ := ET
  have mixed : Try.prog.follows .mixedOrders = true := by kernel_rfl
  have hz2 : ¬ ((i : Int) = (j : Int)) := by omega
  have hcSX : cap ≤ 9223372036854775807 := hcm
  have hic : i ≤ cap := by omega
  have hjc : j ≤ cap := by omega
  have hin : i ≤ n := by omega
  have hnn : i + (n - j) = n - (j - i) := by omega
  have hgA : ∀ (k : Nat) (u : Value), A[k]? = some u → cur[k]? = some u := by
    intro k u hu
    have hj : k < A.length := (List.getElem?_eq_some_iff.1 hu).1
    rw [hold k (by omega), List.append_assoc, List.getElem?_append_left hj, hu]
  have hgB : ∀ (k : Nat) (u : Value), B[k]? = some u → cur[j * 3 + k]? = some u := by
    intro k u hu
    have hj : k < B.length := (List.getElem?_eq_some_iff.1 hu).1
    rw [hold _ (by omega), List.getElem?_append_right (by simp only [List.length_append]; omega), show j * 3 + k - (A ++ C).length = k by simp only [List.length_append]; omega, hu]
  obtain ⟨src, hsrc⟩ : ∃ src : Addr, (if cap = j then (⟨b, 0, none⟩ : Addr) else ⟨b, j * 3, none⟩) = src := ⟨_, rfl⟩
  have hsc : ∀ (k : Nat) (u : Value), B[k]? = some u → w.drew.cell? (src.add k) = some u := by
    intro k u hu
    have hj : k < B.length := (List.getElem?_eq_some_iff.1 hu).1
    rw [← hsrc, if_neg (by omega), Addr.add_lit, cell_of_row w.drew b _ cur 66 (0, 0) hb]
    exact hgB k u hu
  obtain ⟨cur1, hcur1⟩ : ∃ cur1, cur1 = (putV (i * 3) B cur.toList).toArray := ⟨_, rfl⟩
  have hl1 : cur1.size = cap * 3 := by rw [hcur1]; simp [putV_length, hcs]
  have hap : ∀ ty, (Builtin.append_ #[29, 29] ty #[.slice (some ⟨b, 0, none⟩) i cap, .slice (some src) (n - j) (cap - j)]).run Try.prog w.drew = .ok (.slice (some ⟨b, 0, none⟩) (n - (j - i)) cap) (w.drew.setRow b cur1) := fun ty => by
    have h := run_append_room (P := Try.prog) w.drew 29 ty 66 i0 u0 inf0 b i cap cur hb src (n - j) (cap - j) B (by rw [size0]; exact hB) hsc oB (by omega) (by rw [size0]; omega)
    rw [size0, seg_putV (i * 3) B cur.toList (by simp; omega), ← hcur1, hnn] at h
    exact h
  have hr1 : (w.drew.setRow b cur1).heap[b]? = some (.cells cur1 66 (0, 0)) := setRow_heap w.drew b cur cur1 66 (0, 0) hb
  obtain ⟨cur2, hcur2⟩ : ∃ cur2, cur2 = (putV ((n - (j - i)) * 3) ((List.range (j - i)).flatMap fun _ => z.cells.toList) cur1.toList).toArray := ⟨_, rfl⟩
  have hcl : ∀ ty c, (Builtin.clear_ #[29] ty #[.slice (some ⟨b, (n - (j - i)) * 3, none⟩) (n - (n - (j - i))) c]).run Try.prog (w.drew.setRow b cur1) = .ok (.tuple #[]) ((w.drew.setRow b cur1).setRow b cur2) := fun ty c => by
    rw [show n - (n - (j - i)) = j - i by omega, hcur2]
    exact run_clearE _ 29 ty 66 i0 z u0 inf0 zero0 (by rw [size0]; exact zs0) zone0 b _ (j - i) c 66 cur1 hr1 (by rw [size0, hl1]; omega) (by omega)
  have hvl := flat_len (vs := fun _ => z.cells.toList) (e := 3) (j - i) (fun _ _ => by simpa using zs0)
  have fin : AppOut w ((w.drew.setRow b cur1).setRow b cur2) 66 3 (n - (j - i)) 0 (some b) (A ++ B) [] b cap cur2 := by
    refine ⟨rfl, rfl, rfl, by simp, ?_, setRow_heap _ b cur1 _ 66 (0, 0) hr1, by rw [hcur2]; simp [putV_length, hl1], by omega, hcm, ?_, fun j hj => by omega, .inl rfl⟩
    · intro k hk hkb
      rw [setRow_other _ b k _ hkb, setRow_other w.drew b k _ hkb]; rfl
    · intro k hk
      rw [hcur2]
      simp only [List.getElem?_toArray, putV_get]
      rw [if_neg (by omega), hcur1]
      simp only [putV_get]
      by_cases h1 : k < i * 3
      · rw [if_neg (by omega), List.getElem?_append_left (by omega)]
        have : A[k]? = some A[k] := List.getElem?_eq_getElem (by omega)
        rw [this]; simpa using hgA k _ this
      · rw [if_pos (by simp only [Array.length_toList]; omega), List.getElem?_append_right (by omega), hA]
  have hile : i ≤ j := by omega
  have hne1 : ¬ (cap = n - (j - i)) := by omega
  have hle1 : n - (j - i) ≤ n := by omega
  by_cases hcj : cap = j
  all_goals
    first | rw [if_pos hcj] at hsrc | rw [if_neg hcj] at hsrc
    subst hsrc
    try subst hcj
    clear hold hgA hgB hcs hb hA hC hB oB zero0 byt0 zs0 zone0 size0 hr1 hcur1 hcur2 hl1 hvl hsc hnn
    go_enter Try.func96, Try.ntmps96
    go_wp2
    go_region_law_o (refine step_appendE rfl _ _ 29 29 rfl _ _ (by simp [Act.eval, Act.put] <;> omega) (by simp [Act.eval, Act.put] <;> omega) (hap _) ?_)
    go_wp2
    go_ret
    (exact ⟨_, rfl, fin⟩)
def slices_Delete_Entry (a0 : (List Entry)) (a1 : Int) (a2 : Int) : List Entry := a0.take a1.toNat ++ a0.drop a2.toNat
theorem slices_Delete_Entry_den (a0 : (List Entry)) (a1 : Int) (a2 : Int) (hp0 : 0 ≤ a1) (hp1 : a1 < a2) (hp2 : a2 ≤ a0.length) : DenM Try.prog 96 [ownL 66 3 eEntry a0, .int .i64 a1, .int .i64 a2] (ownL 66 3 eEntry (slices_Delete_Entry a0 a1 a2)) [.any, .any, .any] :=
  del_den ⟨_, Try.func96, rfl, rfl⟩ slices_Delete_Entry_raw (fun v => by simp [eEntry, ownL, NoBorL, NoBor]) a0 a1 a2 hp0 hp1 hp2
def D_slices_Delete_Entry : List AV → Option (AV × List AV × List Prop)
  | [x0, x1, x2] => some (ownL 66 3 eEntry (slices_Delete_Entry (rdL dEntry x0) (rdI x1) (rdI x2)), [.any, .any, .any], [wO 66 3 eEntry dEntry x0, wI .i64 x1, wI .i64 x2, 0 ≤ (rdI x1), (rdI x1) < (rdI x2), (rdI x2) ≤ (rdL dEntry x0).length])
  | _ => none
theorem D_slices_Delete_Entry_ok : OkM Try.prog 96 D_slices_Delete_Entry := by
  intro xs r outs ob h ho
  unfold D_slices_Delete_Entry at h
  split at h
  · simp only [Option.some.injEq, Prod.mk.injEq] at h
    obtain ⟨rfl, rfl, rfl⟩ := h
    obtain ⟨h0, h1, h2, hp0, hp1, hp2, _⟩ := ho
    exact DenM.sim (slices_Delete_Entry_den _ _ _ hp0 hp1 hp2) (simOL_cons (wO_sim h0) <| simOL_cons (wI_sim h1).1 <| simOL_cons (wI_sim h2).1 <| trivial)
  · cases h
end Go.Ab

namespace Go.Ab
open Go Go.Proofs
theorem slices_Delete_Entry_len (l : List Entry) (i j : Int) (h0 : i ≤ j) : (slices_Delete_Entry l i j).length ≤ l.length := by
  simp [slices_Delete_Entry]; omega
theorem slices_Delete_Entry_mem (l : List Entry) (i j : Int) (v : Entry) (h : v ∈ slices_Delete_Entry l i j) : v ∈ l := by
  simp only [slices_Delete_Entry, List.mem_append] at h
  rcases h with h | h
  · exact List.mem_of_mem_take h
  · exact List.mem_of_mem_drop h
end Go.Ab

namespace Go.Ab
open Go Go.Proofs
theorem impl_DropEntry_DD : DOk Try.prog (DD [(18, dP D_impl_ValidStore), (94, dP D_impl_at), (95, dP D_impl_clone_Spare), (96, dM [true, false, false] D_slices_Delete_Entry), (97, dP D_impl_clone_Entry)]) := DD_cons D_impl_ValidStore_ok.e <| DD_cons D_impl_at_ok.e <| DD_cons D_impl_clone_Spare_ok.e <| DD_cons D_slices_Delete_Entry_ok.e <| DD_cons D_impl_clone_Entry_ok.e <| DD_nil _
def impl_DropEntry (a0 : Store) (a1 : Int) : (Store × Int) :=
  (bif (!(impl_ValidStore a0)) then ({ Spares := [], Entries := [] : Store }, 1) else (bif (!(impl_at a1 (a0.Entries.length : Int))) then ({ Spares := [], Entries := [] : Store }, 2) else (bif (!(impl_ValidStore ({ Spares := (impl_clone_Spare a0.Spares), Entries := ((slices_Delete_Entry (impl_clone_Entry a0.Entries) a1 (IntKind.wrap .i64 (a1 + 1)))) : Store }))) then ({ Spares := [], Entries := [] : Store }, 6) else ({ Spares := (impl_clone_Spare a0.Spares), Entries := ((slices_Delete_Entry (impl_clone_Entry a0.Entries) a1 (IntKind.wrap .i64 (a1 + 1)))) : Store }, 0))))
theorem impl_DropEntry_den (a0 : Store) (a1 : Int) (hb0 : bdStore a0) : Den Try.prog 36 [.agg (eStore a0), .int .i64 a1] (.tup [.agg (eStoreO ((impl_DropEntry a0 a1).1)), .int .i64 ((impl_DropEntry a0 a1).2)]) := by
  generalize hR : impl_DropEntry a0 a1 = r
  unfold impl_DropEntry at hR
  refine den_intro G_ok Try.func36 (by kernel_rfl) rfl Try.ntmps36 (by rw [Try.results36]) (by simp) rfl ?_
  intro c hL hc hk
  obtain ⟨hL0, hL1, _⟩ := hL
  have hw0 : bwStore a0 := Store_lens a0 hL0
  clear hL0 hL1
  simp only [pars, Nat.zero_add]
  refine AWP.seq ?_
  refine AWP.regS G_ok impl_DropEntry_DD hc (by kernel_rfl) (fun K hK => ?_); simp only [ea, absV, absVL, gv, sv, D_impl_ValidStore, D_impl_at, D_impl_clone_Spare, D_slices_Delete_Entry, D_impl_clone_Entry, reduceCtorEq, reduceIte, Nat.reduceBEq, Nat.reduceAdd, Nat.reduceEqDiff, Nat.reduceLT, Nat.reduceLeDiff, Nat.reduceMul, Nat.reduceSub, BEq.rfl, beq_self_eq_true, Int.reduceToNat]
  (refine hK _ ?_)
  clear hK K
  refine AWP.seq ?_
  refine AWP.seq ?_
  refine AWP.regS G_ok impl_DropEntry_DD hc (by kernel_rfl) (fun K hK => ?_); simp only [ea, absV, absVL, gv, sv, D_impl_ValidStore, D_impl_at, D_impl_clone_Spare, D_slices_Delete_Entry, D_impl_clone_Entry, reduceCtorEq, reduceIte, Nat.reduceBEq, Nat.reduceAdd, Nat.reduceEqDiff, Nat.reduceLT, Nat.reduceLeDiff, Nat.reduceMul, Nat.reduceSub, BEq.rfl, beq_self_eq_true, Int.reduceToNat]
  (refine ⟨by (trivial), hK _ ?_⟩)
  clear hK K
  refine AWP.cond rfl (fun hb => ?_) (fun hb => ?_)
  · (simp only [hb, cond_true] at hR)
    refine AWP.seq ?_
    refine AWP.regS G_ok impl_DropEntry_DD hc (by kernel_rfl) (fun K hK => ?_); simp only [ea, absV, absVL, gv, sv, D_impl_ValidStore, D_impl_at, D_impl_clone_Spare, D_slices_Delete_Entry, D_impl_clone_Entry, reduceCtorEq, reduceIte, Nat.reduceBEq, Nat.reduceAdd, Nat.reduceEqDiff, Nat.reduceLT, Nat.reduceLeDiff, Nat.reduceMul, Nat.reduceSub, BEq.rfl, beq_self_eq_true, Int.reduceToNat]
    (refine hK _ ?_)
    clear hK K
    refine AWP.ret ?_
    subst hR
    (simp only [en, si, ea, gv, sv, hk, reduceCtorEq, reduceIte, Nat.reduceBEq, Nat.reduceAdd, Nat.reduceEqDiff, Nat.reduceLT, Nat.reduceLeDiff, Nat.reduceMul, Nat.reduceSub, BEq.rfl, beq_self_eq_true, Int.reduceToNat]; done)
  · (simp only [hb, cond_false] at hR)
    refine AWP.skip ?_
    refine AWP.seq ?_
    refine AWP.seq ?_
    refine AWP.regS G_ok impl_DropEntry_DD hc (by kernel_rfl) (fun K hK => ?_); simp only [ea, absV, absVL, gv, sv, D_impl_ValidStore, D_impl_at, D_impl_clone_Spare, D_slices_Delete_Entry, D_impl_clone_Entry, reduceCtorEq, reduceIte, Nat.reduceBEq, Nat.reduceAdd, Nat.reduceEqDiff, Nat.reduceLT, Nat.reduceLeDiff, Nat.reduceMul, Nat.reduceSub, BEq.rfl, beq_self_eq_true, Int.reduceToNat]
    (refine hK _ ?_)
    clear hK K
    refine AWP.cond rfl (fun hb => ?_) (fun hb => ?_)
    · (simp only [hb, cond_true] at hR)
      refine AWP.seq ?_
      refine AWP.regS G_ok impl_DropEntry_DD hc (by kernel_rfl) (fun K hK => ?_); simp only [ea, absV, absVL, gv, sv, D_impl_ValidStore, D_impl_at, D_impl_clone_Spare, D_slices_Delete_Entry, D_impl_clone_Entry, reduceCtorEq, reduceIte, Nat.reduceBEq, Nat.reduceAdd, Nat.reduceEqDiff, Nat.reduceLT, Nat.reduceLeDiff, Nat.reduceMul, Nat.reduceSub, BEq.rfl, beq_self_eq_true, Int.reduceToNat]
      (refine hK _ ?_)
      clear hK K
      refine AWP.ret ?_
      subst hR
      (simp only [en, si, ea, gv, sv, hk, reduceCtorEq, reduceIte, Nat.reduceBEq, Nat.reduceAdd, Nat.reduceEqDiff, Nat.reduceLT, Nat.reduceLeDiff, Nat.reduceMul, Nat.reduceSub, BEq.rfl, beq_self_eq_true, Int.reduceToNat]; done)
    · (simp only [hb, cond_false] at hR)
      refine AWP.skip ?_
      refine AWP.seq ?_
      refine AWP.regP mixed G_ok impl_DropEntry_DD hc 12 [0, 1, 3, 4, 6, 7, 8] (.alt 2 [] [3, 4, 6, 7, 8] (.alt 5 [] [6, 7, 8] (.alt 9 [10] [10] (.alt 11 [] [10] .leaf .stop) (.alt 11 [] [6, 7, 8] (.alt 9 [10] [10] .leaf .stop) .stop)) (.alt 11 [] [3, 4, 6, 7, 8] (.alt 5 [] [6, 7, 8] (.alt 9 [10] [10] .leaf .stop) .stop) .stop)) (.alt 11 [] [0, 1, 3, 4, 6, 7, 8] (.alt 2 [] [3, 4, 6, 7, 8] (.alt 5 [] [6, 7, 8] (.alt 9 [10] [10] .leaf .stop) .stop) .stop) .stop)) (by kernel_rfl) (by kernel_rfl) (by kernel_rfl) (fun K hK => ?_)
      refine join_sim ⟨[(4, .ptr 0 0), (6, .ptr 1 0)], [.box [.nils, .nils], .box [.ref 2 3 0 ((impl_clone_Spare a0.Spares).length), .ref 3 3 0 (((slices_Delete_Entry (impl_clone_Entry a0.Entries) a1 (IntKind.wrap .i64 (a1 + 1)))).length)], .arr 63 3 (impl_clone_Spare a0.Spares).length (fun j => eSpare ((impl_clone_Spare a0.Spares).getD j default)), .arr 66 3 ((slices_Delete_Entry (impl_clone_Entry a0.Entries) a1 (IntKind.wrap .i64 (a1 + 1)))).length (fun j => eEntry (((slices_Delete_Entry (impl_clone_Entry a0.Entries) a1 (IntKind.wrap .i64 (a1 + 1)))).getD j default))]⟩ hK ?_ (fun hJ => ?_)
      rotate_left
      · simp only [rootP, runN, runP, recheck, nthO, ea, absV, absVL, gv, sv, D_impl_ValidStore, D_impl_at, D_impl_clone_Spare, D_slices_Delete_Entry, D_impl_clone_Entry, reduceCtorEq, reduceIte, Nat.reduceBEq, Nat.reduceAdd, Nat.reduceEqDiff, Nat.reduceLT, Nat.reduceLeDiff, Nat.reduceMul, Nat.reduceSub, BEq.rfl, beq_self_eq_true, Int.reduceToNat]
        repeat' apply And.intro
        all_goals first | (refine hJ _ [1, 5, 2, 4] ?_; (simp only [si, ea, gv, sv, hk, reduceCtorEq, reduceIte, Nat.reduceBEq, Nat.reduceAdd, Nat.reduceEqDiff, Nat.reduceLT, Nat.reduceLeDiff, Nat.reduceMul, Nat.reduceSub, BEq.rfl, beq_self_eq_true, Int.reduceToNat]; trivial)) | (refine hJ _ [1, 4, 2, 5] ?_; (simp only [si, ea, gv, sv, hk, reduceCtorEq, reduceIte, Nat.reduceBEq, Nat.reduceAdd, Nat.reduceEqDiff, Nat.reduceLT, Nat.reduceLeDiff, Nat.reduceMul, Nat.reduceSub, BEq.rfl, beq_self_eq_true, Int.reduceToNat]; trivial)) | (refine hJ _ [1, 3, 2, 5] ?_; (simp only [si, ea, gv, sv, hk, reduceCtorEq, reduceIte, Nat.reduceBEq, Nat.reduceAdd, Nat.reduceEqDiff, Nat.reduceLT, Nat.reduceLeDiff, Nat.reduceMul, Nat.reduceSub, BEq.rfl, beq_self_eq_true, Int.reduceToNat]; trivial)) | (refine hJ _ [1, 2, 3, 5] ?_; (simp only [si, ea, gv, sv, hk, reduceCtorEq, reduceIte, Nat.reduceBEq, Nat.reduceAdd, Nat.reduceEqDiff, Nat.reduceLT, Nat.reduceLeDiff, Nat.reduceMul, Nat.reduceSub, BEq.rfl, beq_self_eq_true, Int.reduceToNat]; trivial)) | (first | trivial | omega | (simp only [ob, ln, bdv, impl_at, impl_clone_Spare_id, impl_clone_Entry_id, sv] at *; omega) | ((try clear hK K); (repeat' (intro _)) <;> (simp only [ob, ln, bdv, impl_at, impl_clone_Spare_id, impl_clone_Entry_id, sv] at *; (simp_all; done))))
      clear hK K
      refine AWP.seq ?_
      refine AWP.seq ?_
      refine AWP.regS G_ok impl_DropEntry_DD hc (by kernel_rfl) (fun K hK => ?_); simp only [ea, absV, absVL, gv, sv, D_impl_ValidStore, D_impl_at, D_impl_clone_Spare, D_slices_Delete_Entry, D_impl_clone_Entry, reduceCtorEq, reduceIte, Nat.reduceBEq, Nat.reduceAdd, Nat.reduceEqDiff, Nat.reduceLT, Nat.reduceLeDiff, Nat.reduceMul, Nat.reduceSub, BEq.rfl, beq_self_eq_true, Int.reduceToNat]
      (refine ⟨by (((try clear hK K); (repeat' first | apply And.intro | intro _) <;> first | omega | (right; (simp only [si, ea, gv, sv, hk, reduceCtorEq, reduceIte, Nat.reduceBEq, Nat.reduceAdd, Nat.reduceEqDiff, Nat.reduceLT, Nat.reduceLeDiff, Nat.reduceMul, Nat.reduceSub, BEq.rfl, beq_self_eq_true, Int.reduceToNat]; (and_intros <;> (simp only [ob, ln, bdv, impl_at, impl_clone_Spare_id, impl_clone_Entry_id, sv] at *; (grind [impl_ValidStore_len, slices_Delete_Entry_len, slices_Delete_Entry_mem]))))) | (simp only [ob, ln, bdv, impl_at, impl_clone_Spare_id, impl_clone_Entry_id, sv] at *; first | (simp_all; done) | grind [impl_ValidStore_len, slices_Delete_Entry_len, slices_Delete_Entry_mem]))), hK _ ?_⟩)
      clear hK K
      refine AWP.cond rfl (fun hb => ?_) (fun hb => ?_)
      · (simp only [hb, cond_true] at hR)
        refine AWP.seq ?_
        refine AWP.regS G_ok impl_DropEntry_DD hc (by kernel_rfl) (fun K hK => ?_); simp only [ea, absV, absVL, gv, sv, D_impl_ValidStore, D_impl_at, D_impl_clone_Spare, D_slices_Delete_Entry, D_impl_clone_Entry, reduceCtorEq, reduceIte, Nat.reduceBEq, Nat.reduceAdd, Nat.reduceEqDiff, Nat.reduceLT, Nat.reduceLeDiff, Nat.reduceMul, Nat.reduceSub, BEq.rfl, beq_self_eq_true, Int.reduceToNat]
        (refine hK _ ?_)
        clear hK K
        refine AWP.ret ?_
        subst hR
        (simp only [en, si, ea, gv, sv, hk, reduceCtorEq, reduceIte, Nat.reduceBEq, Nat.reduceAdd, Nat.reduceEqDiff, Nat.reduceLT, Nat.reduceLeDiff, Nat.reduceMul, Nat.reduceSub, BEq.rfl, beq_self_eq_true, Int.reduceToNat]; done)
      · (simp only [hb, cond_false] at hR)
        refine AWP.skip ?_
        refine AWP.seq ?_
        refine AWP.regS G_ok impl_DropEntry_DD hc (by kernel_rfl) (fun K hK => ?_); simp only [ea, absV, absVL, gv, sv, D_impl_ValidStore, D_impl_at, D_impl_clone_Spare, D_slices_Delete_Entry, D_impl_clone_Entry, reduceCtorEq, reduceIte, Nat.reduceBEq, Nat.reduceAdd, Nat.reduceEqDiff, Nat.reduceLT, Nat.reduceLeDiff, Nat.reduceMul, Nat.reduceSub, BEq.rfl, beq_self_eq_true, Int.reduceToNat]
        (refine hK _ ?_)
        clear hK K
        refine AWP.ret ?_
        subst hR
        (simp only [en, si, ea, gv, sv, hk, reduceCtorEq, reduceIte, Nat.reduceBEq, Nat.reduceAdd, Nat.reduceEqDiff, Nat.reduceLT, Nat.reduceLeDiff, Nat.reduceMul, Nat.reduceSub, BEq.rfl, beq_self_eq_true, Int.reduceToNat]; (and_intros <;> omega))
def D_impl_DropEntry : DF
  | [x0, x1] => some (.tup [.agg (eStoreO ((impl_DropEntry (rdG dStore x0) (rdI x1)).1)), .int .i64 ((impl_DropEntry (rdG dStore x0) (rdI x1)).2)], false, [wG eStore dStore x0, wI .i64 x1, bdStore (rdG dStore x0)])
  | _ => none
def Dz_impl_DropEntry : DF
  | [x0, x1] => some (.tup [.agg (eStoreO ((impl_DropEntry (rdG dStore x0) (rdI x1)).1)), .int .i64 ((impl_DropEntry (rdG dStore x0) (rdI x1)).2)], true, [wG eStore dStore x0, wI .i64 x1, bdStore (rdG dStore x0)])
  | _ => none
theorem D_impl_DropEntry_ok : OkD Try.prog 36 D_impl_DropEntry := by
  intro xs r z ob h ho
  unfold D_impl_DropEntry at h
  split at h
  · simp only [Option.some.injEq, Prod.mk.injEq] at h
    obtain ⟨rfl, rfl, rfl⟩ := h
    obtain ⟨h0, h1, hb0, _⟩ := ho
    exact Den.sim (impl_DropEntry_den _ _ hb0) (simOL_cons (wG_sim h0).1 <| simOL_cons (wI_sim h1).1 <| trivial) (noIdL_cons (wG_sim h0).2 <| noIdL_cons (wI_sim h1).2 <| rfl) rfl
  · cases h
theorem Dz_impl_DropEntry_ok : OkD Try.prog 36 Dz_impl_DropEntry := by
  intro xs r z ob h ho
  unfold Dz_impl_DropEntry at h
  split at h
  · simp only [Option.some.injEq, Prod.mk.injEq] at h
    obtain ⟨rfl, rfl, rfl⟩ := h
    obtain ⟨h0, h1, hb0, _⟩ := ho
    exact Den.sim (impl_DropEntry_den _ _ hb0) (simOL_cons (wG_sim h0).1 <| simOL_cons (wI_sim h1).1 <| trivial) (noIdL_cons (wG_sim h0).2 <| noIdL_cons (wI_sim h1).2 <| rfl) rfl
  · cases h
end Go.Ab

namespace Go.Ab
open Go Go.Proofs
theorem impl_Store_put_len (a : Store) (e : Entry) (hl : a.Entries.length < 9223372036854775808) : (impl_Store_put a e).1.Spares.length ≤ a.Spares.length ∧ (impl_Store_put a e).1.Entries.length ≤ 48 := by
  obtain ⟨j, h1, h2, h3, h4⟩ := impl_Store_put_spec a e hl
  rw [h4]
  cases (impl_Store_spareOf a e.Item).2 with
  | false => simp
  | true =>
    cases ((a.Entries.length : Int) == 48) with
    | true => simp
    | false =>
      cases hv : impl_ValidStore { Spares := a.Spares, Entries := a.Entries.take j ++ [e] ++ a.Entries.drop j : Store } with
      | false => simp
      | true =>
        simp only [Bool.not_true, cond_false]
        exact ⟨Nat.le_refl _, (impl_ValidStore_len _ hv).2⟩
theorem impl_AddEntry_len (a : Store) (e : Entry) : (impl_AddEntry a e).1.Spares.length ≤ 16 ∧ (impl_AddEntry a e).1.Entries.length ≤ 48 := by
  unfold impl_AddEntry
  cases hv : impl_ValidStore a with
  | false => simp
  | true =>
    cases impl_isEntry e with
    | false => simp
    | true =>
      have := impl_ValidStore_len a hv
      have h2 := impl_Store_put_len a e (by omega)
      simp only [Bool.not_true, Bool.or_self, cond_false]
      omega
theorem impl_AddSpare_len (a : Store) (x : Spare) : (impl_AddSpare a x).1.Spares.length ≤ 17 ∧ (impl_AddSpare a x).1.Entries.length ≤ 48 := by
  unfold impl_AddSpare
  cases hv : impl_ValidStore a with
  | false => simp
  | true =>
    have := impl_ValidStore_len a hv
    cases impl_isSpare x with
    | false => simp
    | true =>
      cases (impl_Store_spareOf a x.Name).2 with
      | true => simp
      | false =>
        cases ((a.Spares.length : Int) == 16) with
        | true => simp
        | false =>
          simp only [Bool.not_true, Bool.or_self, cond_false, impl_clone_Spare_id, impl_clone_Entry_id, slices_Insert_Spare_len, List.length_cons, List.length_nil]
          omega
theorem impl_DropEntry_len (a : Store) (k : Int) : (impl_DropEntry a k).1.Spares.length ≤ 16 ∧ (impl_DropEntry a k).1.Entries.length ≤ 48 := by
  unfold impl_DropEntry
  cases hv : impl_ValidStore a with
  | false => simp
  | true =>
    cases impl_at k (a.Entries.length : Int) with
    | false => simp
    | true =>
      cases hv2 : impl_ValidStore ({ Spares := (impl_clone_Spare a.Spares), Entries := ((slices_Delete_Entry (impl_clone_Entry a.Entries) k (IntKind.wrap .i64 (k + 1)))) : Store }) with
      | false => simp
      | true =>
        have := impl_ValidStore_len _ hv2
        simpa using this
end Go.Ab

namespace Go.Ab
open Go Go.Proofs
theorem impl_TakeAll_len (a : Store) (d : Int) (n : List Entry) : (impl_TakeAll a d n).1.Spares.length ≤ 16 ∧ (impl_TakeAll a d n).1.Entries.length ≤ 48 := by
  unfold impl_TakeAll
  cases hv : impl_ValidStore a with
  | false => simp
  | true =>
    have hl := impl_ValidStore_len a hv
    cases slices_ContainsFunc_Entry__impl_TakeAll_1 n with
    | true => simp
    | false =>
      cases impl_isDay d with
      | false => simp
      | true =>
        simp only [Bool.not_true, Bool.or_self, cond_false]
        split
        · rename_i e he
          obtain ⟨j, t, h1, h2, h3⟩ := loopR_error he
          simp only [impl_TakeAll_b1, Bool.cond_eq_ite] at h3
          split at h3
          · simp only [Except.error.injEq] at h3
            rw [← h3]; simp
          · cases h3
        · rename_i s hs
          have := loopR_keep (fun i s => s.1.length ≤ 16 ∧ s.2.length ≤ 48) hs (by simp only [impl_clone_Spare_id, impl_clone_Entry_id]; exact hl) (by
            intro j u v g1 g2 g3 g4
            simp only [impl_TakeAll_b1, Bool.cond_eq_ite] at g4
            split at g4
            · cases g4
            · simp only [Except.ok.injEq] at g4
              have := impl_Store_put_len { Spares := u.1, Entries := u.2 : Store } ({ Day := d, Item := (n.getD j default).Item, Amount := IntKind.wrap .i64 (0 - ((n.getD j default).Amount)) : Entry }) (by simp only; omega)
              simp only at this
              rw [← g4]
              simp only
              omega)
          exact this
end Go.Ab

namespace Go.Ab
open Go Go.Proofs
theorem spec_TakeAll_DD : DOk Try.prog (DD [(101, dP D_spec_l03Day), (108, dP D_spec_l29Entry), (109, dP D_spec_l29Add), (63, dP D_spec_l29Ok), (93, dP D_spec_l29Own)]) := DD_cons D_spec_l03Day_ok.e <| DD_cons D_spec_l29Entry_ok.e <| DD_cons D_spec_l29Add_ok.e <| DD_cons D_spec_l29Ok_ok.e <| DD_cons D_spec_l29Own_ok.e <| DD_nil _
def spec_TakeAll_b1 (a0 : Store) (a1 : Int) (a2 : (List Entry)) (i1 : Nat) (s1 : Unit) : Except ((Store × Int)) (Unit) :=
  (bif ((!(spec_l29Entry (a2.getD i1 default))) || decide (((a2.getD i1 default).Amount) < 0)) then .error ({ Spares := [], Entries := [] : Store }, 1) else .ok ())
def spec_TakeAll_b2 (a0 : Store) (a1 : Int) (a2 : (List Entry)) (s1 : Unit) (i2 : Nat) (s2 : List Spare × List Entry) : Except ((Store × Int)) (List Spare × List Entry) :=
  (bif (((spec_l29Add ({ Spares := s2.1, Entries := s2.2 : Store }) ({ Day := a1, Item := (a2.getD i2 default).Item, Amount := IntKind.wrap .i64 (0 - ((a2.getD i2 default).Amount)) : Entry })).2) != 0) then .error ({ Spares := [], Entries := [] : Store }, (spec_l29Add ({ Spares := s2.1, Entries := s2.2 : Store }) ({ Day := a1, Item := (a2.getD i2 default).Item, Amount := IntKind.wrap .i64 (0 - ((a2.getD i2 default).Amount)) : Entry })).2) else .ok (((spec_l29Add ({ Spares := s2.1, Entries := s2.2 : Store }) ({ Day := a1, Item := (a2.getD i2 default).Item, Amount := IntKind.wrap .i64 (0 - ((a2.getD i2 default).Amount)) : Entry })).1).Spares, ((spec_l29Add ({ Spares := s2.1, Entries := s2.2 : Store }) ({ Day := a1, Item := (a2.getD i2 default).Item, Amount := IntKind.wrap .i64 (0 - ((a2.getD i2 default).Amount)) : Entry })).1).Entries))
def spec_TakeAll (a0 : Store) (a1 : Int) (a2 : (List Entry)) : (Store × Int) :=
  (bif (!(spec_l29Ok a0)) then ({ Spares := [], Entries := [] : Store }, 1) else (match loopR (spec_TakeAll_b1 a0 a1 a2) (a2.length - 0) 0 () with | .error e => e | .ok s1 => (bif (!(spec_l03Day a1)) then ({ Spares := [], Entries := [] : Store }, 2) else (match loopR (spec_TakeAll_b2 a0 a1 a2 s1) (a2.length - 0) 0 ((spec_l29Own a0).Spares, (spec_l29Own a0).Entries) with | .error e => e | .ok s2 => ({ Spares := s2.1, Entries := s2.2 : Store }, 0)))))
theorem spec_TakeAll_den (a0 : Store) (a1 : Int) (a2 : (List Entry)) (hb0 : bdStore a0) (hb1 : a2.length < 1099511627776) (hb2 : ∀ v ∈ a2, bdEntry v) : Den Try.prog 57 [.agg (eStore a0), .int .i64 a1, encL 3 eEntry a2] (.tup [.agg (eStoreO ((spec_TakeAll a0 a1 a2).1)), .int .i64 ((spec_TakeAll a0 a1 a2).2)]) := by
  generalize hR : spec_TakeAll a0 a1 a2 = r
  unfold spec_TakeAll at hR
  refine den_intro G_ok Try.func57 (by kernel_rfl) rfl Try.ntmps57 (by rw [Try.results57]) (by simp) rfl ?_
  intro c hL hc hk
  obtain ⟨hL0, hL1, hL2, _⟩ := hL
  have hw0 : bwStore a0 := Store_lens a0 hL0
  have hw1 : a2.length < 9223372036854775808 := Nat.lt_succ_of_le (lens_encL hL2).1
  have hw2 : ∀ v ∈ a2, bwEntry v := fun v hv => Entry_lens v ((lens_encL hL2).2 v hv)
  clear hL0 hL1 hL2
  simp only [pars, Nat.zero_add]
  refine AWP.seq ?_
  refine AWP.regS G_ok spec_TakeAll_DD hc (by kernel_rfl) (fun K hK => ?_); simp only [ea, gv, sv, D_spec_l03Day, D_spec_l29Entry, D_spec_l29Add, D_spec_l29Ok, D_spec_l29Own, reduceCtorEq, reduceIte, Nat.reduceBEq, Nat.reduceAdd, Nat.reduceEqDiff, Nat.reduceLT, Nat.reduceLeDiff, Nat.reduceMul, Nat.reduceSub, BEq.rfl, beq_self_eq_true, Int.reduceToNat]
  (refine hK _ ?_)
  clear hK K
  refine AWP.seq ?_
  refine AWP.seq ?_
  refine AWP.regS G_ok spec_TakeAll_DD hc (by kernel_rfl) (fun K hK => ?_); simp only [ea, gv, sv, D_spec_l03Day, D_spec_l29Entry, D_spec_l29Add, D_spec_l29Ok, D_spec_l29Own, reduceCtorEq, reduceIte, Nat.reduceBEq, Nat.reduceAdd, Nat.reduceEqDiff, Nat.reduceLT, Nat.reduceLeDiff, Nat.reduceMul, Nat.reduceSub, BEq.rfl, beq_self_eq_true, Int.reduceToNat]
  (refine hK _ ?_)
  clear hK K
  refine AWP.cond rfl (fun hb => ?_) (fun hb => ?_)
  · (simp only [hb, cond_true] at hR)
    refine AWP.seq ?_
    refine AWP.regS G_ok spec_TakeAll_DD hc (by kernel_rfl) (fun K hK => ?_); simp only [ea, gv, sv, D_spec_l03Day, D_spec_l29Entry, D_spec_l29Add, D_spec_l29Ok, D_spec_l29Own, reduceCtorEq, reduceIte, Nat.reduceBEq, Nat.reduceAdd, Nat.reduceEqDiff, Nat.reduceLT, Nat.reduceLeDiff, Nat.reduceMul, Nat.reduceSub, BEq.rfl, beq_self_eq_true, Int.reduceToNat]
    (refine hK _ ?_)
    clear hK K
    refine AWP.ret ?_
    subst hR
    (simp only [en, si, ea, gv, sv, hk, reduceCtorEq, reduceIte, Nat.reduceBEq, Nat.reduceAdd, Nat.reduceEqDiff, Nat.reduceLT, Nat.reduceLeDiff, Nat.reduceMul, Nat.reduceSub, BEq.rfl, beq_self_eq_true, Int.reduceToNat]; done)
  · (simp only [hb, cond_false] at hR)
    refine AWP.skip ?_
    refine AWP.seq ?_
    refine AWP.seq ?_
    refine AWP.regS G_ok spec_TakeAll_DD hc (by kernel_rfl) (fun K hK => ?_); simp only [ea, gv, sv, D_spec_l03Day, D_spec_l29Entry, D_spec_l29Add, D_spec_l29Ok, D_spec_l29Own, reduceCtorEq, reduceIte, Nat.reduceBEq, Nat.reduceAdd, Nat.reduceEqDiff, Nat.reduceLT, Nat.reduceLeDiff, Nat.reduceMul, Nat.reduceSub, BEq.rfl, beq_self_eq_true, Int.reduceToNat]
    (refine hK _ ?_)
    clear hK K
    refine AWP.block ?_
    generalize hz1 : loopR (spec_TakeAll_b1 a0 a1 a2) (a2.length - 0) 0 () = z1 at hR
    refine AWP.range (spec_TakeAll_b1 a0 a1 a2) (fun i1 s1 => ⟨[(1, .int .i64 a1), (2, encL 3 eEntry a2), (3, .ptr 0 0), (6, .ptr 1 0), (8, .int .i64 (i1 : Int))], [.box [encL 3 eSpare a0.Spares, encL 3 eEntry a0.Entries], .box [.nils, .nils]]⟩) (fun i1 s1 => True) (a2.length) 0 () [0, 1] hz1 (by (omega)) (by (trivial)) (by (simp only [si, ea, gv, sv, hk, reduceCtorEq, reduceIte, Nat.reduceBEq, Nat.reduceAdd, Nat.reduceEqDiff, Nat.reduceLT, Nat.reduceLeDiff, Nat.reduceMul, Nat.reduceSub, BEq.rfl, beq_self_eq_true, Int.reduceToNat]; trivial)) ?_
    clear hz1
    intro i1 s1 hi1 hW1 hz1
    refine AWP.seq ?_
    refine AWP.seq ?_
    refine AWP.regS G_ok spec_TakeAll_DD hc (by kernel_rfl) (fun K hK => ?_); simp only [ea, gv, sv, D_spec_l03Day, D_spec_l29Entry, D_spec_l29Add, D_spec_l29Ok, D_spec_l29Own, reduceCtorEq, reduceIte, Nat.reduceBEq, Nat.reduceAdd, Nat.reduceEqDiff, Nat.reduceLT, Nat.reduceLeDiff, Nat.reduceMul, Nat.reduceSub, BEq.rfl, beq_self_eq_true, Int.reduceToNat]
    (refine hK _ ?_)
    clear hK K
    refine AWP.cond rfl (fun hb => ?_) (fun hb => ?_)
    · have hlt1 : i1 < a2.length := by ((simp only [ob, ln, bdv, spec_l29Own_id, sv] at *; omega))
      rw [loopR_lt hlt1] at hz1; simp only [spec_TakeAll_b1] at hz1
      refine AWP.skip ?_
      refine AWP.seq ?_
      refine AWP.block ?_
      refine AWP.seq ?_
      refine AWP.regS G_ok spec_TakeAll_DD hc (by kernel_rfl) (fun K hK => ?_); simp only [ea, gv, sv, D_spec_l03Day, D_spec_l29Entry, D_spec_l29Add, D_spec_l29Ok, D_spec_l29Own, reduceCtorEq, reduceIte, Nat.reduceBEq, Nat.reduceAdd, Nat.reduceEqDiff, Nat.reduceLT, Nat.reduceLeDiff, Nat.reduceMul, Nat.reduceSub, BEq.rfl, beq_self_eq_true, Int.reduceToNat]
      (refine ⟨by (omega), hK _ ?_⟩)
      clear hK K
      refine AWP.cond rfl (fun hb => ?_) (fun hb => ?_)
      · (simp only [hb, cond_true] at hz1)
        refine AWP.seq ?_
        refine AWP.regS G_ok spec_TakeAll_DD hc (by kernel_rfl) (fun K hK => ?_); simp only [ea, gv, sv, D_spec_l03Day, D_spec_l29Entry, D_spec_l29Add, D_spec_l29Ok, D_spec_l29Own, reduceCtorEq, reduceIte, Nat.reduceBEq, Nat.reduceAdd, Nat.reduceEqDiff, Nat.reduceLT, Nat.reduceLeDiff, Nat.reduceMul, Nat.reduceSub, BEq.rfl, beq_self_eq_true, Int.reduceToNat]
        (refine hK _ ?_)
        clear hK K
        refine AWP.ret ?_
        subst hz1
        dsimp only at hR
        subst hR
        (simp only [en, si, ea, gv, sv, hk, reduceCtorEq, reduceIte, Nat.reduceBEq, Nat.reduceAdd, Nat.reduceEqDiff, Nat.reduceLT, Nat.reduceLeDiff, Nat.reduceMul, Nat.reduceSub, BEq.rfl, beq_self_eq_true, Int.reduceToNat]; done)
      · (simp only [hb, cond_false] at hz1)
        refine AWP.skip ?_
        refine AWP.regS G_ok spec_TakeAll_DD hc (by kernel_rfl) (fun K hK => ?_); simp only [ea, gv, sv, D_spec_l03Day, D_spec_l29Entry, D_spec_l29Add, D_spec_l29Ok, D_spec_l29Own, reduceCtorEq, reduceIte, Nat.reduceBEq, Nat.reduceAdd, Nat.reduceEqDiff, Nat.reduceLT, Nat.reduceLeDiff, Nat.reduceMul, Nat.reduceSub, BEq.rfl, beq_self_eq_true, Int.reduceToNat]
        (refine hK _ ?_)
        clear hK K
        exact ⟨_, [0, 1], hlt1, by (trivial), hz1, by (simp only [si, ea, gv, sv, hk, reduceCtorEq, reduceIte, Nat.reduceBEq, Nat.reduceAdd, Nat.reduceEqDiff, Nat.reduceLT, Nat.reduceLeDiff, Nat.reduceMul, Nat.reduceSub, BEq.rfl, beq_self_eq_true, Int.reduceToNat]; (and_intros <;> first | trivial | (rw [IntKind.wrap_i64]; omega)))⟩
    · obtain rfl : i1 = a2.length := by ((simp only [ob, ln, bdv, spec_l29Own_id, sv] at *; omega))
      rw [loopR_ge (Nat.le_refl _)] at hz1; subst hz1; dsimp only at hR
      refine AWP.exit ?_; refine exitTo_here ?_
      refine AWP.seq ?_
      refine AWP.seq ?_
      refine AWP.regS G_ok spec_TakeAll_DD hc (by kernel_rfl) (fun K hK => ?_); simp only [ea, gv, sv, D_spec_l03Day, D_spec_l29Entry, D_spec_l29Add, D_spec_l29Ok, D_spec_l29Own, reduceCtorEq, reduceIte, Nat.reduceBEq, Nat.reduceAdd, Nat.reduceEqDiff, Nat.reduceLT, Nat.reduceLeDiff, Nat.reduceMul, Nat.reduceSub, BEq.rfl, beq_self_eq_true, Int.reduceToNat]
      (refine hK _ ?_)
      clear hK K
      refine AWP.cond rfl (fun hb => ?_) (fun hb => ?_)
      · (simp only [hb, cond_true] at hR)
        refine AWP.seq ?_
        refine AWP.regS G_ok spec_TakeAll_DD hc (by kernel_rfl) (fun K hK => ?_); simp only [ea, gv, sv, D_spec_l03Day, D_spec_l29Entry, D_spec_l29Add, D_spec_l29Ok, D_spec_l29Own, reduceCtorEq, reduceIte, Nat.reduceBEq, Nat.reduceAdd, Nat.reduceEqDiff, Nat.reduceLT, Nat.reduceLeDiff, Nat.reduceMul, Nat.reduceSub, BEq.rfl, beq_self_eq_true, Int.reduceToNat]
        (refine hK _ ?_)
        clear hK K
        refine AWP.ret ?_
        subst hR
        (simp only [en, si, ea, gv, sv, hk, reduceCtorEq, reduceIte, Nat.reduceBEq, Nat.reduceAdd, Nat.reduceEqDiff, Nat.reduceLT, Nat.reduceLeDiff, Nat.reduceMul, Nat.reduceSub, BEq.rfl, beq_self_eq_true, Int.reduceToNat]; done)
      · (simp only [hb, cond_false] at hR)
        refine AWP.skip ?_
        refine AWP.seq ?_
        refine AWP.regS G_ok spec_TakeAll_DD hc (by kernel_rfl) (fun K hK => ?_); simp only [ea, gv, sv, D_spec_l03Day, D_spec_l29Entry, D_spec_l29Add, D_spec_l29Ok, D_spec_l29Own, reduceCtorEq, reduceIte, Nat.reduceBEq, Nat.reduceAdd, Nat.reduceEqDiff, Nat.reduceLT, Nat.reduceLeDiff, Nat.reduceMul, Nat.reduceSub, BEq.rfl, beq_self_eq_true, Int.reduceToNat]
        (refine ⟨by (trivial), hK _ ?_⟩)
        clear hK K
        refine AWP.seq ?_
        refine AWP.seq ?_
        refine AWP.regS G_ok spec_TakeAll_DD hc (by kernel_rfl) (fun K hK => ?_); simp only [ea, gv, sv, D_spec_l03Day, D_spec_l29Entry, D_spec_l29Add, D_spec_l29Ok, D_spec_l29Own, reduceCtorEq, reduceIte, Nat.reduceBEq, Nat.reduceAdd, Nat.reduceEqDiff, Nat.reduceLT, Nat.reduceLeDiff, Nat.reduceMul, Nat.reduceSub, BEq.rfl, beq_self_eq_true, Int.reduceToNat]
        (refine hK _ ?_)
        clear hK K
        refine AWP.block ?_
        generalize hz2 : loopR (spec_TakeAll_b2 a0 a1 a2 s1) (a2.length - 0) 0 ((spec_l29Own a0).Spares, (spec_l29Own a0).Entries) = z2 at hR
        refine AWP.range (spec_TakeAll_b2 a0 a1 a2 s1) (fun i2 s2 => ⟨[(1, .int .i64 a1), (2, encL 3 eEntry a2), (6, .ptr 0 0), (9, .ptr 1 0), (10, .int .i64 (i2 : Int))], [.box [.nils, .nils], .box [.ref 2 3 0 s2.1.length, .ref 3 3 0 s2.2.length], .arr 63 3 s2.1.length (fun j => eSpare (s2.1.getD j default)), .arr 66 3 s2.2.length (fun j => eEntry (s2.2.getD j default))]⟩) (fun i2 s2 => s2.2.length ≤ 48 ∧ s2.1.length ≤ 16 ∧ (∀ v ∈ s2.1, bdSpare v) ∧ ∀ v ∈ s2.2, bdEntry v) (a2.length) 0 ((spec_l29Own a0).Spares, (spec_l29Own a0).Entries) [1, 4, 2, 3] hz2 (by (omega)) (by (have hv := spec_l29Ok_len a0 (by simp_all); simp only [spec_l29Own_id]; exact ⟨hv.2, hv.1, hb0.1.2, hb0.2.2⟩)) (by (simp only [si, ea, gv, sv, hk, reduceCtorEq, reduceIte, Nat.reduceBEq, Nat.reduceAdd, Nat.reduceEqDiff, Nat.reduceLT, Nat.reduceLeDiff, Nat.reduceMul, Nat.reduceSub, BEq.rfl, beq_self_eq_true, Int.reduceToNat]; trivial)) ?_
        clear hz2
        intro i2 s2 hi2 hW2 hz2
        have hV2 := hW2; obtain ⟨hV2_0, hV2_1, hV2_2, hV2_3⟩ := hV2
        refine AWP.seq ?_
        refine AWP.seq ?_
        refine AWP.regS G_ok spec_TakeAll_DD hc (by kernel_rfl) (fun K hK => ?_); simp only [ea, gv, sv, D_spec_l03Day, D_spec_l29Entry, D_spec_l29Add, D_spec_l29Ok, D_spec_l29Own, reduceCtorEq, reduceIte, Nat.reduceBEq, Nat.reduceAdd, Nat.reduceEqDiff, Nat.reduceLT, Nat.reduceLeDiff, Nat.reduceMul, Nat.reduceSub, BEq.rfl, beq_self_eq_true, Int.reduceToNat]
        (refine hK _ ?_)
        clear hK K
        refine AWP.cond rfl (fun hb => ?_) (fun hb => ?_)
        · have hlt2 : i2 < a2.length := by ((simp only [ob, ln, bdv, spec_l29Own_id, sv] at *; omega))
          rw [loopR_lt hlt2] at hz2; simp only [spec_TakeAll_b2] at hz2
          refine AWP.skip ?_
          refine AWP.seq ?_
          refine AWP.block ?_
          refine AWP.seq ?_
          refine AWP.regP mixed G_ok spec_TakeAll_DD hc 19 [0, 1, 2, 3, 4, 5, 6, 7, 8, 9, 10, 11, 12] (.alt 13 [14, 15, 16] [1, 2, 6, 7, 8, 14, 15, 16] (.alt 17 [] [1, 2, 6, 7, 8, 14, 15, 16] (.alt 18 [] [16] .leaf .stop) .stop) (.alt 17 [] [0, 1, 2, 3, 4, 5, 6, 7, 8, 9, 10, 11, 12] (.alt 13 [14, 15, 16] [1, 2, 6, 7, 8, 14, 15, 16] (.alt 18 [] [16] .leaf .stop) .stop) .stop)) (by kernel_rfl) (by kernel_rfl) (by kernel_rfl) (fun K hK => ?_)
          refine join_sim ⟨[(1, .int .i64 a1), (2, encL 3 eEntry a2), (6, .ptr 0 0), (9, .ptr 1 0), (10, .int .i64 (i2 : Int)), (11, .ptr 4 0), (12, .int .i64 ((spec_l29Add ({ Spares := s2.1, Entries := s2.2 : Store }) ({ Day := a1, Item := (a2.getD i2 default).Item, Amount := IntKind.wrap .i64 (0 - ((a2.getD i2 default).Amount)) : Entry })).2))], [.box [.nils, .nils], .box [.ref 2 3 0 s2.1.length, .ref 3 3 0 s2.2.length], .arr 63 3 s2.1.length (fun j => eSpare (s2.1.getD j default)), .arr 66 3 s2.2.length (fun j => eEntry (s2.2.getD j default)), .box [.ref 5 3 0 ((((spec_l29Add ({ Spares := s2.1, Entries := s2.2 : Store }) ({ Day := a1, Item := (a2.getD i2 default).Item, Amount := IntKind.wrap .i64 (0 - ((a2.getD i2 default).Amount)) : Entry })).1).Spares).length), .ref 6 3 0 ((((spec_l29Add ({ Spares := s2.1, Entries := s2.2 : Store }) ({ Day := a1, Item := (a2.getD i2 default).Item, Amount := IntKind.wrap .i64 (0 - ((a2.getD i2 default).Amount)) : Entry })).1).Entries).length)], .arr 63 3 (((spec_l29Add ({ Spares := s2.1, Entries := s2.2 : Store }) ({ Day := a1, Item := (a2.getD i2 default).Item, Amount := IntKind.wrap .i64 (0 - ((a2.getD i2 default).Amount)) : Entry })).1).Spares).length (fun j => eSpare ((((spec_l29Add ({ Spares := s2.1, Entries := s2.2 : Store }) ({ Day := a1, Item := (a2.getD i2 default).Item, Amount := IntKind.wrap .i64 (0 - ((a2.getD i2 default).Amount)) : Entry })).1).Spares).getD j default)), .arr 66 3 (((spec_l29Add ({ Spares := s2.1, Entries := s2.2 : Store }) ({ Day := a1, Item := (a2.getD i2 default).Item, Amount := IntKind.wrap .i64 (0 - ((a2.getD i2 default).Amount)) : Entry })).1).Entries).length (fun j => eEntry ((((spec_l29Add ({ Spares := s2.1, Entries := s2.2 : Store }) ({ Day := a1, Item := (a2.getD i2 default).Item, Amount := IntKind.wrap .i64 (0 - ((a2.getD i2 default).Amount)) : Entry })).1).Entries).getD j default))]⟩ hK ?_ (fun hJ => ?_)
          rotate_left
          · simp only [rootP, runN, runP, recheck, nthO, ea, gv, sv, D_spec_l03Day, D_spec_l29Entry, D_spec_l29Add, D_spec_l29Ok, D_spec_l29Own, reduceCtorEq, reduceIte, Nat.reduceBEq, Nat.reduceAdd, Nat.reduceEqDiff, Nat.reduceLT, Nat.reduceLeDiff, Nat.reduceMul, Nat.reduceSub, BEq.rfl, beq_self_eq_true, Int.reduceToNat]
            repeat' apply And.intro
            all_goals first | (refine hJ _ [0, 1, 2, 3, 6, 4, 5] ?_; (simp only [si, ea, gv, sv, hk, reduceCtorEq, reduceIte, Nat.reduceBEq, Nat.reduceAdd, Nat.reduceEqDiff, Nat.reduceLT, Nat.reduceLeDiff, Nat.reduceMul, Nat.reduceSub, BEq.rfl, beq_self_eq_true, Int.reduceToNat]; trivial)) | (refine hJ _ [0, 1, 2, 3, 4, 5, 6] ?_; (simp only [si, ea, gv, sv, hk, reduceCtorEq, reduceIte, Nat.reduceBEq, Nat.reduceAdd, Nat.reduceEqDiff, Nat.reduceLT, Nat.reduceLeDiff, Nat.reduceMul, Nat.reduceSub, BEq.rfl, beq_self_eq_true, Int.reduceToNat]; trivial)) | (first | trivial | omega | (simp only [ob, ln, bdv, spec_l29Own_id, sv] at *; omega) | ((try clear hK K); (repeat' (apply And.intro)) <;> (simp only [ob, ln, bdv, spec_l29Own_id, sv] at *; (simp_all; done))))
          clear hK K
          refine AWP.seq ?_
          refine AWP.seq ?_
          refine AWP.regS G_ok spec_TakeAll_DD hc (by kernel_rfl) (fun K hK => ?_); simp only [ea, gv, sv, D_spec_l03Day, D_spec_l29Entry, D_spec_l29Add, D_spec_l29Ok, D_spec_l29Own, reduceCtorEq, reduceIte, Nat.reduceBEq, Nat.reduceAdd, Nat.reduceEqDiff, Nat.reduceLT, Nat.reduceLeDiff, Nat.reduceMul, Nat.reduceSub, BEq.rfl, beq_self_eq_true, Int.reduceToNat]
          (refine hK _ ?_)
          clear hK K
          refine AWP.cond rfl (fun hb => ?_) (fun hb => ?_)
          · (simp only [hb, cond_true] at hz2)
            refine AWP.seq ?_
            refine AWP.regS G_ok spec_TakeAll_DD hc (by kernel_rfl) (fun K hK => ?_); simp only [ea, gv, sv, D_spec_l03Day, D_spec_l29Entry, D_spec_l29Add, D_spec_l29Ok, D_spec_l29Own, reduceCtorEq, reduceIte, Nat.reduceBEq, Nat.reduceAdd, Nat.reduceEqDiff, Nat.reduceLT, Nat.reduceLeDiff, Nat.reduceMul, Nat.reduceSub, BEq.rfl, beq_self_eq_true, Int.reduceToNat]
            (refine hK _ ?_)
            clear hK K
            refine AWP.ret ?_
            subst hz2
            dsimp only at hR
            subst hR
            (simp only [en, si, ea, gv, sv, hk, reduceCtorEq, reduceIte, Nat.reduceBEq, Nat.reduceAdd, Nat.reduceEqDiff, Nat.reduceLT, Nat.reduceLeDiff, Nat.reduceMul, Nat.reduceSub, BEq.rfl, beq_self_eq_true, Int.reduceToNat]; done)
          · (simp only [hb, cond_false] at hz2)
            refine AWP.skip ?_
            refine AWP.regS G_ok spec_TakeAll_DD hc (by kernel_rfl) (fun K hK => ?_); simp only [ea, gv, sv, D_spec_l03Day, D_spec_l29Entry, D_spec_l29Add, D_spec_l29Ok, D_spec_l29Own, reduceCtorEq, reduceIte, Nat.reduceBEq, Nat.reduceAdd, Nat.reduceEqDiff, Nat.reduceLT, Nat.reduceLeDiff, Nat.reduceMul, Nat.reduceSub, BEq.rfl, beq_self_eq_true, Int.reduceToNat]
            (refine hK _ ?_)
            clear hK K
            refine AWP.regS G_ok spec_TakeAll_DD hc (by kernel_rfl) (fun K hK => ?_); simp only [ea, gv, sv, D_spec_l03Day, D_spec_l29Entry, D_spec_l29Add, D_spec_l29Ok, D_spec_l29Own, reduceCtorEq, reduceIte, Nat.reduceBEq, Nat.reduceAdd, Nat.reduceEqDiff, Nat.reduceLT, Nat.reduceLeDiff, Nat.reduceMul, Nat.reduceSub, BEq.rfl, beq_self_eq_true, Int.reduceToNat]
            (refine hK _ ?_)
            clear hK K
            exact ⟨_, [0, 1, 5, 6], hlt2, by (have hk9 := spec_l29Add_keep ({ Spares := s2.1, Entries := s2.2 : Store }) ({ Day := a1, Item := (a2.getD i2 default).Item, Amount := IntKind.wrap .i64 (0 - ((a2.getD i2 default).Amount)) : Entry }) (by simp only; omega) (by simpa using hb); refine ⟨hk9.2.1, by rw [hk9.1]; exact hW2.2.1, by rw [hk9.1]; exact hW2.2.2.1, fun v hv => ?_⟩; rcases hk9.2.2 v hv with h | h; exact hW2.2.2.2 v h; subst h; exact bd_getD (p := bdEntry) hb2 (by decide) i2), hz2, by (simp only [si, ea, gv, sv, hk, reduceCtorEq, reduceIte, Nat.reduceBEq, Nat.reduceAdd, Nat.reduceEqDiff, Nat.reduceLT, Nat.reduceLeDiff, Nat.reduceMul, Nat.reduceSub, BEq.rfl, beq_self_eq_true, Int.reduceToNat]; (and_intros <;> first | trivial | (rw [IntKind.wrap_i64]; omega)))⟩
        · obtain rfl : i2 = a2.length := by ((simp only [ob, ln, bdv, spec_l29Own_id, sv] at *; omega))
          rw [loopR_ge (Nat.le_refl _)] at hz2; subst hz2; dsimp only at hR
          refine AWP.exit ?_; refine exitTo_here ?_
          refine AWP.seq ?_
          refine AWP.regS G_ok spec_TakeAll_DD hc (by kernel_rfl) (fun K hK => ?_); simp only [ea, gv, sv, D_spec_l03Day, D_spec_l29Entry, D_spec_l29Add, D_spec_l29Ok, D_spec_l29Own, reduceCtorEq, reduceIte, Nat.reduceBEq, Nat.reduceAdd, Nat.reduceEqDiff, Nat.reduceLT, Nat.reduceLeDiff, Nat.reduceMul, Nat.reduceSub, BEq.rfl, beq_self_eq_true, Int.reduceToNat]
          (refine hK _ ?_)
          clear hK K
          refine AWP.ret ?_
          subst hR
          (simp only [en, si, ea, gv, sv, hk, reduceCtorEq, reduceIte, Nat.reduceBEq, Nat.reduceAdd, Nat.reduceEqDiff, Nat.reduceLT, Nat.reduceLeDiff, Nat.reduceMul, Nat.reduceSub, BEq.rfl, beq_self_eq_true, Int.reduceToNat]; (and_intros <;> omega))
def D_spec_TakeAll : DF
  | [x0, x1, x2] => some (.tup [.agg (eStoreO ((spec_TakeAll (rdG dStore x0) (rdI x1) (rdL dEntry x2)).1)), .int .i64 ((spec_TakeAll (rdG dStore x0) (rdI x1) (rdL dEntry x2)).2)], false, [wG eStore dStore x0, wI .i64 x1, wL 3 eEntry dEntry x2, bdStore (rdG dStore x0), (rdL dEntry x2).length < 1099511627776, ∀ v ∈ (rdL dEntry x2), bdEntry v])
  | _ => none
def Dz_spec_TakeAll : DF
  | [x0, x1, x2] => some (.tup [.agg (eStoreO ((spec_TakeAll (rdG dStore x0) (rdI x1) (rdL dEntry x2)).1)), .int .i64 ((spec_TakeAll (rdG dStore x0) (rdI x1) (rdL dEntry x2)).2)], true, [wG eStore dStore x0, wI .i64 x1, wL 3 eEntry dEntry x2, bdStore (rdG dStore x0), (rdL dEntry x2).length < 1099511627776, ∀ v ∈ (rdL dEntry x2), bdEntry v])
  | _ => none
theorem D_spec_TakeAll_ok : OkD Try.prog 57 D_spec_TakeAll := by
  intro xs r z ob h ho
  unfold D_spec_TakeAll at h
  split at h
  · simp only [Option.some.injEq, Prod.mk.injEq] at h
    obtain ⟨rfl, rfl, rfl⟩ := h
    obtain ⟨h0, h1, h2, hb0, hb1, hb2, _⟩ := ho
    exact Den.sim (spec_TakeAll_den _ _ _ hb0 hb1 hb2) (simOL_cons (wG_sim h0).1 <| simOL_cons (wI_sim h1).1 <| simOL_cons (wL_sim h2).1 <| trivial) (noIdL_cons (wG_sim h0).2 <| noIdL_cons (wI_sim h1).2 <| noIdL_cons (wL_sim h2).2 <| rfl) rfl
  · cases h
theorem Dz_spec_TakeAll_ok : OkD Try.prog 57 Dz_spec_TakeAll := by
  intro xs r z ob h ho
  unfold Dz_spec_TakeAll at h
  split at h
  · simp only [Option.some.injEq, Prod.mk.injEq] at h
    obtain ⟨rfl, rfl, rfl⟩ := h
    obtain ⟨h0, h1, h2, hb0, hb1, hb2, _⟩ := ho
    exact Den.sim (spec_TakeAll_den _ _ _ hb0 hb1 hb2) (simOL_cons (wG_sim h0).1 <| simOL_cons (wI_sim h1).1 <| simOL_cons (wL_sim h2).1 <| trivial) (noIdL_cons (wG_sim h0).2 <| noIdL_cons (wI_sim h1).2 <| noIdL_cons (wL_sim h2).2 <| rfl) rfl
  · cases h
end Go.Ab

namespace Go.Ab
open Go Go.Proofs
theorem laws_FnExactTakeAll_DD : DOk Try.prog (DD [(15, dP D_laws_szStore), (17, dP D_laws_toStore), (19, dP D_laws_eqStore), (37, dM [true, false] D_laws_markStore), (38, dP D_laws_heldStore), (56, dP D_laws_szEntryS), (57, dP D_spec_TakeAll), (58, dP D_laws_toEntryS), (59, dP D_impl_TakeAll), (60, dP D_laws_eqEntryS), (61, dM [true, false] D_laws_markEntryS)]) := DD_cons D_laws_szStore_ok.e <| DD_cons D_laws_toStore_ok.e <| DD_cons D_laws_eqStore_ok.e <| DD_cons D_laws_markStore_ok.e <| DD_cons D_laws_heldStore_ok.e <| DD_cons D_laws_szEntryS_ok.e <| DD_cons D_spec_TakeAll_ok.e <| DD_cons D_laws_toEntryS_ok.e <| DD_cons D_impl_TakeAll_ok.e <| DD_cons D_laws_eqEntryS_ok.e <| DD_cons D_laws_markEntryS_ok.e <| DD_nil _
theorem laws_FnExactTakeAll_DZ : DOk Try.prog (DD [(15, dP D_laws_szStore), (17, dP Dz_laws_toStore), (19, dP D_laws_eqStore), (37, dM [true, false] D_laws_markStore), (38, dP D_laws_heldStore), (56, dP D_laws_szEntryS), (57, dP D_spec_TakeAll), (58, dP D_laws_toEntryS), (59, dP D_impl_TakeAll), (60, dP D_laws_eqEntryS), (61, dM [true, false] D_laws_markEntryS)]) := DD_cons D_laws_szStore_ok.e <| DD_cons Dz_laws_toStore_ok.e <| DD_cons D_laws_eqStore_ok.e <| DD_cons D_laws_markStore_ok.e <| DD_cons D_laws_heldStore_ok.e <| DD_cons D_laws_szEntryS_ok.e <| DD_cons D_spec_TakeAll_ok.e <| DD_cons D_laws_toEntryS_ok.e <| DD_cons D_impl_TakeAll_ok.e <| DD_cons D_laws_eqEntryS_ok.e <| DD_cons D_laws_markEntryS_ok.e <| DD_nil _
def laws_FnExactTakeAll (a0 : Store) (a1 : Int) (a2 : (List Entry)) : Bool :=
  (bif decide ((laws_szStore a0 1048576) < 0) then true else (bif decide ((laws_szEntryS a2 (laws_szStore a0 1048576)) < 0) then true else (bif ((!(laws_eqStore ({ Spares := ((impl_TakeAll ({ Spares := (laws_toStore a0).Spares, Entries := (laws_toStore a0).Entries : Store }) a1 (laws_toEntryS a2)).1).Spares, Entries := ((impl_TakeAll ({ Spares := (laws_toStore a0).Spares, Entries := (laws_toStore a0).Entries : Store }) a1 (laws_toEntryS a2)).1).Entries : Store }) ({ Spares := ((spec_TakeAll ({ Spares := (laws_toStore a0).Spares, Entries := (laws_toStore a0).Entries : Store }) a1 (laws_toEntryS a2)).1).Spares, Entries := ((spec_TakeAll ({ Spares := (laws_toStore a0).Spares, Entries := (laws_toStore a0).Entries : Store }) a1 (laws_toEntryS a2)).1).Entries : Store }))) || (((impl_TakeAll ({ Spares := (laws_toStore a0).Spares, Entries := (laws_toStore a0).Entries : Store }) a1 (laws_toEntryS a2)).2) != ((spec_TakeAll ({ Spares := (laws_toStore a0).Spares, Entries := (laws_toStore a0).Entries : Store }) a1 (laws_toEntryS a2)).2))) then false else (bif (!(laws_eqStore ({ Spares := (laws_toStore a0).Spares, Entries := (laws_toStore a0).Entries : Store }) (laws_toStore a0))) then false else (bif (!(laws_eqEntryS (laws_toEntryS a2) (laws_toEntryS a2))) then false else (bif ((decide (((laws_markEntryS (laws_toEntryS a2) ((laws_markStore ({ Spares := (laws_toStore a0).Spares, Entries := (laws_toStore a0).Entries : Store }) 1).1)).1) < 0) || (!(laws_eqStore ({ Spares := ((impl_TakeAll ({ Spares := (laws_toStore a0).Spares, Entries := (laws_toStore a0).Entries : Store }) a1 (laws_toEntryS a2)).1).Spares, Entries := ((impl_TakeAll ({ Spares := (laws_toStore a0).Spares, Entries := (laws_toStore a0).Entries : Store }) a1 (laws_toEntryS a2)).1).Entries : Store }) ({ Spares := ((spec_TakeAll ({ Spares := (laws_toStore a0).Spares, Entries := (laws_toStore a0).Entries : Store }) a1 (laws_toEntryS a2)).1).Spares, Entries := ((spec_TakeAll ({ Spares := (laws_toStore a0).Spares, Entries := (laws_toStore a0).Entries : Store }) a1 (laws_toEntryS a2)).1).Entries : Store })))) || (((impl_TakeAll ({ Spares := (laws_toStore a0).Spares, Entries := (laws_toStore a0).Entries : Store }) a1 (laws_toEntryS a2)).2) != ((spec_TakeAll ({ Spares := (laws_toStore a0).Spares, Entries := (laws_toStore a0).Entries : Store }) a1 (laws_toEntryS a2)).2))) then false else (bif decide ((laws_heldStore ({ Spares := ((laws_markStore ({ Spares := ((impl_TakeAll ({ Spares := (laws_toStore a0).Spares, Entries := (laws_toStore a0).Entries : Store }) a1 (laws_toEntryS a2)).1).Spares, Entries := ((impl_TakeAll ({ Spares := (laws_toStore a0).Spares, Entries := (laws_toStore a0).Entries : Store }) a1 (laws_toEntryS a2)).1).Entries : Store }) 1).2).Spares, Entries := ((laws_markStore ({ Spares := ((impl_TakeAll ({ Spares := (laws_toStore a0).Spares, Entries := (laws_toStore a0).Entries : Store }) a1 (laws_toEntryS a2)).1).Spares, Entries := ((impl_TakeAll ({ Spares := (laws_toStore a0).Spares, Entries := (laws_toStore a0).Entries : Store }) a1 (laws_toEntryS a2)).1).Entries : Store }) 1).2).Entries : Store }) 1) < 0) then false else (bif ((laws_heldStore ({ Spares := ((laws_markStore ({ Spares := ((impl_TakeAll ({ Spares := (laws_toStore a0).Spares, Entries := (laws_toStore a0).Entries : Store }) a1 (laws_toEntryS a2)).1).Spares, Entries := ((impl_TakeAll ({ Spares := (laws_toStore a0).Spares, Entries := (laws_toStore a0).Entries : Store }) a1 (laws_toEntryS a2)).1).Entries : Store }) 1).2).Spares, Entries := ((laws_markStore ({ Spares := ((impl_TakeAll ({ Spares := (laws_toStore a0).Spares, Entries := (laws_toStore a0).Entries : Store }) a1 (laws_toEntryS a2)).1).Spares, Entries := ((impl_TakeAll ({ Spares := (laws_toStore a0).Spares, Entries := (laws_toStore a0).Entries : Store }) a1 (laws_toEntryS a2)).1).Entries : Store }) 1).2).Entries : Store }) 1) != ((laws_markStore ({ Spares := ((impl_TakeAll ({ Spares := (laws_toStore a0).Spares, Entries := (laws_toStore a0).Entries : Store }) a1 (laws_toEntryS a2)).1).Spares, Entries := ((impl_TakeAll ({ Spares := (laws_toStore a0).Spares, Entries := (laws_toStore a0).Entries : Store }) a1 (laws_toEntryS a2)).1).Entries : Store }) 1).1)) then false else true))))))))
set_option maxHeartbeats 1000000 in
theorem laws_FnExactTakeAll_den (a0 : Store) (a1 : Int) (a2 : (List Entry))  : Den Try.prog 14 [.agg (eStore a0), .int .i64 a1, encL 3 eEntry a2] (.bool (laws_FnExactTakeAll a0 a1 a2)) := by
  generalize hR : laws_FnExactTakeAll a0 a1 a2 = r
  unfold laws_FnExactTakeAll at hR
  refine den_intro G_ok Try.func14 (by kernel_rfl) rfl Try.ntmps14 (by rw [Try.results14]) (by simp) rfl ?_
  intro c hL hc hk
  obtain ⟨hL0, hL1, hL2, _⟩ := hL
  have hw0 : bwStore a0 := Store_lens a0 hL0
  have hw1 : a2.length < 9223372036854775808 := Nat.lt_succ_of_le (lens_encL hL2).1
  have hw2 : ∀ v ∈ a2, bwEntry v := fun v hv => Entry_lens v ((lens_encL hL2).2 v hv)
  clear hL0 hL1 hL2
  simp only [pars, Nat.zero_add]
  have hf0 := laws_szStore_facts a0 (1048576) (by omega) (by omega) hw0
  have hf1 := laws_szEntryS_facts a2 (laws_szStore a0 (1048576)) (by omega) (by omega) hw1 hw2
  have hm0 : ∀ h : ¬ laws_szStore a0 1048576 < 0, (laws_markStore a0 1).1 = 1 + 3 * a0.Spares.length + 3 * a0.Entries.length ∧ a0.Spares.length < 1099511627776 ∧ a0.Entries.length < 1099511627776 := fun h => ⟨laws_markStore_k a0 1 (by omega) (by omega) (And.left (And.left (hf0.2.2 h))) (And.left (And.right (hf0.2.2 h))), And.left (And.left (hf0.2.2 h)), And.left (And.right (hf0.2.2 h))⟩
  refine AWP.seq ?_
  refine AWP.regS G_ok laws_FnExactTakeAll_DD hc (by kernel_rfl) (fun K hK => ?_); simp only [ea, absV, absVL, gv, sv, laws_markStore_subS, laws_markStore_subE, laws_markStore_subS, laws_markStore_subE, laws_markEntryS_sub, D_laws_szStore, D_laws_toStore, D_laws_eqStore, D_laws_markStore, D_laws_heldStore, D_laws_szEntryS, D_spec_TakeAll, D_laws_toEntryS, D_impl_TakeAll, D_laws_eqEntryS, D_laws_markEntryS, Dz_laws_toStore, reduceCtorEq, reduceIte, Nat.reduceBEq, Nat.reduceAdd, Nat.reduceEqDiff, Nat.reduceLT, Nat.reduceLeDiff, Nat.reduceMul, Nat.reduceSub, BEq.rfl, beq_self_eq_true, Int.reduceToNat]
  (refine hK _ ?_)
  clear hK K
  refine AWP.seq ?_
  refine AWP.regS G_ok laws_FnExactTakeAll_DD hc (by kernel_rfl) (fun K hK => ?_); simp only [ea, absV, absVL, gv, sv, laws_markStore_subS, laws_markStore_subE, laws_markStore_subS, laws_markStore_subE, laws_markEntryS_sub, D_laws_szStore, D_laws_toStore, D_laws_eqStore, D_laws_markStore, D_laws_heldStore, D_laws_szEntryS, D_spec_TakeAll, D_laws_toEntryS, D_impl_TakeAll, D_laws_eqEntryS, D_laws_markEntryS, Dz_laws_toStore, reduceCtorEq, reduceIte, Nat.reduceBEq, Nat.reduceAdd, Nat.reduceEqDiff, Nat.reduceLT, Nat.reduceLeDiff, Nat.reduceMul, Nat.reduceSub, BEq.rfl, beq_self_eq_true, Int.reduceToNat]
  (refine hK _ ?_)
  clear hK K
  refine AWP.seq ?_
  refine AWP.regS G_ok laws_FnExactTakeAll_DD hc (by kernel_rfl) (fun K hK => ?_); simp only [ea, absV, absVL, gv, sv, laws_markStore_subS, laws_markStore_subE, laws_markStore_subS, laws_markStore_subE, laws_markEntryS_sub, D_laws_szStore, D_laws_toStore, D_laws_eqStore, D_laws_markStore, D_laws_heldStore, D_laws_szEntryS, D_spec_TakeAll, D_laws_toEntryS, D_impl_TakeAll, D_laws_eqEntryS, D_laws_markEntryS, Dz_laws_toStore, reduceCtorEq, reduceIte, Nat.reduceBEq, Nat.reduceAdd, Nat.reduceEqDiff, Nat.reduceLT, Nat.reduceLeDiff, Nat.reduceMul, Nat.reduceSub, BEq.rfl, beq_self_eq_true, Int.reduceToNat]
  (refine ⟨by (trivial), hK _ ?_⟩)
  clear hK K
  refine AWP.seq ?_
  refine AWP.seq ?_
  refine AWP.regS G_ok laws_FnExactTakeAll_DD hc (by kernel_rfl) (fun K hK => ?_); simp only [ea, absV, absVL, gv, sv, laws_markStore_subS, laws_markStore_subE, laws_markStore_subS, laws_markStore_subE, laws_markEntryS_sub, D_laws_szStore, D_laws_toStore, D_laws_eqStore, D_laws_markStore, D_laws_heldStore, D_laws_szEntryS, D_spec_TakeAll, D_laws_toEntryS, D_impl_TakeAll, D_laws_eqEntryS, D_laws_markEntryS, Dz_laws_toStore, reduceCtorEq, reduceIte, Nat.reduceBEq, Nat.reduceAdd, Nat.reduceEqDiff, Nat.reduceLT, Nat.reduceLeDiff, Nat.reduceMul, Nat.reduceSub, BEq.rfl, beq_self_eq_true, Int.reduceToNat]
  (refine hK _ ?_)
  clear hK K
  refine AWP.cond rfl (fun hb => ?_) (fun hb => ?_)
  · (simp only [hb, cond_true] at hR)
    refine AWP.seq ?_
    refine AWP.regS G_ok laws_FnExactTakeAll_DD hc (by kernel_rfl) (fun K hK => ?_); simp only [ea, absV, absVL, gv, sv, laws_markStore_subS, laws_markStore_subE, laws_markStore_subS, laws_markStore_subE, laws_markEntryS_sub, D_laws_szStore, D_laws_toStore, D_laws_eqStore, D_laws_markStore, D_laws_heldStore, D_laws_szEntryS, D_spec_TakeAll, D_laws_toEntryS, D_impl_TakeAll, D_laws_eqEntryS, D_laws_markEntryS, Dz_laws_toStore, reduceCtorEq, reduceIte, Nat.reduceBEq, Nat.reduceAdd, Nat.reduceEqDiff, Nat.reduceLT, Nat.reduceLeDiff, Nat.reduceMul, Nat.reduceSub, BEq.rfl, beq_self_eq_true, Int.reduceToNat]
    (refine hK _ ?_)
    clear hK K
    refine AWP.ret ?_
    subst hR
    (simp only [en, si, ea, gv, sv, hk, reduceCtorEq, reduceIte, Nat.reduceBEq, Nat.reduceAdd, Nat.reduceEqDiff, Nat.reduceLT, Nat.reduceLeDiff, Nat.reduceMul, Nat.reduceSub, BEq.rfl, beq_self_eq_true, Int.reduceToNat]; done)
  · (simp only [hb, cond_false] at hR)
    refine AWP.skip ?_
    refine AWP.seq ?_
    refine AWP.regS G_ok laws_FnExactTakeAll_DD hc (by kernel_rfl) (fun K hK => ?_); simp only [ea, absV, absVL, gv, sv, laws_markStore_subS, laws_markStore_subE, laws_markStore_subS, laws_markStore_subE, laws_markEntryS_sub, D_laws_szStore, D_laws_toStore, D_laws_eqStore, D_laws_markStore, D_laws_heldStore, D_laws_szEntryS, D_spec_TakeAll, D_laws_toEntryS, D_impl_TakeAll, D_laws_eqEntryS, D_laws_markEntryS, Dz_laws_toStore, reduceCtorEq, reduceIte, Nat.reduceBEq, Nat.reduceAdd, Nat.reduceEqDiff, Nat.reduceLT, Nat.reduceLeDiff, Nat.reduceMul, Nat.reduceSub, BEq.rfl, beq_self_eq_true, Int.reduceToNat]
    (refine ⟨by (omega), hK _ ?_⟩)
    clear hK K
    refine AWP.seq ?_
    refine AWP.seq ?_
    refine AWP.regS G_ok laws_FnExactTakeAll_DD hc (by kernel_rfl) (fun K hK => ?_); simp only [ea, absV, absVL, gv, sv, laws_markStore_subS, laws_markStore_subE, laws_markStore_subS, laws_markStore_subE, laws_markEntryS_sub, D_laws_szStore, D_laws_toStore, D_laws_eqStore, D_laws_markStore, D_laws_heldStore, D_laws_szEntryS, D_spec_TakeAll, D_laws_toEntryS, D_impl_TakeAll, D_laws_eqEntryS, D_laws_markEntryS, Dz_laws_toStore, reduceCtorEq, reduceIte, Nat.reduceBEq, Nat.reduceAdd, Nat.reduceEqDiff, Nat.reduceLT, Nat.reduceLeDiff, Nat.reduceMul, Nat.reduceSub, BEq.rfl, beq_self_eq_true, Int.reduceToNat]
    (refine hK _ ?_)
    clear hK K
    refine AWP.cond rfl (fun hb => ?_) (fun hb => ?_)
    · (simp only [hb, cond_true] at hR)
      refine AWP.seq ?_
      refine AWP.regS G_ok laws_FnExactTakeAll_DD hc (by kernel_rfl) (fun K hK => ?_); simp only [ea, absV, absVL, gv, sv, laws_markStore_subS, laws_markStore_subE, laws_markStore_subS, laws_markStore_subE, laws_markEntryS_sub, D_laws_szStore, D_laws_toStore, D_laws_eqStore, D_laws_markStore, D_laws_heldStore, D_laws_szEntryS, D_spec_TakeAll, D_laws_toEntryS, D_impl_TakeAll, D_laws_eqEntryS, D_laws_markEntryS, Dz_laws_toStore, reduceCtorEq, reduceIte, Nat.reduceBEq, Nat.reduceAdd, Nat.reduceEqDiff, Nat.reduceLT, Nat.reduceLeDiff, Nat.reduceMul, Nat.reduceSub, BEq.rfl, beq_self_eq_true, Int.reduceToNat]
      (refine hK _ ?_)
      clear hK K
      refine AWP.ret ?_
      subst hR
      (simp only [en, si, ea, gv, sv, hk, reduceCtorEq, reduceIte, Nat.reduceBEq, Nat.reduceAdd, Nat.reduceEqDiff, Nat.reduceLT, Nat.reduceLeDiff, Nat.reduceMul, Nat.reduceSub, BEq.rfl, beq_self_eq_true, Int.reduceToNat]; done)
    · (simp only [hb, cond_false] at hR)
      refine AWP.skip ?_
      refine AWP.seq ?_
      refine AWP.regS G_ok laws_FnExactTakeAll_DD hc (by kernel_rfl) (fun K hK => ?_); simp only [ea, absV, absVL, gv, sv, laws_markStore_subS, laws_markStore_subE, laws_markStore_subS, laws_markStore_subE, laws_markEntryS_sub, D_laws_szStore, D_laws_toStore, D_laws_eqStore, D_laws_markStore, D_laws_heldStore, D_laws_szEntryS, D_spec_TakeAll, D_laws_toEntryS, D_impl_TakeAll, D_laws_eqEntryS, D_laws_markEntryS, Dz_laws_toStore, reduceCtorEq, reduceIte, Nat.reduceBEq, Nat.reduceAdd, Nat.reduceEqDiff, Nat.reduceLT, Nat.reduceLeDiff, Nat.reduceMul, Nat.reduceSub, BEq.rfl, beq_self_eq_true, Int.reduceToNat]
      (refine ⟨by (((try clear hK K); (repeat' first | apply And.intro | intro _) <;> first | omega | (simp only [ob, ln, bdv, laws_toStore_id, laws_toEntryS_id, laws_markEntryS_len, sv] at *; first | omega | (simp_all; done)))), hK _ ?_⟩)
      clear hK K
      refine AWP.seq ?_
      refine AWP.regS G_ok laws_FnExactTakeAll_DD hc (by kernel_rfl) (fun K hK => ?_); simp only [ea, absV, absVL, gv, sv, laws_markStore_subS, laws_markStore_subE, laws_markStore_subS, laws_markStore_subE, laws_markEntryS_sub, D_laws_szStore, D_laws_toStore, D_laws_eqStore, D_laws_markStore, D_laws_heldStore, D_laws_szEntryS, D_spec_TakeAll, D_laws_toEntryS, D_impl_TakeAll, D_laws_eqEntryS, D_laws_markEntryS, Dz_laws_toStore, reduceCtorEq, reduceIte, Nat.reduceBEq, Nat.reduceAdd, Nat.reduceEqDiff, Nat.reduceLT, Nat.reduceLeDiff, Nat.reduceMul, Nat.reduceSub, BEq.rfl, beq_self_eq_true, Int.reduceToNat]
      (refine ⟨by (((try clear hK K); (repeat' first | apply And.intro | intro _) <;> (simp only [ob, ln, bdv, laws_toStore_id, laws_toEntryS_id, laws_markEntryS_len, sv] at *; first | omega | (simp_all; done)))), hK _ ?_⟩)
      clear hK K
      refine AWP.seq ?_
      refine AWP.regS G_ok laws_FnExactTakeAll_DD hc (by kernel_rfl) (fun K hK => ?_); simp only [ea, absV, absVL, gv, sv, laws_markStore_subS, laws_markStore_subE, laws_markStore_subS, laws_markStore_subE, laws_markEntryS_sub, D_laws_szStore, D_laws_toStore, D_laws_eqStore, D_laws_markStore, D_laws_heldStore, D_laws_szEntryS, D_spec_TakeAll, D_laws_toEntryS, D_impl_TakeAll, D_laws_eqEntryS, D_laws_markEntryS, Dz_laws_toStore, reduceCtorEq, reduceIte, Nat.reduceBEq, Nat.reduceAdd, Nat.reduceEqDiff, Nat.reduceLT, Nat.reduceLeDiff, Nat.reduceMul, Nat.reduceSub, BEq.rfl, beq_self_eq_true, Int.reduceToNat]
      (refine ⟨by (((try clear hK K); (repeat' first | apply And.intro | intro _) <;> (simp only [ob, ln, bdv, laws_toStore_id, laws_toEntryS_id, laws_markEntryS_len, sv] at *; first | omega | (simp_all; done)))), hK _ ?_⟩)
      clear hK K
      refine AWP.seq ?_
      refine AWP.regS G_ok laws_FnExactTakeAll_DD hc (by kernel_rfl) (fun K hK => ?_); simp only [ea, absV, absVL, gv, sv, laws_markStore_subS, laws_markStore_subE, laws_markStore_subS, laws_markStore_subE, laws_markEntryS_sub, D_laws_szStore, D_laws_toStore, D_laws_eqStore, D_laws_markStore, D_laws_heldStore, D_laws_szEntryS, D_spec_TakeAll, D_laws_toEntryS, D_impl_TakeAll, D_laws_eqEntryS, D_laws_markEntryS, Dz_laws_toStore, reduceCtorEq, reduceIte, Nat.reduceBEq, Nat.reduceAdd, Nat.reduceEqDiff, Nat.reduceLT, Nat.reduceLeDiff, Nat.reduceMul, Nat.reduceSub, BEq.rfl, beq_self_eq_true, Int.reduceToNat]
      (refine ⟨by (((try clear hK K); (repeat' first | apply And.intro | intro _) <;> first | omega | (simp only [ob, ln, bdv, laws_toStore_id, laws_toEntryS_id, laws_markEntryS_len, sv] at *; first | omega | (simp_all; done)))), hK _ ?_⟩)
      clear hK K
      refine AWP.seq ?_
      refine AWP.seq ?_
      refine AWP.regS G_ok laws_FnExactTakeAll_DD hc (by kernel_rfl) (fun K hK => ?_); simp only [ea, absV, absVL, gv, sv, laws_markStore_subS, laws_markStore_subE, laws_markStore_subS, laws_markStore_subE, laws_markEntryS_sub, D_laws_szStore, D_laws_toStore, D_laws_eqStore, D_laws_markStore, D_laws_heldStore, D_laws_szEntryS, D_spec_TakeAll, D_laws_toEntryS, D_impl_TakeAll, D_laws_eqEntryS, D_laws_markEntryS, Dz_laws_toStore, reduceCtorEq, reduceIte, Nat.reduceBEq, Nat.reduceAdd, Nat.reduceEqDiff, Nat.reduceLT, Nat.reduceLeDiff, Nat.reduceMul, Nat.reduceSub, BEq.rfl, beq_self_eq_true, Int.reduceToNat]
      (refine ⟨by (omega), hK _ ?_⟩)
      clear hK K
      refine AWP.cond rfl (fun hb => ?_) (fun hb => ?_)
      · (simp only [hb, cond_true] at hR)
        refine AWP.seq ?_
        refine AWP.regS G_ok laws_FnExactTakeAll_DD hc (by kernel_rfl) (fun K hK => ?_); simp only [ea, absV, absVL, gv, sv, laws_markStore_subS, laws_markStore_subE, laws_markStore_subS, laws_markStore_subE, laws_markEntryS_sub, D_laws_szStore, D_laws_toStore, D_laws_eqStore, D_laws_markStore, D_laws_heldStore, D_laws_szEntryS, D_spec_TakeAll, D_laws_toEntryS, D_impl_TakeAll, D_laws_eqEntryS, D_laws_markEntryS, Dz_laws_toStore, reduceCtorEq, reduceIte, Nat.reduceBEq, Nat.reduceAdd, Nat.reduceEqDiff, Nat.reduceLT, Nat.reduceLeDiff, Nat.reduceMul, Nat.reduceSub, BEq.rfl, beq_self_eq_true, Int.reduceToNat]
        (refine hK _ ?_)
        clear hK K
        refine AWP.ret ?_
        subst hR
        (simp only [en, si, ea, gv, sv, hk, reduceCtorEq, reduceIte, Nat.reduceBEq, Nat.reduceAdd, Nat.reduceEqDiff, Nat.reduceLT, Nat.reduceLeDiff, Nat.reduceMul, Nat.reduceSub, BEq.rfl, beq_self_eq_true, Int.reduceToNat]; done)
      · (simp only [hb, cond_false] at hR)
        refine AWP.skip ?_
        refine AWP.seq ?_
        refine AWP.seq ?_
        refine AWP.regD mixed G_ok laws_FnExactTakeAll_DZ hc 3 (by kernel_rfl) (by kernel_rfl) (fun K hK => ?_); simp only [ea, absV, absVL, gv, sv, laws_markStore_subS, laws_markStore_subE, laws_markStore_subS, laws_markStore_subE, laws_markEntryS_sub, D_laws_szStore, D_laws_toStore, D_laws_eqStore, D_laws_markStore, D_laws_heldStore, D_laws_szEntryS, D_spec_TakeAll, D_laws_toEntryS, D_impl_TakeAll, D_laws_eqEntryS, D_laws_markEntryS, Dz_laws_toStore, reduceCtorEq, reduceIte, Nat.reduceBEq, Nat.reduceAdd, Nat.reduceEqDiff, Nat.reduceLT, Nat.reduceLeDiff, Nat.reduceMul, Nat.reduceSub, BEq.rfl, beq_self_eq_true, Int.reduceToNat]
        (refine ⟨by (((try clear hK K); (repeat' first | apply And.intro | intro _) <;> first | omega | (simp only [ob, ln, bdv, laws_toStore_id, laws_toEntryS_id, laws_markEntryS_len, sv] at *; first | omega | (simp_all; done)))), hK _ ?_⟩)
        clear hK K
        refine AWP.cond rfl (fun hb => ?_) (fun hb => ?_)
        · (simp only [hb, cond_true] at hR)
          refine AWP.seq ?_
          refine AWP.regS G_ok laws_FnExactTakeAll_DD hc (by kernel_rfl) (fun K hK => ?_); simp only [ea, absV, absVL, gv, sv, laws_markStore_subS, laws_markStore_subE, laws_markStore_subS, laws_markStore_subE, laws_markEntryS_sub, D_laws_szStore, D_laws_toStore, D_laws_eqStore, D_laws_markStore, D_laws_heldStore, D_laws_szEntryS, D_spec_TakeAll, D_laws_toEntryS, D_impl_TakeAll, D_laws_eqEntryS, D_laws_markEntryS, Dz_laws_toStore, reduceCtorEq, reduceIte, Nat.reduceBEq, Nat.reduceAdd, Nat.reduceEqDiff, Nat.reduceLT, Nat.reduceLeDiff, Nat.reduceMul, Nat.reduceSub, BEq.rfl, beq_self_eq_true, Int.reduceToNat]
          (refine hK _ ?_)
          clear hK K
          refine AWP.ret ?_
          subst hR
          (simp only [en, si, ea, gv, sv, hk, reduceCtorEq, reduceIte, Nat.reduceBEq, Nat.reduceAdd, Nat.reduceEqDiff, Nat.reduceLT, Nat.reduceLeDiff, Nat.reduceMul, Nat.reduceSub, BEq.rfl, beq_self_eq_true, Int.reduceToNat]; done)
        · (simp only [hb, cond_false] at hR)
          refine AWP.skip ?_
          refine AWP.seq ?_
          refine AWP.seq ?_
          refine AWP.regS G_ok laws_FnExactTakeAll_DD hc (by kernel_rfl) (fun K hK => ?_); simp only [ea, absV, absVL, gv, sv, laws_markStore_subS, laws_markStore_subE, laws_markStore_subS, laws_markStore_subE, laws_markEntryS_sub, D_laws_szStore, D_laws_toStore, D_laws_eqStore, D_laws_markStore, D_laws_heldStore, D_laws_szEntryS, D_spec_TakeAll, D_laws_toEntryS, D_impl_TakeAll, D_laws_eqEntryS, D_laws_markEntryS, Dz_laws_toStore, reduceCtorEq, reduceIte, Nat.reduceBEq, Nat.reduceAdd, Nat.reduceEqDiff, Nat.reduceLT, Nat.reduceLeDiff, Nat.reduceMul, Nat.reduceSub, BEq.rfl, beq_self_eq_true, Int.reduceToNat]
          (refine ⟨by (((try clear hK K); (repeat' first | apply And.intro | intro _) <;> first | omega | (simp only [ob, ln, bdv, laws_toStore_id, laws_toEntryS_id, laws_markEntryS_len, sv] at *; first | omega | (simp_all; done)))), hK _ ?_⟩)
          clear hK K
          refine AWP.cond rfl (fun hb => ?_) (fun hb => ?_)
          · (simp only [hb, cond_true] at hR)
            refine AWP.seq ?_
            refine AWP.regS G_ok laws_FnExactTakeAll_DD hc (by kernel_rfl) (fun K hK => ?_); simp only [ea, absV, absVL, gv, sv, laws_markStore_subS, laws_markStore_subE, laws_markStore_subS, laws_markStore_subE, laws_markEntryS_sub, D_laws_szStore, D_laws_toStore, D_laws_eqStore, D_laws_markStore, D_laws_heldStore, D_laws_szEntryS, D_spec_TakeAll, D_laws_toEntryS, D_impl_TakeAll, D_laws_eqEntryS, D_laws_markEntryS, Dz_laws_toStore, reduceCtorEq, reduceIte, Nat.reduceBEq, Nat.reduceAdd, Nat.reduceEqDiff, Nat.reduceLT, Nat.reduceLeDiff, Nat.reduceMul, Nat.reduceSub, BEq.rfl, beq_self_eq_true, Int.reduceToNat]
            (refine hK _ ?_)
            clear hK K
            refine AWP.ret ?_
            subst hR
            (simp only [en, si, ea, gv, sv, hk, reduceCtorEq, reduceIte, Nat.reduceBEq, Nat.reduceAdd, Nat.reduceEqDiff, Nat.reduceLT, Nat.reduceLeDiff, Nat.reduceMul, Nat.reduceSub, BEq.rfl, beq_self_eq_true, Int.reduceToNat]; done)
          · (simp only [hb, cond_false] at hR)
            refine AWP.skip ?_
            refine AWP.seq ?_
            refine AWP.regS G_ok laws_FnExactTakeAll_DD hc (by kernel_rfl) (fun K hK => ?_); simp only [ea, absV, absVL, gv, sv, laws_markStore_subS, laws_markStore_subE, laws_markStore_subS, laws_markStore_subE, laws_markEntryS_sub, D_laws_szStore, D_laws_toStore, D_laws_eqStore, D_laws_markStore, D_laws_heldStore, D_laws_szEntryS, D_spec_TakeAll, D_laws_toEntryS, D_impl_TakeAll, D_laws_eqEntryS, D_laws_markEntryS, Dz_laws_toStore, reduceCtorEq, reduceIte, Nat.reduceBEq, Nat.reduceAdd, Nat.reduceEqDiff, Nat.reduceLT, Nat.reduceLeDiff, Nat.reduceMul, Nat.reduceSub, BEq.rfl, beq_self_eq_true, Int.reduceToNat]
            (refine hK _ ?_)
            clear hK K
            refine AWP.seq ?_
            refine AWP.regS G_ok laws_FnExactTakeAll_DD hc (by kernel_rfl) (fun K hK => ?_); simp only [ea, absV, absVL, gv, sv, laws_markStore_subS, laws_markStore_subE, laws_markStore_subS, laws_markStore_subE, laws_markEntryS_sub, D_laws_szStore, D_laws_toStore, D_laws_eqStore, D_laws_markStore, D_laws_heldStore, D_laws_szEntryS, D_spec_TakeAll, D_laws_toEntryS, D_impl_TakeAll, D_laws_eqEntryS, D_laws_markEntryS, Dz_laws_toStore, reduceCtorEq, reduceIte, Nat.reduceBEq, Nat.reduceAdd, Nat.reduceEqDiff, Nat.reduceLT, Nat.reduceLeDiff, Nat.reduceMul, Nat.reduceSub, BEq.rfl, beq_self_eq_true, Int.reduceToNat]
            (refine ⟨by (((try clear hK K); (repeat' (apply And.intro)) <;> first | trivial | omega | (simp only [ob, ln, bdv, laws_toStore_id, laws_toEntryS_id, laws_markEntryS_len, sv] at *; omega))), hK _ ?_⟩)
            clear hK K
            refine AWP.seq ?_
            refine AWP.regS G_ok laws_FnExactTakeAll_DD hc (by kernel_rfl) (fun K hK => ?_); simp only [ea, absV, absVL, gv, sv, laws_markStore_subS, laws_markStore_subE, laws_markStore_subS, laws_markStore_subE, laws_markEntryS_sub, D_laws_szStore, D_laws_toStore, D_laws_eqStore, D_laws_markStore, D_laws_heldStore, D_laws_szEntryS, D_spec_TakeAll, D_laws_toEntryS, D_impl_TakeAll, D_laws_eqEntryS, D_laws_markEntryS, Dz_laws_toStore, reduceCtorEq, reduceIte, Nat.reduceBEq, Nat.reduceAdd, Nat.reduceEqDiff, Nat.reduceLT, Nat.reduceLeDiff, Nat.reduceMul, Nat.reduceSub, BEq.rfl, beq_self_eq_true, Int.reduceToNat]
            (refine ⟨by (((try clear hK K); (repeat' (apply And.intro)) <;> first | trivial | omega | (simp only [ob, ln, bdv, laws_toStore_id, laws_toEntryS_id, laws_markEntryS_len, sv] at *; omega))), hK _ ?_⟩)
            clear hK K
            refine AWP.seq ?_
            refine AWP.seq ?_
            refine AWP.regS G_ok laws_FnExactTakeAll_DD hc (by kernel_rfl) (fun K hK => ?_); simp only [ea, absV, absVL, gv, sv, laws_markStore_subS, laws_markStore_subE, laws_markStore_subS, laws_markStore_subE, laws_markEntryS_sub, D_laws_szStore, D_laws_toStore, D_laws_eqStore, D_laws_markStore, D_laws_heldStore, D_laws_szEntryS, D_spec_TakeAll, D_laws_toEntryS, D_impl_TakeAll, D_laws_eqEntryS, D_laws_markEntryS, Dz_laws_toStore, reduceCtorEq, reduceIte, Nat.reduceBEq, Nat.reduceAdd, Nat.reduceEqDiff, Nat.reduceLT, Nat.reduceLeDiff, Nat.reduceMul, Nat.reduceSub, BEq.rfl, beq_self_eq_true, Int.reduceToNat]
            (refine ⟨by (omega), hK _ ?_⟩)
            clear hK K
            refine AWP.cond rfl (fun hb => ?_) (fun hb => ?_)
            · (simp only [hb, cond_true] at hR)
              refine AWP.seq ?_
              refine AWP.regS G_ok laws_FnExactTakeAll_DD hc (by kernel_rfl) (fun K hK => ?_); simp only [ea, absV, absVL, gv, sv, laws_markStore_subS, laws_markStore_subE, laws_markStore_subS, laws_markStore_subE, laws_markEntryS_sub, D_laws_szStore, D_laws_toStore, D_laws_eqStore, D_laws_markStore, D_laws_heldStore, D_laws_szEntryS, D_spec_TakeAll, D_laws_toEntryS, D_impl_TakeAll, D_laws_eqEntryS, D_laws_markEntryS, Dz_laws_toStore, reduceCtorEq, reduceIte, Nat.reduceBEq, Nat.reduceAdd, Nat.reduceEqDiff, Nat.reduceLT, Nat.reduceLeDiff, Nat.reduceMul, Nat.reduceSub, BEq.rfl, beq_self_eq_true, Int.reduceToNat]
              (refine hK _ ?_)
              clear hK K
              refine AWP.ret ?_
              subst hR
              (simp only [en, si, ea, gv, sv, hk, reduceCtorEq, reduceIte, Nat.reduceBEq, Nat.reduceAdd, Nat.reduceEqDiff, Nat.reduceLT, Nat.reduceLeDiff, Nat.reduceMul, Nat.reduceSub, BEq.rfl, beq_self_eq_true, Int.reduceToNat]; done)
            · (simp only [hb, cond_false] at hR)
              refine AWP.skip ?_
              refine AWP.seq ?_
              refine AWP.regS G_ok laws_FnExactTakeAll_DD hc (by kernel_rfl) (fun K hK => ?_); simp only [ea, absV, absVL, gv, sv, laws_markStore_subS, laws_markStore_subE, laws_markStore_subS, laws_markStore_subE, laws_markEntryS_sub, D_laws_szStore, D_laws_toStore, D_laws_eqStore, D_laws_markStore, D_laws_heldStore, D_laws_szEntryS, D_spec_TakeAll, D_laws_toEntryS, D_impl_TakeAll, D_laws_eqEntryS, D_laws_markEntryS, Dz_laws_toStore, reduceCtorEq, reduceIte, Nat.reduceBEq, Nat.reduceAdd, Nat.reduceEqDiff, Nat.reduceLT, Nat.reduceLeDiff, Nat.reduceMul, Nat.reduceSub, BEq.rfl, beq_self_eq_true, Int.reduceToNat]
              (refine hK _ ?_)
              clear hK K
              refine AWP.seq ?_
              refine AWP.regS G_ok laws_FnExactTakeAll_DD hc (by kernel_rfl) (fun K hK => ?_); simp only [ea, absV, absVL, gv, sv, laws_markStore_subS, laws_markStore_subE, laws_markStore_subS, laws_markStore_subE, laws_markEntryS_sub, D_laws_szStore, D_laws_toStore, D_laws_eqStore, D_laws_markStore, D_laws_heldStore, D_laws_szEntryS, D_spec_TakeAll, D_laws_toEntryS, D_impl_TakeAll, D_laws_eqEntryS, D_laws_markEntryS, Dz_laws_toStore, reduceCtorEq, reduceIte, Nat.reduceBEq, Nat.reduceAdd, Nat.reduceEqDiff, Nat.reduceLT, Nat.reduceLeDiff, Nat.reduceMul, Nat.reduceSub, BEq.rfl, beq_self_eq_true, Int.reduceToNat]
              (refine ⟨by (((try clear hK K); (repeat' (apply And.intro)) <;> first | trivial | omega | (simp only [ob, ln, bdv, laws_toStore_id, laws_toEntryS_id, laws_markEntryS_len, sv] at *; (grind [laws_markStore_len, laws_markStore_len, impl_TakeAll_len, laws_markEntryS_len])))), hK _ ?_⟩)
              clear hK K
              refine AWP.seq ?_
              refine AWP.regS G_ok laws_FnExactTakeAll_DD hc (by kernel_rfl) (fun K hK => ?_); simp only [ea, absV, absVL, gv, sv, laws_markStore_subS, laws_markStore_subE, laws_markStore_subS, laws_markStore_subE, laws_markEntryS_sub, D_laws_szStore, D_laws_toStore, D_laws_eqStore, D_laws_markStore, D_laws_heldStore, D_laws_szEntryS, D_spec_TakeAll, D_laws_toEntryS, D_impl_TakeAll, D_laws_eqEntryS, D_laws_markEntryS, Dz_laws_toStore, reduceCtorEq, reduceIte, Nat.reduceBEq, Nat.reduceAdd, Nat.reduceEqDiff, Nat.reduceLT, Nat.reduceLeDiff, Nat.reduceMul, Nat.reduceSub, BEq.rfl, beq_self_eq_true, Int.reduceToNat]
              (refine hK _ ?_)
              clear hK K
              refine AWP.seq ?_
              refine AWP.regS G_ok laws_FnExactTakeAll_DD hc (by kernel_rfl) (fun K hK => ?_); simp only [ea, absV, absVL, gv, sv, laws_markStore_subS, laws_markStore_subE, laws_markStore_subS, laws_markStore_subE, laws_markEntryS_sub, D_laws_szStore, D_laws_toStore, D_laws_eqStore, D_laws_markStore, D_laws_heldStore, D_laws_szEntryS, D_spec_TakeAll, D_laws_toEntryS, D_impl_TakeAll, D_laws_eqEntryS, D_laws_markEntryS, Dz_laws_toStore, reduceCtorEq, reduceIte, Nat.reduceBEq, Nat.reduceAdd, Nat.reduceEqDiff, Nat.reduceLT, Nat.reduceLeDiff, Nat.reduceMul, Nat.reduceSub, BEq.rfl, beq_self_eq_true, Int.reduceToNat]
              (refine ⟨by (((try clear hK K); (repeat' first | apply And.intro | intro _) <;> first | trivial | (simp only [ob, ln, bdv, laws_toStore_id, laws_toEntryS_id, laws_markEntryS_len, sv] at *; (grind [laws_markStore_len, laws_markStore_len, impl_TakeAll_len, laws_markEntryS_len])))), hK _ ?_⟩)
              clear hK K
              refine AWP.seq ?_
              refine AWP.seq ?_
              refine AWP.regS G_ok laws_FnExactTakeAll_DD hc (by kernel_rfl) (fun K hK => ?_); simp only [ea, absV, absVL, gv, sv, laws_markStore_subS, laws_markStore_subE, laws_markStore_subS, laws_markStore_subE, laws_markEntryS_sub, D_laws_szStore, D_laws_toStore, D_laws_eqStore, D_laws_markStore, D_laws_heldStore, D_laws_szEntryS, D_spec_TakeAll, D_laws_toEntryS, D_impl_TakeAll, D_laws_eqEntryS, D_laws_markEntryS, Dz_laws_toStore, reduceCtorEq, reduceIte, Nat.reduceBEq, Nat.reduceAdd, Nat.reduceEqDiff, Nat.reduceLT, Nat.reduceLeDiff, Nat.reduceMul, Nat.reduceSub, BEq.rfl, beq_self_eq_true, Int.reduceToNat]
              (refine hK _ ?_)
              clear hK K
              refine AWP.cond rfl (fun hb => ?_) (fun hb => ?_)
              · (simp only [hb, cond_true] at hR)
                refine AWP.seq ?_
                refine AWP.regS G_ok laws_FnExactTakeAll_DD hc (by kernel_rfl) (fun K hK => ?_); simp only [ea, absV, absVL, gv, sv, laws_markStore_subS, laws_markStore_subE, laws_markStore_subS, laws_markStore_subE, laws_markEntryS_sub, D_laws_szStore, D_laws_toStore, D_laws_eqStore, D_laws_markStore, D_laws_heldStore, D_laws_szEntryS, D_spec_TakeAll, D_laws_toEntryS, D_impl_TakeAll, D_laws_eqEntryS, D_laws_markEntryS, Dz_laws_toStore, reduceCtorEq, reduceIte, Nat.reduceBEq, Nat.reduceAdd, Nat.reduceEqDiff, Nat.reduceLT, Nat.reduceLeDiff, Nat.reduceMul, Nat.reduceSub, BEq.rfl, beq_self_eq_true, Int.reduceToNat]
                (refine hK _ ?_)
                clear hK K
                refine AWP.ret ?_
                subst hR
                (simp only [en, si, ea, gv, sv, hk, reduceCtorEq, reduceIte, Nat.reduceBEq, Nat.reduceAdd, Nat.reduceEqDiff, Nat.reduceLT, Nat.reduceLeDiff, Nat.reduceMul, Nat.reduceSub, BEq.rfl, beq_self_eq_true, Int.reduceToNat]; done)
              · (simp only [hb, cond_false] at hR)
                refine AWP.skip ?_
                refine AWP.seq ?_
                refine AWP.seq ?_
                refine AWP.regS G_ok laws_FnExactTakeAll_DD hc (by kernel_rfl) (fun K hK => ?_); simp only [ea, absV, absVL, gv, sv, laws_markStore_subS, laws_markStore_subE, laws_markStore_subS, laws_markStore_subE, laws_markEntryS_sub, D_laws_szStore, D_laws_toStore, D_laws_eqStore, D_laws_markStore, D_laws_heldStore, D_laws_szEntryS, D_spec_TakeAll, D_laws_toEntryS, D_impl_TakeAll, D_laws_eqEntryS, D_laws_markEntryS, Dz_laws_toStore, reduceCtorEq, reduceIte, Nat.reduceBEq, Nat.reduceAdd, Nat.reduceEqDiff, Nat.reduceLT, Nat.reduceLeDiff, Nat.reduceMul, Nat.reduceSub, BEq.rfl, beq_self_eq_true, Int.reduceToNat]
                (refine hK _ ?_)
                clear hK K
                refine AWP.cond rfl (fun hb => ?_) (fun hb => ?_)
                · (simp only [hb, cond_true] at hR)
                  refine AWP.seq ?_
                  refine AWP.regS G_ok laws_FnExactTakeAll_DD hc (by kernel_rfl) (fun K hK => ?_); simp only [ea, absV, absVL, gv, sv, laws_markStore_subS, laws_markStore_subE, laws_markStore_subS, laws_markStore_subE, laws_markEntryS_sub, D_laws_szStore, D_laws_toStore, D_laws_eqStore, D_laws_markStore, D_laws_heldStore, D_laws_szEntryS, D_spec_TakeAll, D_laws_toEntryS, D_impl_TakeAll, D_laws_eqEntryS, D_laws_markEntryS, Dz_laws_toStore, reduceCtorEq, reduceIte, Nat.reduceBEq, Nat.reduceAdd, Nat.reduceEqDiff, Nat.reduceLT, Nat.reduceLeDiff, Nat.reduceMul, Nat.reduceSub, BEq.rfl, beq_self_eq_true, Int.reduceToNat]
                  (refine hK _ ?_)
                  clear hK K
                  refine AWP.ret ?_
                  subst hR
                  (simp only [en, si, ea, gv, sv, hk, reduceCtorEq, reduceIte, Nat.reduceBEq, Nat.reduceAdd, Nat.reduceEqDiff, Nat.reduceLT, Nat.reduceLeDiff, Nat.reduceMul, Nat.reduceSub, BEq.rfl, beq_self_eq_true, Int.reduceToNat]; done)
                · (simp only [hb, cond_false] at hR)
                  refine AWP.skip ?_
                  refine AWP.seq ?_
                  refine AWP.regS G_ok laws_FnExactTakeAll_DD hc (by kernel_rfl) (fun K hK => ?_); simp only [ea, absV, absVL, gv, sv, laws_markStore_subS, laws_markStore_subE, laws_markStore_subS, laws_markStore_subE, laws_markEntryS_sub, D_laws_szStore, D_laws_toStore, D_laws_eqStore, D_laws_markStore, D_laws_heldStore, D_laws_szEntryS, D_spec_TakeAll, D_laws_toEntryS, D_impl_TakeAll, D_laws_eqEntryS, D_laws_markEntryS, Dz_laws_toStore, reduceCtorEq, reduceIte, Nat.reduceBEq, Nat.reduceAdd, Nat.reduceEqDiff, Nat.reduceLT, Nat.reduceLeDiff, Nat.reduceMul, Nat.reduceSub, BEq.rfl, beq_self_eq_true, Int.reduceToNat]
                  (refine ⟨by (((try clear hK K); (repeat' first | apply And.intro | intro _) <;> first | omega | (simp only [ob, ln, bdv, laws_toStore_id, laws_toEntryS_id, laws_markEntryS_len, sv] at *; first | omega | (simp_all; done)))), hK _ ?_⟩)
                  clear hK K
                  refine AWP.seq ?_
                  refine AWP.seq ?_
                  refine AWP.regS G_ok laws_FnExactTakeAll_DD hc (by kernel_rfl) (fun K hK => ?_); simp only [ea, absV, absVL, gv, sv, laws_markStore_subS, laws_markStore_subE, laws_markStore_subS, laws_markStore_subE, laws_markEntryS_sub, D_laws_szStore, D_laws_toStore, D_laws_eqStore, D_laws_markStore, D_laws_heldStore, D_laws_szEntryS, D_spec_TakeAll, D_laws_toEntryS, D_impl_TakeAll, D_laws_eqEntryS, D_laws_markEntryS, Dz_laws_toStore, reduceCtorEq, reduceIte, Nat.reduceBEq, Nat.reduceAdd, Nat.reduceEqDiff, Nat.reduceLT, Nat.reduceLeDiff, Nat.reduceMul, Nat.reduceSub, BEq.rfl, beq_self_eq_true, Int.reduceToNat]
                  (refine ⟨by (omega), hK _ ?_⟩)
                  clear hK K
                  refine AWP.cond rfl (fun hb => ?_) (fun hb => ?_)
                  · exfalso; simp_all
                  · refine AWP.skip ?_
                    refine AWP.seq ?_
                    refine AWP.regS G_ok laws_FnExactTakeAll_DD hc (by kernel_rfl) (fun K hK => ?_); simp only [ea, absV, absVL, gv, sv, laws_markStore_subS, laws_markStore_subE, laws_markStore_subS, laws_markStore_subE, laws_markEntryS_sub, D_laws_szStore, D_laws_toStore, D_laws_eqStore, D_laws_markStore, D_laws_heldStore, D_laws_szEntryS, D_spec_TakeAll, D_laws_toEntryS, D_impl_TakeAll, D_laws_eqEntryS, D_laws_markEntryS, Dz_laws_toStore, reduceCtorEq, reduceIte, Nat.reduceBEq, Nat.reduceAdd, Nat.reduceEqDiff, Nat.reduceLT, Nat.reduceLeDiff, Nat.reduceMul, Nat.reduceSub, BEq.rfl, beq_self_eq_true, Int.reduceToNat]
                    (refine hK _ ?_)
                    clear hK K
                    refine AWP.seq ?_
                    refine AWP.regS G_ok laws_FnExactTakeAll_DD hc (by kernel_rfl) (fun K hK => ?_); simp only [ea, absV, absVL, gv, sv, laws_markStore_subS, laws_markStore_subE, laws_markStore_subS, laws_markStore_subE, laws_markEntryS_sub, D_laws_szStore, D_laws_toStore, D_laws_eqStore, D_laws_markStore, D_laws_heldStore, D_laws_szEntryS, D_spec_TakeAll, D_laws_toEntryS, D_impl_TakeAll, D_laws_eqEntryS, D_laws_markEntryS, Dz_laws_toStore, reduceCtorEq, reduceIte, Nat.reduceBEq, Nat.reduceAdd, Nat.reduceEqDiff, Nat.reduceLT, Nat.reduceLeDiff, Nat.reduceMul, Nat.reduceSub, BEq.rfl, beq_self_eq_true, Int.reduceToNat]
                    (refine ⟨by (((try clear hK K); (repeat' first | apply And.intro | intro _) <;> first | trivial | (simp only [ob, ln, bdv, laws_toStore_id, laws_toEntryS_id, laws_markEntryS_len, sv] at *; (grind [laws_markStore_len, laws_markStore_len, impl_TakeAll_len, laws_markEntryS_len])))), hK _ ?_⟩)
                    clear hK K
                    refine AWP.seq ?_
                    refine AWP.seq ?_
                    refine AWP.regS G_ok laws_FnExactTakeAll_DD hc (by kernel_rfl) (fun K hK => ?_); simp only [ea, absV, absVL, gv, sv, laws_markStore_subS, laws_markStore_subE, laws_markStore_subS, laws_markStore_subE, laws_markEntryS_sub, D_laws_szStore, D_laws_toStore, D_laws_eqStore, D_laws_markStore, D_laws_heldStore, D_laws_szEntryS, D_spec_TakeAll, D_laws_toEntryS, D_impl_TakeAll, D_laws_eqEntryS, D_laws_markEntryS, Dz_laws_toStore, reduceCtorEq, reduceIte, Nat.reduceBEq, Nat.reduceAdd, Nat.reduceEqDiff, Nat.reduceLT, Nat.reduceLeDiff, Nat.reduceMul, Nat.reduceSub, BEq.rfl, beq_self_eq_true, Int.reduceToNat]
                    (refine hK _ ?_)
                    clear hK K
                    refine AWP.cond rfl (fun hb => ?_) (fun hb => ?_)
                    · exfalso; simp_all
                    · refine AWP.skip ?_
                      refine AWP.seq ?_
                      refine AWP.seq ?_
                      refine AWP.regS G_ok laws_FnExactTakeAll_DD hc (by kernel_rfl) (fun K hK => ?_); simp only [ea, absV, absVL, gv, sv, laws_markStore_subS, laws_markStore_subE, laws_markStore_subS, laws_markStore_subE, laws_markEntryS_sub, D_laws_szStore, D_laws_toStore, D_laws_eqStore, D_laws_markStore, D_laws_heldStore, D_laws_szEntryS, D_spec_TakeAll, D_laws_toEntryS, D_impl_TakeAll, D_laws_eqEntryS, D_laws_markEntryS, Dz_laws_toStore, reduceCtorEq, reduceIte, Nat.reduceBEq, Nat.reduceAdd, Nat.reduceEqDiff, Nat.reduceLT, Nat.reduceLeDiff, Nat.reduceMul, Nat.reduceSub, BEq.rfl, beq_self_eq_true, Int.reduceToNat]
                      (refine hK _ ?_)
                      clear hK K
                      refine AWP.cond rfl (fun hb => ?_) (fun hb => ?_)
                      · exfalso; simp_all
                      · refine AWP.skip ?_
                        refine AWP.seq ?_
                        refine AWP.regS G_ok laws_FnExactTakeAll_DD hc (by kernel_rfl) (fun K hK => ?_); simp only [ea, absV, absVL, gv, sv, laws_markStore_subS, laws_markStore_subE, laws_markStore_subS, laws_markStore_subE, laws_markEntryS_sub, D_laws_szStore, D_laws_toStore, D_laws_eqStore, D_laws_markStore, D_laws_heldStore, D_laws_szEntryS, D_spec_TakeAll, D_laws_toEntryS, D_impl_TakeAll, D_laws_eqEntryS, D_laws_markEntryS, Dz_laws_toStore, reduceCtorEq, reduceIte, Nat.reduceBEq, Nat.reduceAdd, Nat.reduceEqDiff, Nat.reduceLT, Nat.reduceLeDiff, Nat.reduceMul, Nat.reduceSub, BEq.rfl, beq_self_eq_true, Int.reduceToNat]
                        (refine hK _ ?_)
                        clear hK K
                        refine AWP.ret ?_
                        subst hR
                        (simp only [en, si, ea, gv, sv, hk, reduceCtorEq, reduceIte, Nat.reduceBEq, Nat.reduceAdd, Nat.reduceEqDiff, Nat.reduceLT, Nat.reduceLeDiff, Nat.reduceMul, Nat.reduceSub, BEq.rfl, beq_self_eq_true, Int.reduceToNat]; done)
def D_laws_FnExactTakeAll : DF
  | [x0, x1, x2] => some (.bool (laws_FnExactTakeAll (rdG dStore x0) (rdI x1) (rdL dEntry x2)), false, [wG eStore dStore x0, wI .i64 x1, wL 3 eEntry dEntry x2])
  | _ => none
theorem D_laws_FnExactTakeAll_ok : OkD Try.prog 14 D_laws_FnExactTakeAll := by
  intro xs r z ob h ho
  unfold D_laws_FnExactTakeAll at h
  split at h
  · simp only [Option.some.injEq, Prod.mk.injEq] at h
    obtain ⟨rfl, rfl, rfl⟩ := h
    obtain ⟨h0, h1, h2, _⟩ := ho
    exact Den.sim (laws_FnExactTakeAll_den _ _ _ ) (simOL_cons (wG_sim h0).1 <| simOL_cons (wI_sim h1).1 <| simOL_cons (wL_sim h2).1 <| trivial) (noIdL_cons (wG_sim h0).2 <| noIdL_cons (wI_sim h1).2 <| noIdL_cons (wL_sim h2).2 <| rfl) rfl
  · cases h
end Go.Ab

namespace Go.Ab
open Go Go.Proofs
theorem needs_eq (n : List Entry) : slices_ContainsFunc_Entry__impl_TakeAll_1 n = n.any (fun e => !(spec_l29Entry e) || decide (e.Amount < 0)) := by
  unfold slices_ContainsFunc_Entry__impl_TakeAll_1 slices_IndexFunc_Entry__impl_TakeAll_1
  have e : ∀ x, impl_TakeAll_1 x = (!(spec_l29Entry x) || decide (x.Amount < 0)) := fun x => by unfold impl_TakeAll_1; rw [isEntry_eq]
  rcases loopR_first (b := slices_IndexFunc_Entry__impl_TakeAll_1_b1 n) (fun j => impl_TakeAll_1 (n.getD j default)) (fun j => (j : Int)) (k := n.length - 0) (i := 0) (s := ()) (fun j u _ _ => rfl) with ⟨j, _, h2, h3, h4, h5⟩ | ⟨h1, h2⟩
  · rw [h5]
    simp only [Int.natCast_nonneg, decide_true]
    symm
    rw [List.any_eq_true]
    refine ⟨n.getD j default, ?_, by rw [← e]; exact h3⟩
    rw [List.getD_eq_getElem?_getD, List.getElem?_eq_getElem (by omega), Option.getD_some]; exact List.getElem_mem _
  · rw [h2]
    simp only
    symm
    rw [show decide ((0 : Int) ≤ -1) = false from rfl, List.any_eq_false]
    intro x hx
    obtain ⟨i, hi, rfl⟩ := List.getElem_of_mem hx
    have := h1 i (by omega) (by omega)
    rw [List.getD_eq_getElem?_getD, List.getElem?_eq_getElem hi, Option.getD_some] at this
    rw [← e, this]; simp
def stepI (d : Int) (e : Entry) (s : List Spare × List Entry) : Except (Store × Int) (List Spare × List Entry) :=
  (bif (((impl_Store_put ({ Spares := s.1, Entries := s.2 : Store }) ({ Day := d, Item := e.Item, Amount := IntKind.wrap .i64 (0 - e.Amount) : Entry })).2) != 0) then .error ({ Spares := [], Entries := [] : Store }, (impl_Store_put ({ Spares := s.1, Entries := s.2 : Store }) ({ Day := d, Item := e.Item, Amount := IntKind.wrap .i64 (0 - e.Amount) : Entry })).2) else .ok (((impl_Store_put ({ Spares := s.1, Entries := s.2 : Store }) ({ Day := d, Item := e.Item, Amount := IntKind.wrap .i64 (0 - e.Amount) : Entry })).1).Spares, ((impl_Store_put ({ Spares := s.1, Entries := s.2 : Store }) ({ Day := d, Item := e.Item, Amount := IntKind.wrap .i64 (0 - e.Amount) : Entry })).1).Entries))
def stepS (d : Int) (e : Entry) (s : List Spare × List Entry) : Except (Store × Int) (List Spare × List Entry) :=
  (bif (((spec_l29Add ({ Spares := s.1, Entries := s.2 : Store }) ({ Day := d, Item := e.Item, Amount := IntKind.wrap .i64 (0 - e.Amount) : Entry })).2) != 0) then .error ({ Spares := [], Entries := [] : Store }, (spec_l29Add ({ Spares := s.1, Entries := s.2 : Store }) ({ Day := d, Item := e.Item, Amount := IntKind.wrap .i64 (0 - e.Amount) : Entry })).2) else .ok (((spec_l29Add ({ Spares := s.1, Entries := s.2 : Store }) ({ Day := d, Item := e.Item, Amount := IntKind.wrap .i64 (0 - e.Amount) : Entry })).1).Spares, ((spec_l29Add ({ Spares := s.1, Entries := s.2 : Store }) ({ Day := d, Item := e.Item, Amount := IntKind.wrap .i64 (0 - e.Amount) : Entry })).1).Entries))
theorem takeLoop (d : Int) (hd : spec_l03Day d = true) : ∀ (t : List Entry) (s : List Spare × List Entry), (∀ e ∈ t, spec_l29Entry e = true) → OkS ⟨s.1, s.2⟩ → loopL (stepI d) t s = loopL (stepS d) t s
  | [], s, _, _ => rfl
  | e :: t, s, h, hok => by
    have he := h e (by simp)
    have he2 : spec_l29Entry { Day := d, Item := e.Item, Amount := IntKind.wrap .i64 (0 - e.Amount) : Entry } = true := by
      simp only [spec_l29Entry, spec_l00In, Bool.and_eq_true, decide_eq_true_eq, bne_iff_ne, ne_eq] at he ⊢
      refine ⟨⟨⟨hd, he.1.1.2⟩, ?_⟩, ?_⟩
      · rw [IntKind.wrap_i64]; omega
      · rw [IntKind.wrap_i64]; omega
    obtain ⟨p1, p2⟩ := put_add _ _ hok he2
    simp only [loopL, stepI, stepS]
    rw [p1]
    cases hz : ((spec_l29Add ({ Spares := s.1, Entries := s.2 : Store }) ({ Day := d, Item := e.Item, Amount := IntKind.wrap .i64 (0 - e.Amount) : Entry })).2 != 0) with
    | true => rfl
    | false =>
      simp only [cond_false]
      exact takeLoop d hd t _ (fun e he => h e (by simp [he])) (p2 (by simpa using hz))
theorem takeAll_eq (a : Store) (d : Int) (n : List Entry) (ha : bwStore a) : impl_TakeAll a d n = spec_TakeAll a d n := by
  unfold impl_TakeAll spec_TakeAll
  rw [validStore_eq a ha, needs_eq]
  cases h1 : spec_l29Ok a with
  | false => rfl
  | true =>
    have hok := (specOk_iff a).1 h1
    have hd : impl_isDay d = spec_l03Day d := rfl
    rw [hd]
    simp only [Bool.not_true, Bool.false_or, cond_false]
    rcases loopR_all (b := spec_TakeAll_b1 a d n) (fun i => ((!(spec_l29Entry (n.getD i default))) || decide (((n.getD i default).Amount) < 0))) ({ Spares := [], Entries := [] : Store }, (1 : Int)) n.length (fun j u _ => rfl) with ⟨g1, h2⟩ | ⟨⟨q, hq, g1⟩, h2⟩
    · have hall : ∀ e ∈ n, (!(spec_l29Entry e) || decide (e.Amount < 0)) = false := (all_getD n (fun e => (!(spec_l29Entry e) || decide (e.Amount < 0)) = false)).1 g1
      have hany : n.any (fun e => !(spec_l29Entry e) || decide (e.Amount < 0)) = false := by
        rw [List.any_eq_false]; intro x hx; rw [hall x hx]; simp
      rw [h2, hany]
      simp only [cond_false]
      cases h3 : spec_l03Day d with
      | false => rfl
      | true =>
        simp only [Bool.not_true, cond_false, impl_clone_Spare_id, impl_clone_Entry_id, spec_l29Own_id]
        have hv : ∀ e ∈ n, spec_l29Entry e = true := fun e he => by
          have := hall e he
          simp only [Bool.or_eq_false_iff, Bool.not_eq_false'] at this
          exact this.1
        have hL := takeLoop d h3 n (a.Spares, a.Entries) hv hok
        rw [loopR_list0 (b := impl_TakeAll_b1 a d n) (stepI d) n (a.Spares, a.Entries) (fun j u hj => rfl), loopR_list0 (b := spec_TakeAll_b2 a d n ()) (stepS d) n (a.Spares, a.Entries) (fun j u hj => rfl)]
        exact congrArg (fun z : Except (Store × Int) (List Spare × List Entry) => match z with | .error e => e | .ok s1 => ({ Spares := s1.1, Entries := s1.2 : Store }, (0 : Int))) hL
    · have hany : n.any (fun e => !(spec_l29Entry e) || decide (e.Amount < 0)) = true := by
        rw [List.any_eq_true]
        refine ⟨n.getD q default, ?_, g1⟩
        rw [List.getD_eq_getElem?_getD, List.getElem?_eq_getElem hq, Option.getD_some]; exact List.getElem_mem _
      rw [h2, hany]; rfl
theorem law_TakeAll (a : Store) (d : Int) (n : List Entry) (ha : bwStore a) (hn : n.length < 9223372036854775808) (hv : ∀ v ∈ n, bwEntry v) : laws_FnExactTakeAll a d n = true := by
  unfold laws_FnExactTakeAll
  have hf := laws_szStore_facts a 1048576 (by omega) (by omega) ha
  have hg := laws_szEntryS_facts n (laws_szStore a 1048576) (by omega) (by omega) hn hv
  have e1 : ∀ s : Store, ({ Spares := s.Spares, Entries := s.Entries : Store }) = s := fun _ => rfl
  simp only [laws_toStore_id, laws_toEntryS_id, laws_eqStore_dec, laws_eqEntryS_dec, e1, takeAll_eq a d n ha]
  by_cases h : laws_szStore a 1048576 < 0
  · simp [h]
  · by_cases h2 : laws_szEntryS n (laws_szStore a 1048576) < 0
    · simp [h, h2]
    · have hb := hf.2.2 h
      have b1 : a.Spares.length < 1099511627776 := And.left (And.left hb)
      have b2 : a.Entries.length < 1099511627776 := And.left (And.right hb)
      have hl := impl_TakeAll_len a d n
      rw [takeAll_eq a d n ha] at hl
      have hm := laws_heldStore_mark (spec_TakeAll a d n).1 1 (by omega) (by omega) (by omega) (by omega)
      have k1 := laws_markStore_k a 1 (by omega) (by omega) b1 b2
      have k2 := laws_markEntryS_k n (laws_markStore a 1).1 (by omega) (by omega) (by have := (hg.2.2 h2).1; omega)
      have hn1 : ¬ (laws_markStore a 1).1 < 0 := by omega
      have hn2 : ¬ (laws_markEntryS n (laws_markStore a 1).1).1 < 0 := by omega
      simp [h, h2, hm.1, hm.2, hn1, hn2]
end Go.Ab

namespace Go.Ab
open Go Go.Proofs Go.Deep Go.ChangeShapes Go.WideShapes Go.ChangeAt Go.RowKit
set_option maxRecDepth 100000
theorem rdT72 : Rd Try.prog 72 eEntry := by
  intro H enc W base sp hd fuel cs x h
  obtain ⟨hl, hf⟩ := rd_fields Try.underlying72 h
  have e0 : Try.prog.cellsOf 72 = 3 := by kernel_rfl
  rw [e0] at hl
  obtain ⟨n0, y0, g0⟩ := hf 0 _ rfl
  have c0 : Try.prog.cellsOf 2 = 1 := by kernel_rfl
  obtain ⟨v0, r0, o0⟩ := (rd_int (k := .i64) Try.underlying2) g0
  replace r0 : RepL W (fun _ => False) ([.int .i64 v0]) noMap ((cs.drop 0).take (Try.prog.cellsOf 2)) [] := r0
  replace o0 : ∀ u ∈ (cs.drop 0).take (Try.prog.cellsOf 2), u.oneCell' = true := o0
  rw [c0] at r0 o0
  obtain ⟨n1, y1, g1⟩ := hf 1 _ rfl
  have c1 : Try.prog.cellsOf 9 = 1 := by kernel_rfl
  obtain ⟨v1, r1, o1⟩ := (rd_str Try.underlying9) g1
  replace r1 : RepL W (fun _ => False) ([.str v1]) noMap ((cs.drop 1).take (Try.prog.cellsOf 9)) [] := r1
  replace o1 : ∀ u ∈ (cs.drop 1).take (Try.prog.cellsOf 9), u.oneCell' = true := o1
  rw [c1] at r1 o1
  obtain ⟨n2, y2, g2⟩ := hf 2 _ rfl
  have c2 : Try.prog.cellsOf 2 = 1 := by kernel_rfl
  obtain ⟨v2, r2, o2⟩ := (rd_int (k := .i64) Try.underlying2) g2
  replace r2 : RepL W (fun _ => False) ([.int .i64 v2]) noMap ((cs.drop 2).take (Try.prog.cellsOf 2)) [] := r2
  replace o2 : ∀ u ∈ (cs.drop 2).take (Try.prog.cellsOf 2), u.oneCell' = true := o2
  rw [c2] at r2 o2
  refine ⟨⟨v0, v1, v2⟩, ?_, ?_⟩
  · exact split_rep (o := 0) (k := 1) r0 (split_rep (o := 1) (k := 1) r1 (split_rep (o := 2) (k := 1) r2 (end_rep (o := 3) (by omega))))
  · exact split_one (o := 0) (k := 1) o0 (split_one (o := 1) (k := 1) o1 (split_one (o := 2) (k := 1) o2 (end_one (o := 3) (by omega))))
theorem rdT23 : Rd Try.prog 23 (fun l : List Entry => [encL 3 eEntry l]) := rd_slice Try.underlying23 (by kernel_rfl) (by decide) rdT72
theorem rdT67 : Rd Try.prog 67 eSpare := by
  intro H enc W base sp hd fuel cs x h
  obtain ⟨hl, hf⟩ := rd_fields Try.underlying67 h
  have e0 : Try.prog.cellsOf 67 = 3 := by kernel_rfl
  rw [e0] at hl
  obtain ⟨n0, y0, g0⟩ := hf 0 _ rfl
  have c0 : Try.prog.cellsOf 9 = 1 := by kernel_rfl
  obtain ⟨v0, r0, o0⟩ := (rd_str Try.underlying9) g0
  replace r0 : RepL W (fun _ => False) ([.str v0]) noMap ((cs.drop 0).take (Try.prog.cellsOf 9)) [] := r0
  replace o0 : ∀ u ∈ (cs.drop 0).take (Try.prog.cellsOf 9), u.oneCell' = true := o0
  rw [c0] at r0 o0
  obtain ⟨n1, y1, g1⟩ := hf 1 _ rfl
  have c1 : Try.prog.cellsOf 2 = 1 := by kernel_rfl
  obtain ⟨v1, r1, o1⟩ := (rd_int (k := .i64) Try.underlying2) g1
  replace r1 : RepL W (fun _ => False) ([.int .i64 v1]) noMap ((cs.drop 1).take (Try.prog.cellsOf 2)) [] := r1
  replace o1 : ∀ u ∈ (cs.drop 1).take (Try.prog.cellsOf 2), u.oneCell' = true := o1
  rw [c1] at r1 o1
  obtain ⟨n2, y2, g2⟩ := hf 2 _ rfl
  have c2 : Try.prog.cellsOf 2 = 1 := by kernel_rfl
  obtain ⟨v2, r2, o2⟩ := (rd_int (k := .i64) Try.underlying2) g2
  replace r2 : RepL W (fun _ => False) ([.int .i64 v2]) noMap ((cs.drop 2).take (Try.prog.cellsOf 2)) [] := r2
  replace o2 : ∀ u ∈ (cs.drop 2).take (Try.prog.cellsOf 2), u.oneCell' = true := o2
  rw [c2] at r2 o2
  refine ⟨⟨v0, v1, v2⟩, ?_, ?_⟩
  · exact split_rep (o := 0) (k := 1) r0 (split_rep (o := 1) (k := 1) r1 (split_rep (o := 2) (k := 1) r2 (end_rep (o := 3) (by omega))))
  · exact split_one (o := 0) (k := 1) o0 (split_one (o := 1) (k := 1) o1 (split_one (o := 2) (k := 1) o2 (end_one (o := 3) (by omega))))
theorem rdT22 : Rd Try.prog 22 (fun l : List Spare => [encL 3 eSpare l]) := rd_slice Try.underlying22 (by kernel_rfl) (by decide) rdT67
theorem rdT25 : Rd Try.prog 25 eStore := by
  intro H enc W base sp hd fuel cs x h
  obtain ⟨hl, hf⟩ := rd_fields Try.underlying25 h
  have e0 : Try.prog.cellsOf 25 = 2 := by kernel_rfl
  rw [e0] at hl
  obtain ⟨n0, y0, g0⟩ := hf 0 _ rfl
  have c0 : Try.prog.cellsOf 22 = 1 := by kernel_rfl
  obtain ⟨v0, r0, o0⟩ := rdT22 g0
  replace r0 : RepL W (fun _ => False) ([encL 3 eSpare v0]) noMap ((cs.drop 0).take (Try.prog.cellsOf 22)) [] := r0
  replace o0 : ∀ u ∈ (cs.drop 0).take (Try.prog.cellsOf 22), u.oneCell' = true := o0
  rw [c0] at r0 o0
  obtain ⟨n1, y1, g1⟩ := hf 1 _ rfl
  have c1 : Try.prog.cellsOf 23 = 1 := by kernel_rfl
  obtain ⟨v1, r1, o1⟩ := rdT23 g1
  replace r1 : RepL W (fun _ => False) ([encL 3 eEntry v1]) noMap ((cs.drop 1).take (Try.prog.cellsOf 23)) [] := r1
  replace o1 : ∀ u ∈ (cs.drop 1).take (Try.prog.cellsOf 23), u.oneCell' = true := o1
  rw [c1] at r1 o1
  refine ⟨⟨v0, v1⟩, ?_, ?_⟩
  · exact split_rep (o := 0) (k := 1) r0 (split_rep (o := 1) (k := 1) r1 (end_rep (o := 2) (by omega)))
  · exact split_one (o := 0) (k := 1) o0 (split_one (o := 1) (k := 1) o1 (end_one (o := 2) (by omega)))
theorem rdT100 : Rd Try.prog 100 eItem := by
  intro H enc W base sp hd fuel cs x h
  obtain ⟨hl, hf⟩ := rd_fields Try.underlying100 h
  have e0 : Try.prog.cellsOf 100 = 2 := by kernel_rfl
  rw [e0] at hl
  obtain ⟨n0, y0, g0⟩ := hf 0 _ rfl
  have c0 : Try.prog.cellsOf 9 = 1 := by kernel_rfl
  obtain ⟨v0, r0, o0⟩ := (rd_str Try.underlying9) g0
  replace r0 : RepL W (fun _ => False) ([.str v0]) noMap ((cs.drop 0).take (Try.prog.cellsOf 9)) [] := r0
  replace o0 : ∀ u ∈ (cs.drop 0).take (Try.prog.cellsOf 9), u.oneCell' = true := o0
  rw [c0] at r0 o0
  obtain ⟨n1, y1, g1⟩ := hf 1 _ rfl
  have c1 : Try.prog.cellsOf 9 = 1 := by kernel_rfl
  obtain ⟨v1, r1, o1⟩ := (rd_str Try.underlying9) g1
  replace r1 : RepL W (fun _ => False) ([.str v1]) noMap ((cs.drop 1).take (Try.prog.cellsOf 9)) [] := r1
  replace o1 : ∀ u ∈ (cs.drop 1).take (Try.prog.cellsOf 9), u.oneCell' = true := o1
  rw [c1] at r1 o1
  refine ⟨⟨v0, v1⟩, ?_, ?_⟩
  · exact split_rep (o := 0) (k := 1) r0 (split_rep (o := 1) (k := 1) r1 (end_rep (o := 2) (by omega)))
  · exact split_one (o := 0) (k := 1) o0 (split_one (o := 1) (k := 1) o1 (end_one (o := 2) (by omega)))
theorem rdT35 : Rd Try.prog 35 (fun l : List Item => [encL 2 eItem l]) := rd_slice Try.underlying35 (by kernel_rfl) (by decide) rdT100
theorem rdT58 : Rd Try.prog 58 (fun l : List Int => [encL 1 eIu8 l]) := rd_slice Try.underlying58 (by kernel_rfl) (by decide) (rd_int (k := .u8) Try.underlying5)
end Go.Ab
