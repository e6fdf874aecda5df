/- A part of a proof: walks of functions and lemmas of our own. No conditions. -/
import Derived.Test.YtphjpngpmhammaaTAj
import Derived.Test.YtphjpngpmhammaaTAo
import Derived.Handy
import Derived.Test.YtphjpngpmhammaaTAh
import Derived.Test.YtphjpngpmhammaaTAn
import Derived.Test.YtphjpngpmhammaaTAm
import Derived.Test.YtphjpngpmhammaaTAk
import Derived.Test.YtphjpngpmhammaaTAi
import Derived.Test.YtphjpngpmhammaaRows
set_option linter.unusedSectionVars false
set_option linter.unusedVariables false
set_option linter.unusedSimpArgs false
namespace Go.Ab
open Go Go.Proofs Go.RowKit Go.Lib Go.Shelf
theorem slices_Insert_Item_DD : DOk Try.prog (DD []) := DD_nil _
set_option maxHeartbeats 4000000 in
set_option maxRecDepth 100000 in
theorem slices_Insert_Item_raw : InsRaw Try.prog 118 103 2 32 := by
  intro w v y n i m A B news hin hm hA hB hN oA oB oN hv hy hne hby hbig
  obtain ⟨i0, z, ET⟩ := ElT.mk' (tS := 37) (tE := 103) G_ok rfl rfl rfl (by decide)
  obtain ⟨u0, inf0, zero0, size0, byt0, zs0, pos0, zone0⟩ := ET
  have u3 : Try.prog.underlying 3 = some (.int .i64) := by kernel_rfl
  rcases hy with ⟨_, h⟩ | ⟨vb, vc, vcur, rfl, hvh, hvs, hvm, hvc, hvn⟩
  · omega
  have hz1 : ¬ ((m : Int) = 0) := by omega
  have hsrc : ∀ (j : Nat) (u : Value), news[j]? = some u → w.cell? ((⟨vb, 0, none⟩ : Addr).add j) = some u := by
    intro j u hu
    have hj : j < m * 2 := by rw [← hN]; exact (List.getElem?_eq_some_iff.1 hu).1
    rw [Addr.add_lit, Nat.zero_add, cell_of_row w vb j vcur 103 (0, 0) hvh, hvn j hj]
    exact hu
  by_cases hend : i = n
  · subst hend
    have hB0 : B = [] := List.eq_nil_of_length_eq_zero (by simpa using hB)
    subst hB0
    obtain ⟨v', w', hr, ho⟩ := append_run (P := Try.prog) (w := w) (ty := 37) (y := .slice (some ⟨vb, 0, none⟩) m vc) u0 inf0 zero0 size0 byt0 zs0 hA hN oN (by
      rcases hv with h | ⟨b, c, cur, h1, h2, h3, h4, h5, h6⟩
      · exact .inl h
      · exact .inr ⟨b, c, cur, h1, h2, h3, h4, h5, fun j hj => by rw [h6 j hj, List.append_nil]⟩) (.inr ⟨_, _, rfl, hsrc⟩) hby hbig
    rcases ho with ⟨_, h, _⟩ | ⟨b', cap', cur', rfl, ho⟩
    · omega
    have fin : AppOut w w' 103 2 (i + m) 0 v.ownBlock (A ++ news ++ []) [] b' cap' cur' := by
      refine ⟨ho.os, ho.tape, ho.output, ho.size, ho.other, ho.row, ho.len, by have := ho.fit; omega, ho.big, ?_, fun j hj => by omega, ho.place⟩
      intro j hj
      rw [List.append_nil]
      by_cases h : j < i * 2
      · rw [List.getElem?_append_left (by omega)]; exact ho.olds j h
      · have := ho.adds (j - i * 2) (by omega)
        rw [List.getElem?_append_right (by omega), hA, ← this]
        congr 1; omega
    rw [List.append_nil] at fin
    have hsh : (v = .slice none 0 0 ∧ i = 0) ∨ ∃ b c, v = .slice (some ⟨b, 0, none⟩) i c ∧ i ≤ c ∧ c ≤ 9223372036854775807 := by
      rcases hv with h | ⟨b, c, cur, h1, h2, h3, h4, h5, h6⟩
      · exact .inl h
      · exact .inr ⟨b, c, h1, h4, h5⟩
    clear hne ho hv hvh hvs hvn hsrc hA hB hN oA oB oN
    rcases hsh with ⟨rfl, rfl⟩ | ⟨b, c, rfl, hic, hcm⟩
    · go_enter Try.func118, Try.ntmps118
      go_wp2_with (at_builtin; refine wpList_appendE _ rfl _ _ _ _ rfl _ _ rfl rfl hr ?_)
      go_ret
      rw [Nat.zero_add] at fin ⊢
      (exact ⟨b', cap', cur', rfl, by (rw [List.append_nil]; exact fin)⟩)
    · go_enter Try.func118, Try.ntmps118
      go_wp2_with (at_builtin; refine wpList_appendE _ rfl _ _ _ _ rfl _ _ rfl rfl hr ?_)
      all_goals go_ret
      all_goals (exact ⟨b', cap', rfl, cur', by exact fin⟩)
  · have hlt : i < n := by omega
    rcases hv with ⟨_, h⟩ | ⟨b, c, cur, rfl, hb, hcs, hnc, hcm, hold⟩
    · omega
    have hvb : vb ≠ b := fun h => hne b rfl (by rw [h]; rfl)
    have mixed : Try.prog.follows .mixedOrders = true := by kernel_rfl
    have hz2 : ¬ ((i : Int) = (n : Int)) := by omega
    have hcSX : c ≤ 9223372036854775807 := hcm
    have hw1 : IntKind.i64.wrap ((i : Int) + (m : Int)) = (i : Int) + (m : Int) := by rw [IntKind.wrap_i64]; omega
    have hb1 : (0 : Int) ≤ (i : Int) + (m : Int) := by omega
    have hin : i ≤ n := by omega
    have htn : ((i : Int) + (m : Int)).toNat = i + m := by omega
    have hb4 : ¬ (c = i) := by omega
    have hAn : A.length + B.length = n * 2 := by omega
    have hgA : ∀ (j : Nat) (u : Value), A[j]? = some u → cur[j]? = some u := by
      intro j u hu
      have hj : j < A.length := (List.getElem?_eq_some_iff.1 hu).1
      rw [hold j (by omega), List.getElem?_append_left hj, hu]
    have hgB : ∀ (j : Nat) (u : Value), B[j]? = some u → cur[i * 2 + j]? = some u := by
      intro j u hu
      have hj : j < B.length := (List.getElem?_eq_some_iff.1 hu).1
      rw [hold _ (by omega), List.getElem?_append_right (by omega), hA, Nat.add_sub_cancel_left, hu]
    by_cases hroom : n + m ≤ c
    · have hb2 : ¬ (c = i + m) := by omega
      have hb3 : (i : Int) ≤ (n : Int) + (m : Int) := by omega
      have hmin : Nat.min (n + m - i) (n + m - (i + m)) = n - i := by simp only [Nat.min_def]; split <;> omega
      have hmin2 : Nat.min m (n + m - i) = m := by simp only [Nat.min_def]; split <;> omega
      obtain ⟨cur1, hcur1⟩ : ∃ cur1, cur1 = (putV ((i + m) * 2) B cur.toList).toArray := ⟨_, rfl⟩
      have hl1 : cur1.size = cur.size := by rw [hcur1]; simp [putV_length]
      have hov : ∀ lb cb, (callFunc 131 #[.slice (some ⟨vb, 0, none⟩) m vc, .slice (some ⟨b, (i + m) * 2, none⟩) lb cb]).run Try.prog w = .ok (.value (.bool false)) w := fun lb cb => by
        rw [run_callFunc_extern Try.func131 (by kernel_rfl) (by kernel_rfl) (by kernel_rfl) (e := Extern.SlicesOverlaps.overlaps #[37, 37] #[4]) (by kernel_rfl),
          run_overlapsE w 37 4 103 i0 u0 inf0 vb b 0 ((i + m) * 2) m vc lb cb hvb vcur cur 103 103 hvh hb (by omega)]
        rfl
      have hcp1 : ∀ ty dc sc, (Builtin.copy_ #[37, 37] ty #[.slice (some ⟨b, (i + m) * 2, none⟩) (n + m - (i + m)) dc, .slice (some ⟨b, i * 2, none⟩) (n + m - i) sc]).run Try.prog w.drew = .ok (goInt ((n - i : Nat) : Int)) (w.drew.setRow b cur1) := fun ty dc sc => by
        rw [hcur1]
        exact run_copyE w.drew 37 37 ty 103 i0 b ((i + m) * 2) _ dc ⟨b, i * 2, none⟩ _ sc (n - i) cur 103 B u0 inf0 hb hmin (by rw [size0]; exact hB)
          (fun j u hj => by rw [Addr.add_lit, cell_of_row w.drew b _ cur 103 (0, 0) hb]; exact hgB j u hj) (by omega) oB
      have hr1 : ∀ W : World, W.heap = (w.drew.setRow b cur1).heap → W.heap[b]? = some (.cells cur1 103 (0, 0)) := fun W h => by rw [h]; exact setRow_heap w.drew b cur cur1 103 (0, 0) hb
      have hcp2 : ∀ (W : World), W.heap = (w.drew.setRow b cur1).heap → ∀ ty dc, (Builtin.copy_ #[37, 37] ty #[.slice (some ⟨b, i * 2, none⟩) (n + m - i) dc, .slice (some ⟨vb, 0, none⟩) m vc]).run Try.prog W = .ok (goInt m) (W.setRow b (putV (i * 2) news cur1.toList).toArray) := fun W hW ty dc =>
        run_copyE W 37 37 ty 103 i0 b (i * 2) _ dc ⟨vb, 0, none⟩ m vc m cur1 103 news u0 inf0 (hr1 W hW) hmin2 (by rw [size0]; exact hN)
          (fun j u hj => by
            have hj2 : j < m * 2 := by rw [← hN]; exact (List.getElem?_eq_some_iff.1 hj).1
            have hvh2 : W.heap[vb]? = some (.cells vcur 103 (0, 0)) := by rw [hW, setRow_other w.drew b vb cur1 hvb]; exact hvh
            rw [Addr.add_lit, Nat.zero_add, cell_of_row W vb j vcur 103 (0, 0) hvh2, hvn j hj2]; exact hj) (by omega) oN
      have fin : ∀ W : World, W.heap = (w.drew.setRow b cur1).heap → W.os = w.os → W.tape = w.tape → W.output = w.output →
          AppOut w (W.setRow b (putV (i * 2) news cur1.toList).toArray) 103 2 (n + m) 0 (Value.ownBlock (.slice (some ⟨b, 0, none⟩) n c)) (A ++ news ++ B) [] b c (putV (i * 2) news cur1.toList).toArray := by
        intro W hW h1 h2 h3
        refine ⟨h1, h2, h3, ?_, ?_, setRow_heap W b cur1 _ 103 (0, 0) (hr1 W hW), by simp [putV_length, hl1, hcs], by omega, hcm, ?_, fun j hj => by omega, .inl rfl⟩
        · simp [hW]
        · intro k hk hkb
          rw [setRow_other W b k _ hkb, hW, setRow_other w.drew b k _ hkb]; rfl
        · intro j hj
          simp only [List.getElem?_toArray, putV_get]
          have hcl : cur1.toList.length = c * 2 := by simp [hl1, hcs]
          by_cases h1 : j < i * 2
          · rw [if_neg (by omega), List.append_assoc, List.getElem?_append_left (by omega), hcur1]
            simp only [putV_get]
            rw [if_neg (by omega)]
            have : A[j]? = some A[j] := List.getElem?_eq_getElem (by omega)
            rw [this]; simpa using hgA j _ this
          · by_cases h2 : j < (i + m) * 2
            · rw [if_pos (by rw [hcl, hN]; omega), List.append_assoc, List.getElem?_append_right (by omega), List.getElem?_append_left (by omega), hA]
            · rw [if_neg (by omega), List.getElem?_append_right (by simp only [List.length_append]; omega), hcur1]
              simp only [putV_get]
              rw [if_pos (by simp only [Array.length_toList]; omega)]
              congr 1; simp only [List.length_append]; omega
      clear hold hgA hgB hcs hb hvh hvs hvn hsrc hA hB hN oA oB oN hne hby hAn hr1 zero0 byt0 zs0 zone0 size0 hcur1 hl1 hmin hmin2
      go_enter Try.func118, Try.ntmps118
      go_wp2_with (simp only [hov])
      go_region_law_o (refine step_copyE rfl _ _ 37 37 rfl _ _ (by simp [Act.eval, Act.put]) (by simp [Act.eval, Act.put]) (hcp1 _ _ _) ?_)
      go_wp2_with (at_builtin; refine wpList_copyE _ rfl _ _ 37 37 rfl _ _ rfl rfl (hcp2 _ rfl _ _) ?_)
      go_ret
      exact ⟨b, c, _, rfl, fin _ rfl rfl rfl rfl⟩
    · have hz3 : (c : Int) < (n : Int) + (m : Int) := by omega
      have hbw : b < w.heap.size := (Array.getElem?_eq_some_iff.1 hb).1
      have hvw : vb < w.heap.size := (Array.getElem?_eq_some_iff.1 hvh).1
      have hik : i + (n + m - i) = n + m := by omega
      have hrz : ∀ ty, (Builtin.append_ #[37, 3] ty #[.slice (some ⟨b, 0, none⟩) i c, .int .i64 ((n : Int) + (m : Int) - (i : Int))]).run Try.prog w = .ok (.slice (some ⟨w.heap.size, 0, none⟩) (n + m) (grownCap w (n + m) c 103)) (w.drew.alloc (.cells (A.toArray ++ Builtin.zeroCells z.cells (n + m - i) ++ Builtin.zeroCells z.cells (grownCap w (n + m) c 103 - (n + m))) 103)) := fun ty => by
        have h := run_append_makeE (P := Try.prog) w 37 3 ty 103 i0 z u0 u3 inf0 zero0 ⟨b, 0, none⟩ i c A (by rw [size0]; exact hA)
          (fun j u hj => by rw [Addr.add_lit, Nat.zero_add, cell_of_row w b _ cur 103 (0, 0) hb]; exact hgA j u hj) (n + m - i) (by omega) (by rw [size0]; decide) (by omega) (by omega) (by rw [byt0, hik]; exact hby)
        rw [hik, show ((n + m - i : Nat) : Int) = (n : Int) + (m : Int) - (i : Int) by omega] at h
        exact h
      obtain ⟨N, hN0⟩ : ∃ N, N = w.heap.size := ⟨_, rfl⟩
      obtain ⟨G9, hG⟩ : ∃ G9, G9 = grownCap w (n + m) c 103 := ⟨_, rfl⟩
      have hGn : n + m ≤ G9 := by rw [hG]; exact grownCap_ge w _ _ _
      have hGSX : G9 ≤ 9223372036854775807 := by
        have := grownCap_le_maxLen w (n + m) c 103 (by unfold maxLen; omega)
        rw [← hG] at this
        unfold maxLen at this
        omega
      obtain ⟨row, hrow⟩ : ∃ row : Array Value, row = A.toArray ++ Builtin.zeroCells z.cells (n + m - i) ++ Builtin.zeroCells z.cells (G9 - (n + m)) := ⟨_, rfl⟩
      rw [← hG, ← hrow, ← hN0] at hrz
      have hrl : row.size = G9 * 2 := by
        rw [hrow]; simp only [Array.size_append, List.size_toArray, size_zeroCells, zs0, hA]; omega
      have hGi : ¬ (G9 = i) := by omega
      have hGim : ¬ (G9 = i + m) := by omega
      have hbN : b ≠ N := by omega
      have hvN : vb ≠ N := by omega
      have hmin1 : Nat.min m (n + m - i) = m := by simp only [Nat.min_def]; split <;> omega
      have hmin2 : Nat.min (n - i) (n + m - (i + m)) = n - i := by simp only [Nat.min_def]; split <;> omega
      have hW1 : ∀ W : World, W.heap = w.heap.push (.cells row 103) → W.heap[N]? = some (.cells row 103 (0, 0)) ∧ W.heap[b]? = some (.cells cur 103 (0, 0)) ∧ W.heap[vb]? = some (.cells vcur 103 (0, 0)) := by
        intro W h
        rw [h]
        refine ⟨by rw [hN0]; simp, ?_, ?_⟩
        · rw [Array.getElem?_push, if_neg (by omega)]; exact hb
        · rw [Array.getElem?_push, if_neg (by omega)]; exact hvh
      obtain ⟨row2, hrow2⟩ : ∃ row2, row2 = (putV (i * 2) news row.toList).toArray := ⟨_, rfl⟩
      have hl2 : row2.size = G9 * 2 := by rw [hrow2]; simp [putV_length, hrl]
      have hcpA : ∀ (W : World), W.heap = w.heap.push (.cells row 103) → ∀ ty dc, (Builtin.copy_ #[37, 37] ty #[.slice (some ⟨N, i * 2, none⟩) (n + m - i) dc, .slice (some ⟨vb, 0, none⟩) m vc]).run Try.prog W = .ok (goInt m) (W.setRow N row2) := fun W hW ty dc => by
        rw [hrow2]
        exact run_copyE W 37 37 ty 103 i0 N (i * 2) _ dc ⟨vb, 0, none⟩ m vc m row 103 news u0 inf0 (hW1 W hW).1 hmin1 (by rw [size0]; exact hN)
          (fun j u hj => by
            have hj2 : j < m * 2 := by rw [← hN]; exact (List.getElem?_eq_some_iff.1 hj).1
            rw [Addr.add_lit, Nat.zero_add, cell_of_row W vb j vcur 103 (0, 0) (hW1 W hW).2.2, hvn j hj2]; exact hj) (by omega) oN
      have hW2 : ∀ W W0 : World, W0.heap = w.heap.push (.cells row 103) → W.heap = (W0.setRow N row2).heap → W.heap[N]? = some (.cells row2 103 (0, 0)) ∧ W.heap[b]? = some (.cells cur 103 (0, 0)) := by
        intro W W0 h0 h
        rw [h]
        exact ⟨setRow_heap W0 N row row2 103 (0, 0) (hW1 W0 h0).1, by rw [setRow_other W0 N b row2 hbN]; exact (hW1 W0 h0).2.1⟩
      have hcpB : ∀ (W W0 : World), W0.heap = w.heap.push (.cells row 103) → W.heap = (W0.setRow N row2).heap → ∀ ty dc sc, (Builtin.copy_ #[37, 37] ty #[.slice (some ⟨N, (i + m) * 2, none⟩) (n + m - (i + m)) dc, .slice (some ⟨b, i * 2, none⟩) (n - i) sc]).run Try.prog W = .ok (goInt ((n - i : Nat) : Int)) (W.setRow N (putV ((i + m) * 2) B row2.toList).toArray) := fun W W0 h0 hW ty dc sc =>
        run_copyE W 37 37 ty 103 i0 N ((i + m) * 2) _ dc ⟨b, i * 2, none⟩ _ sc (n - i) row2 103 B u0 inf0 (hW2 W W0 h0 hW).1 hmin2 (by rw [size0]; exact hB)
          (fun j u hj => by rw [Addr.add_lit, cell_of_row W b _ cur 103 (0, 0) (hW2 W W0 h0 hW).2]; exact hgB j u hj) (by omega) oB
      have fin : ∀ W W0 : World, W0.heap = w.heap.push (.cells row 103) → W.heap = (W0.setRow N row2).heap → W.os = w.os → W.tape = w.tape → W.output = w.output →
          AppOut w (W.setRow N (putV ((i + m) * 2) B row2.toList).toArray) 103 2 (n + m) 0 (Value.ownBlock (.slice (some ⟨b, 0, none⟩) n c)) (A ++ news ++ B) [] N G9 (putV ((i + m) * 2) B row2.toList).toArray := by
        intro W W0 h0 hW h1 h2 h3
        refine ⟨h1, h2, h3, ?_, ?_, setRow_heap W N row2 _ 103 (0, 0) (hW2 W W0 h0 hW).1, by simp [putV_length, hl2], by omega, hGSX, ?_, fun j hj => by omega, .inr hN0⟩
        · simp [hW, h0]
        · intro k hk hkb
          rw [setRow_other W N k _ hkb, hW, setRow_other W0 N k _ hkb, h0, Array.getElem?_push, if_neg (by omega)]
        · intro j hj
          simp only [List.getElem?_toArray, putV_get]
          have hcl : row2.toList.length = G9 * 2 := by simp [hl2]
          have hcl1 : row.toList.length = G9 * 2 := by simp [hrl]
          by_cases h1 : (i + m) * 2 ≤ j
          · rw [if_pos (by omega), List.getElem?_append_right (by simp only [List.length_append]; omega)]
            congr 1; simp only [List.length_append]; omega
          · rw [if_neg (by omega), hrow2, List.getElem?_append_left (by simp only [List.length_append]; omega)]
            simp only [putV_get]
            by_cases h2 : i * 2 ≤ j
            · rw [if_pos (by omega), List.getElem?_append_right (by omega), hA]
            · rw [if_neg (by omega), List.getElem?_append_left (by omega), hrow]
              rw [Array.toList_append, Array.toList_append, List.append_assoc, List.getElem?_append_left (by simp; omega)]
      clear hold hgA hgB hcs hb hvh hvs hvn hsrc hA hB hN oA oB oN hne hby hAn zero0 byt0 zs0 zone0 size0 hW1 hW2 hrl hl2 hik hrow hrow2 hG hmin1 hmin2 hbw hvw
      subst hN0
      have hcpA1 := hcpA (w.alloc (.cells row 103)).drew rfl
      have hcpB1 := hcpB ((w.alloc (.cells row 103)).drew.setRow w.heap.size row2).drew (w.alloc (.cells row 103)).drew rfl rfl
      go_enter Try.func118, Try.ntmps118
      go_wp2_with (at_builtin; refine wpList_appendE _ rfl _ _ _ _ rfl _ _ rfl rfl (hrz _) ?_)
      go_region_law_o (refine step_copyE rfl _ _ 37 37 rfl _ _ (by simp [Act.eval, Act.put]) (by simp [Act.eval, Act.put]) (hcpB1 _ _ _) ?_)
      go_wp2
      go_ret
      (exact ⟨_, _, _, rfl, fin _ (w.alloc (.cells row 103)).drew rfl rfl rfl rfl rfl⟩)

def slices_Insert_Item (a0 : (List Item)) (a1 : Int) (a2 : (List Item)) : List Item := a0.take a1.toNat ++ a2 ++ a0.drop a1.toNat

theorem slices_Insert_Item_den (a0 : (List Item)) (a1 : Int) (a2 : (List Item)) (hp0 : 0 ≤ a1) (hp1 : a1 ≤ a0.length) (hp2 : 0 < a2.length) (hp3 : a0.length < 1099511627776) (hp4 : a2.length < 1099511627776) : DenM Try.prog 118 [ownL 103 2 eItem a0, .int .i64 a1, ownL 103 2 eItem a2] (ownL 103 2 eItem (slices_Insert_Item a0 a1 a2)) [.any, .any, .any] :=
  ins_den ⟨_, Try.func118, rfl, rfl⟩ slices_Insert_Item_raw (fun v => by simp [eItem, ownL, NoBorL, NoBor]) a0 a2 a1 hp0 hp1 hp2 (by omega) (by omega)

def D_slices_Insert_Item : List AV → Option (AV × List AV × List Prop)
  | [x0, x1, x2] => some (ownL 103 2 eItem (slices_Insert_Item (rdL dItem x0) (rdI x1) (rdL dItem x2)), [.any, .any, .any], [wO 103 2 eItem dItem x0, wI .i64 x1, wO 103 2 eItem dItem x2, 0 ≤ (rdI x1), (rdI x1) ≤ (rdL dItem x0).length, 0 < (rdL dItem x2).length, (rdL dItem x0).length < 1099511627776, (rdL dItem x2).length < 1099511627776])
  | _ => none
theorem D_slices_Insert_Item_ok : OkM Try.prog 118 D_slices_Insert_Item := by
  intro xs r outs ob h ho
  unfold D_slices_Insert_Item at h
  split at h
  · simp only [Option.some.injEq, Prod.mk.injEq] at h
    obtain ⟨rfl, rfl, rfl⟩ := h
    obtain ⟨h0, h1, h2, hp0, hp1, hp2, hp3, hp4, _⟩ := ho
    exact DenM.sim (slices_Insert_Item_den _ _ _ hp0 hp1 hp2 hp3 hp4) (simOL_cons (wO_sim h0) <| simOL_cons (wI_sim h1).1 <| simOL_cons (wO_sim h2) <| trivial)
  · cases h
end Go.Ab

namespace Go.Ab
open Go Go.Proofs
theorem impl_clone_Item_DD : DOk Try.prog (DD []) := DD_nil _
def impl_clone_Item (a0 : (List Item)) : (List Item) :=
  (List.replicate 0 (default : Item)) ++ a0

theorem impl_clone_Item_den (a0 : (List Item)) (hb0 : a0.length < 1099511627776) (hb1 : ∀ v ∈ a0, bdItem v) : Den Try.prog 79 [encL 2 eItem a0] (ownL 103 2 eItem (impl_clone_Item a0)) := by
  generalize hR : impl_clone_Item a0 = r
  unfold impl_clone_Item at hR
  refine den_intro G_ok Try.func79 (by kernel_rfl) rfl Try.ntmps79 (by rw [Try.results79]) (by simp) rfl ?_
  intro c hL hc hk
  obtain ⟨hL0, _⟩ := hL
  have hw0 : a0.length < 9223372036854775808 := Nat.lt_succ_of_le (lens_encL hL0).1
  have hw1 : ∀ v ∈ a0, bwItem v := fun v hv => Item_lens v ((lens_encL hL0).2 v hv)
  clear hL0
  simp only [pars, Nat.zero_add]
  refine AWP.seq ?_
  refine AWP.regS G_ok impl_clone_Item_DD hc (by kernel_rfl) (fun K hK => ?_); simp only [ea, gv, sv, reduceCtorEq, reduceIte, Nat.reduceBEq, Nat.reduceAdd, Nat.reduceEqDiff, Nat.reduceLT, Nat.reduceLeDiff, Nat.reduceMul, Nat.reduceSub, BEq.rfl, beq_self_eq_true, Int.reduceToNat]
  (refine hK _ ?_)
  clear hK K
  refine AWP.seq ?_
  refine AWP.regS G_ok impl_clone_Item_DD hc (by kernel_rfl) (fun K hK => ?_); simp only [ea, gv, sv, reduceCtorEq, reduceIte, Nat.reduceBEq, Nat.reduceAdd, Nat.reduceEqDiff, Nat.reduceLT, Nat.reduceLeDiff, Nat.reduceMul, Nat.reduceSub, BEq.rfl, beq_self_eq_true, Int.reduceToNat]
  (refine ⟨by (omega), hK _ ?_⟩)
  clear hK K
  refine AWP.ret ?_
  subst hR
  (simp only [en, si, ea, gv, sv, hk, reduceCtorEq, reduceIte, Nat.reduceBEq, Nat.reduceAdd, Nat.reduceEqDiff, Nat.reduceLT, Nat.reduceLeDiff, Nat.reduceMul, Nat.reduceSub, BEq.rfl, beq_self_eq_true, Int.reduceToNat]; (and_intros <;> first | rfl | omega | (left; and_intros <;> (intro j hj; simp only [pw, Bool.cond_eq_ite, Bool.and_eq_true, decide_eq_true_eq]; (repeat' split) <;> simp [putL, borrowL, borrow, NoBorL, NoBor])) | (intro j hj; simp only [pw, Bool.cond_eq_ite, Bool.and_eq_true, decide_eq_true_eq]; (try rw [subL_getD _ _ _ _ (by assumption)]); (try rw [clearL_getD _ _ _ _ (by omega)]); (repeat' split) <;> first | omega | exact simOL_refl _ | (simp_all; done))))

def D_impl_clone_Item : DF
  | [x0] => some (ownL 103 2 eItem (impl_clone_Item (rdL dItem x0)), false, [wL 2 eItem dItem x0, (rdL dItem x0).length < 1099511627776, ∀ v ∈ (rdL dItem x0), bdItem v])
  | _ => none
def Dz_impl_clone_Item : DF
  | [x0] => some (ownL 103 2 eItem (impl_clone_Item (rdL dItem x0)), true, [wL 2 eItem dItem x0, (rdL dItem x0).length < 1099511627776, ∀ v ∈ (rdL dItem x0), bdItem v])
  | _ => none
theorem D_impl_clone_Item_ok : OkD Try.prog 79 D_impl_clone_Item := by
  intro xs r z ob h ho
  unfold D_impl_clone_Item at h
  split at h
  · simp only [Option.some.injEq, Prod.mk.injEq] at h
    obtain ⟨rfl, rfl, rfl⟩ := h
    obtain ⟨h0, hb0, hb1, _⟩ := ho
    exact Den.sim (impl_clone_Item_den _ hb0 hb1) (simOL_cons (wL_sim h0).1 <| trivial) (noIdL_cons (wL_sim h0).2 <| rfl) rfl
  · cases h

theorem Dz_impl_clone_Item_ok : OkD Try.prog 79 Dz_impl_clone_Item := by
  intro xs r z ob h ho
  unfold Dz_impl_clone_Item at h
  split at h
  · simp only [Option.some.injEq, Prod.mk.injEq] at h
    obtain ⟨rfl, rfl, rfl⟩ := h
    obtain ⟨h0, hb0, hb1, _⟩ := ho
    exact Den.sim (impl_clone_Item_den _ hb0 hb1) (simOL_cons (wL_sim h0).1 <| trivial) (noIdL_cons (wL_sim h0).2 <| rfl) rfl
  · cases h
end Go.Ab

namespace Go.Ab
open Go Go.Proofs
theorem slices_Insert_Item_len (l : List Item) (i : Int) (x : List Item) : (slices_Insert_Item l i x).length = l.length + x.length := by
  simp [slices_Insert_Item]; omega
theorem slices_Insert_Item_mem (l : List Item) (i : Int) (x : List Item) (v : Item) (h : v ∈ slices_Insert_Item l i x) : v ∈ l ∨ v ∈ x := by
  simp only [slices_Insert_Item, List.mem_append] at h
  rcases h with (h | h) | h
  · exact .inl (List.mem_of_mem_take h)
  · exact .inr h
  · exact .inl (List.mem_of_mem_drop h)
end Go.Ab

namespace Go.Ab
open Go Go.Proofs
theorem impl_clone_Item_id (a : List Item) : impl_clone_Item a = a := by simp [impl_clone_Item]
end Go.Ab

namespace Go.Ab
open Go Go.Proofs
theorem impl_put_DD : DOk Try.prog (DD [(117, dP D_impl_itemOf), (118, dM [true, false, true] D_slices_Insert_Item), (79, dP D_impl_clone_Item)]) := DD_cons D_impl_itemOf_ok.e <| DD_cons D_slices_Insert_Item_ok.e <| DD_cons D_impl_clone_Item_ok.e <| DD_nil _
def impl_put (a0 : (List Item)) (a1 : Item) : (List Item) :=
  (bif (!((impl_itemOf (impl_clone_Item a0) a1.Key).2)) then ((slices_Insert_Item (impl_clone_Item a0) ((impl_itemOf (impl_clone_Item a0) a1.Key).1) [a1])) else (impl_clone_Item a0).set (((impl_itemOf (impl_clone_Item a0) a1.Key).1).toNat) a1)

theorem impl_put_den (a0 : (List Item)) (a1 : Item) (hb0 : a0.length < 1099511627776) (hb1 : ∀ v ∈ a0, bdItem v) (hb2 : bdItem a1) : Den Try.prog 80 [encL 2 eItem a0, .agg (eItem a1)] (ownL 103 2 eItem (impl_put a0 a1)) := by
  generalize hR : impl_put a0 a1 = r
  unfold impl_put at hR
  refine den_intro G_ok Try.func80 (by kernel_rfl) rfl Try.ntmps80 (by rw [Try.results80]) (by simp) rfl ?_
  intro c hL hc hk
  obtain ⟨hL0, hL1, _⟩ := hL
  have hw0 : a0.length < 9223372036854775808 := Nat.lt_succ_of_le (lens_encL hL0).1
  have hw1 : ∀ v ∈ a0, bwItem v := fun v hv => Item_lens v ((lens_encL hL0).2 v hv)
  have hw2 : bwItem a1 := Item_lens a1 hL1
  clear hL0 hL1
  simp only [pars, Nat.zero_add]
  have hix := impl_itemOf_ix a0 a1.Key (by omega)
  refine AWP.seq ?_
  refine AWP.regS G_ok impl_put_DD hc (by kernel_rfl) (fun K hK => ?_); simp only [ea, absV, absVL, gv, sv, D_impl_itemOf, D_slices_Insert_Item, D_impl_clone_Item, reduceCtorEq, reduceIte, Nat.reduceBEq, Nat.reduceAdd, Nat.reduceEqDiff, Nat.reduceLT, Nat.reduceLeDiff, Nat.reduceMul, Nat.reduceSub, BEq.rfl, beq_self_eq_true, Int.reduceToNat]
  (refine hK _ ?_)
  clear hK K
  refine AWP.seq ?_
  refine AWP.regS G_ok impl_put_DD hc (by kernel_rfl) (fun K hK => ?_); simp only [ea, absV, absVL, gv, sv, D_impl_itemOf, D_slices_Insert_Item, D_impl_clone_Item, reduceCtorEq, reduceIte, Nat.reduceBEq, Nat.reduceAdd, Nat.reduceEqDiff, Nat.reduceLT, Nat.reduceLeDiff, Nat.reduceMul, Nat.reduceSub, BEq.rfl, beq_self_eq_true, Int.reduceToNat]
  (refine ⟨by (trivial), hK _ ?_⟩)
  clear hK K
  refine AWP.seq ?_
  refine AWP.regS G_ok impl_put_DD hc (by kernel_rfl) (fun K hK => ?_); simp only [ea, absV, absVL, gv, sv, D_impl_itemOf, D_slices_Insert_Item, D_impl_clone_Item, reduceCtorEq, reduceIte, Nat.reduceBEq, Nat.reduceAdd, Nat.reduceEqDiff, Nat.reduceLT, Nat.reduceLeDiff, Nat.reduceMul, Nat.reduceSub, BEq.rfl, beq_self_eq_true, Int.reduceToNat]
  (refine ⟨by (omega), hK _ ?_⟩)
  clear hK K
  refine AWP.seq ?_
  refine AWP.seq ?_
  refine AWP.regS G_ok impl_put_DD hc (by kernel_rfl) (fun K hK => ?_); simp only [ea, absV, absVL, gv, sv, D_impl_itemOf, D_slices_Insert_Item, D_impl_clone_Item, reduceCtorEq, reduceIte, Nat.reduceBEq, Nat.reduceAdd, Nat.reduceEqDiff, Nat.reduceLT, Nat.reduceLeDiff, Nat.reduceMul, Nat.reduceSub, BEq.rfl, beq_self_eq_true, Int.reduceToNat]
  (refine hK _ ?_)
  clear hK K
  refine AWP.cond rfl (fun hb => ?_) (fun hb => ?_)
  · (simp only [hb, cond_true] at hR)
    refine AWP.seq ?_
    refine AWP.regS G_ok impl_put_DD hc (by kernel_rfl) (fun K hK => ?_); simp only [ea, absV, absVL, gv, sv, D_impl_itemOf, D_slices_Insert_Item, D_impl_clone_Item, reduceCtorEq, reduceIte, Nat.reduceBEq, Nat.reduceAdd, Nat.reduceEqDiff, Nat.reduceLT, Nat.reduceLeDiff, Nat.reduceMul, Nat.reduceSub, BEq.rfl, beq_self_eq_true, Int.reduceToNat]
    (refine ⟨by (((try clear hK K); (repeat' (apply And.intro)) <;> first | trivial | omega | (simp only [ob, ln, bdv, impl_clone_Item_id, sv] at *; omega))), hK _ ?_⟩)
    clear hK K
    refine AWP.ret ?_
    subst hR
    (simp only [en, si, ea, gv, sv, hk, reduceCtorEq, reduceIte, Nat.reduceBEq, Nat.reduceAdd, Nat.reduceEqDiff, Nat.reduceLT, Nat.reduceLeDiff, Nat.reduceMul, Nat.reduceSub, BEq.rfl, beq_self_eq_true, Int.reduceToNat]; (and_intros <;> omega))
  · (simp only [hb, cond_false] at hR)
    refine AWP.skip ?_
    refine AWP.seq ?_
    refine AWP.regS G_ok impl_put_DD hc (by kernel_rfl) (fun K hK => ?_); simp only [ea, absV, absVL, gv, sv, D_impl_itemOf, D_slices_Insert_Item, D_impl_clone_Item, reduceCtorEq, reduceIte, Nat.reduceBEq, Nat.reduceAdd, Nat.reduceEqDiff, Nat.reduceLT, Nat.reduceLeDiff, Nat.reduceMul, Nat.reduceSub, BEq.rfl, beq_self_eq_true, Int.reduceToNat]
    (refine ⟨by (((try clear hK K); (repeat' (apply And.intro)) <;> (simp only [ob, ln, bdv, impl_clone_Item_id, sv] at *; first | omega | (simp_all; done) | grind [impl_itemOf_ix, slices_Insert_Item_len, slices_Insert_Item_mem]))), hK _ ?_⟩)
    clear hK K
    refine AWP.seq ?_
    refine AWP.regS G_ok impl_put_DD hc (by kernel_rfl) (fun K hK => ?_); simp only [ea, absV, absVL, gv, sv, D_impl_itemOf, D_slices_Insert_Item, D_impl_clone_Item, reduceCtorEq, reduceIte, Nat.reduceBEq, Nat.reduceAdd, Nat.reduceEqDiff, Nat.reduceLT, Nat.reduceLeDiff, Nat.reduceMul, Nat.reduceSub, BEq.rfl, beq_self_eq_true, Int.reduceToNat]
    (refine hK _ ?_)
    clear hK K
    refine AWP.ret ?_
    subst hR
    (simp only [en, si, ea, gv, sv, hk, reduceCtorEq, reduceIte, Nat.reduceBEq, Nat.reduceAdd, Nat.reduceEqDiff, Nat.reduceLT, Nat.reduceLeDiff, Nat.reduceMul, Nat.reduceSub, BEq.rfl, beq_self_eq_true, Int.reduceToNat]; (and_intros <;> first | omega | (simp only [ln]; done) | (left; and_intros <;> (intro j hj; simp only [pw, Bool.cond_eq_ite, Bool.and_eq_true, decide_eq_true_eq]; (repeat' split) <;> simp [putL, borrowL, borrow, NoBorL, NoBor])) | (intro j hj; simp only [pw, Bool.cond_eq_ite, Bool.and_eq_true, decide_eq_true_eq]; (try rw [subL_getD _ _ _ _ (by assumption)]); (try rw [clearL_getD _ _ _ _ (by omega)]); (repeat' split) <;> first | omega | exact simOL_refl _)))

def D_impl_put : DF
  | [x0, x1] => some (ownL 103 2 eItem (impl_put (rdL dItem x0) (rdG dItem x1)), false, [wL 2 eItem dItem x0, wG eItem dItem x1, (rdL dItem x0).length < 1099511627776, ∀ v ∈ (rdL dItem x0), bdItem v, bdItem (rdG dItem x1)])
  | _ => none
def Dz_impl_put : DF
  | [x0, x1] => some (ownL 103 2 eItem (impl_put (rdL dItem x0) (rdG dItem x1)), true, [wL 2 eItem dItem x0, wG eItem dItem x1, (rdL dItem x0).length < 1099511627776, ∀ v ∈ (rdL dItem x0), bdItem v, bdItem (rdG dItem x1)])
  | _ => none
theorem D_impl_put_ok : OkD Try.prog 80 D_impl_put := by
  intro xs r z ob h ho
  unfold D_impl_put at h
  split at h
  · simp only [Option.some.injEq, Prod.mk.injEq] at h
    obtain ⟨rfl, rfl, rfl⟩ := h
    obtain ⟨h0, h1, hb0, hb1, hb2, _⟩ := ho
    exact Den.sim (impl_put_den _ _ hb0 hb1 hb2) (simOL_cons (wL_sim h0).1 <| simOL_cons (wG_sim h1).1 <| trivial) (noIdL_cons (wL_sim h0).2 <| noIdL_cons (wG_sim h1).2 <| rfl) rfl
  · cases h

theorem Dz_impl_put_ok : OkD Try.prog 80 Dz_impl_put := by
  intro xs r z ob h ho
  unfold Dz_impl_put at h
  split at h
  · simp only [Option.some.injEq, Prod.mk.injEq] at h
    obtain ⟨rfl, rfl, rfl⟩ := h
    obtain ⟨h0, h1, hb0, hb1, hb2, _⟩ := ho
    exact Den.sim (impl_put_den _ _ hb0 hb1 hb2) (simOL_cons (wL_sim h0).1 <| simOL_cons (wG_sim h1).1 <| trivial) (noIdL_cons (wL_sim h0).2 <| noIdL_cons (wG_sim h1).2 <| rfl) rfl
  · cases h
end Go.Ab

namespace Go.Ab
open Go Go.Proofs
theorem impl_put_len (l : List Item) (x : Item) : (impl_put l x).length ≤ l.length + 1 := by
  unfold impl_put
  simp only [impl_clone_Item_id]
  cases (impl_itemOf l x.Key).2 with
  | true => simp
  | false => simp [slices_Insert_Item_len]
theorem impl_put_mem (l : List Item) (x v : Item) (h : v ∈ impl_put l x) : v ∈ l ∨ v = x := by
  unfold impl_put at h
  simp only [impl_clone_Item_id] at h
  revert h
  cases (impl_itemOf l x.Key).2 with
  | true =>
    simp only [Bool.not_true, cond_false]
    intro h
    rcases List.mem_or_eq_of_mem_set h with h | h
    · exact .inl h
    · exact .inr h
  | false =>
    simp only [Bool.not_false, cond_true]
    intro h
    rcases slices_Insert_Item_mem _ _ _ _ h with h | h
    · exact .inl h
    · simp at h; exact .inr h
end Go.Ab

namespace Go.Ab
open Go Go.Proofs
theorem impl_isItem_DD : DOk Try.prog (DD [(114, dP D_impl_IsName), (72, dP D_impl_few)]) := DD_cons D_impl_IsName_ok.e <| DD_cons D_impl_few_ok.e <| DD_nil _
def impl_isItem (a0 : Item) : Bool :=
  ((impl_IsName a0.Key) && (impl_few (a0.Text.length : Int) 400))

theorem impl_isItem_den (a0 : Item)  : Den Try.prog 84 [.agg (eItem a0)] (.bool (impl_isItem a0)) := by
  generalize hR : impl_isItem a0 = r
  unfold impl_isItem at hR
  refine den_intro G_ok Try.func84 (by kernel_rfl) rfl Try.ntmps84 (by rw [Try.results84]) (by simp) rfl ?_
  intro c hL hc hk
  obtain ⟨hL0, _⟩ := hL
  have hw0 : bwItem a0 := Item_lens a0 hL0
  clear hL0
  simp only [pars, Nat.zero_add]
  refine AWP.seq ?_
  refine AWP.regS G_ok impl_isItem_DD hc (by kernel_rfl) (fun K hK => ?_); simp only [ea, gv, sv, D_impl_IsName, D_impl_few, reduceCtorEq, reduceIte, Nat.reduceBEq, Nat.reduceAdd, Nat.reduceEqDiff, Nat.reduceLT, Nat.reduceLeDiff, Nat.reduceMul, Nat.reduceSub, BEq.rfl, beq_self_eq_true, Int.reduceToNat]
  (refine hK _ ?_)
  clear hK K
  refine AWP.seq ?_
  refine AWP.regS G_ok impl_isItem_DD hc (by kernel_rfl) (fun K hK => ?_); simp only [ea, gv, sv, D_impl_IsName, D_impl_few, reduceCtorEq, reduceIte, Nat.reduceBEq, Nat.reduceAdd, Nat.reduceEqDiff, Nat.reduceLT, Nat.reduceLeDiff, Nat.reduceMul, Nat.reduceSub, BEq.rfl, beq_self_eq_true, Int.reduceToNat]
  (refine hK _ ?_)
  clear hK K
  refine AWP.ret ?_
  subst hR
  (simp only [en, si, ea, gv, sv, hk, reduceCtorEq, reduceIte, Nat.reduceBEq, Nat.reduceAdd, Nat.reduceEqDiff, Nat.reduceLT, Nat.reduceLeDiff, Nat.reduceMul, Nat.reduceSub, BEq.rfl, beq_self_eq_true, Int.reduceToNat]; done)

def D_impl_isItem : DF
  | [x0] => some (.bool (impl_isItem (rdG dItem x0)), false, [wG eItem dItem x0])
  | _ => none
theorem D_impl_isItem_ok : OkD Try.prog 84 D_impl_isItem := by
  intro xs r z ob h ho
  unfold D_impl_isItem at h
  split at h
  · simp only [Option.some.injEq, Prod.mk.injEq] at h
    obtain ⟨rfl, rfl, rfl⟩ := h
    obtain ⟨h0, _⟩ := ho
    exact Den.sim (impl_isItem_den _ ) (simOL_cons (wG_sim h0).1 <| trivial) (noIdL_cons (wG_sim h0).2 <| rfl) rfl
  · cases h
end Go.Ab

namespace Go.Ab
open Go Go.Proofs
theorem impl_ValidItems_DD : DOk Try.prog (DD [(72, dP D_impl_few), (84, dP D_impl_isItem)]) := DD_cons D_impl_few_ok.e <| DD_cons D_impl_isItem_ok.e <| DD_nil _
def impl_ValidItems_b1 (a0 : (List Item)) (i1 : Nat) (s1 : Unit) : Except (Bool) (Unit) :=
  (bif ((!(impl_isItem (a0.getD i1 default))) || (decide (0 < (i1 : Int)) && !(Op.bytesLess ((a0.getD ((IntKind.wrap .i64 ((i1 : Int) - 1)).toNat) default).Key) ((a0.getD i1 default).Key)))) then .error false else .ok ())

def impl_ValidItems (a0 : (List Item)) : Bool :=
  (match loopR (impl_ValidItems_b1 a0) (a0.length - 0) 0 () with | .error e => e | .ok s1 => (impl_few (a0.length : Int) 40))

theorem impl_ValidItems_den (a0 : (List Item))  : Den Try.prog 78 [encL 2 eItem a0] (.bool (impl_ValidItems a0)) := by
  generalize hR : impl_ValidItems a0 = r
  unfold impl_ValidItems at hR
  refine den_intro G_ok Try.func78 (by kernel_rfl) rfl Try.ntmps78 (by rw [Try.results78]) (by simp) rfl ?_
  intro c hL hc hk
  obtain ⟨hL0, _⟩ := hL
  have hw0 : a0.length < 9223372036854775808 := Nat.lt_succ_of_le (lens_encL hL0).1
  have hw1 : ∀ v ∈ a0, bwItem v := fun v hv => Item_lens v ((lens_encL hL0).2 v hv)
  clear hL0
  simp only [pars, Nat.zero_add]
  refine AWP.seq ?_
  refine AWP.regS G_ok impl_ValidItems_DD hc (by kernel_rfl) (fun K hK => ?_); simp only [ea, gv, sv, D_impl_few, D_impl_isItem, reduceCtorEq, reduceIte, Nat.reduceBEq, Nat.reduceAdd, Nat.reduceEqDiff, Nat.reduceLT, Nat.reduceLeDiff, Nat.reduceMul, Nat.reduceSub, BEq.rfl, beq_self_eq_true, Int.reduceToNat]
  (refine hK _ ?_)
  clear hK K
  refine AWP.seq ?_
  refine AWP.seq ?_
  refine AWP.regS G_ok impl_ValidItems_DD hc (by kernel_rfl) (fun K hK => ?_); simp only [ea, gv, sv, D_impl_few, D_impl_isItem, reduceCtorEq, reduceIte, Nat.reduceBEq, Nat.reduceAdd, Nat.reduceEqDiff, Nat.reduceLT, Nat.reduceLeDiff, Nat.reduceMul, Nat.reduceSub, BEq.rfl, beq_self_eq_true, Int.reduceToNat]
  (refine hK _ ?_)
  clear hK K
  refine AWP.block ?_
  generalize hz1 : loopR (impl_ValidItems_b1 a0) (a0.length - 0) 0 () = z1 at hR
  refine AWP.range (impl_ValidItems_b1 a0) (fun i1 s1 => ⟨[(0, encL 2 eItem a0), (5, encL 2 eItem a0), (6, .int .i64 (a0.length : Int)), (7, .int .i64 (i1 : Int))], []⟩) (fun i1 s1 => True) (a0.length) 0 () [] hz1 (by (omega)) (by (trivial)) (by (simp only [si, ea, gv, sv, hk, reduceCtorEq, reduceIte, Nat.reduceBEq, Nat.reduceAdd, Nat.reduceEqDiff, Nat.reduceLT, Nat.reduceLeDiff, Nat.reduceMul, Nat.reduceSub, BEq.rfl, beq_self_eq_true, Int.reduceToNat]; trivial)) ?_
  clear hz1
  intro i1 s1 hi1 hW1 hz1
  refine AWP.seq ?_
  refine AWP.regS G_ok impl_ValidItems_DD hc (by kernel_rfl) (fun K hK => ?_); simp only [ea, gv, sv, D_impl_few, D_impl_isItem, reduceCtorEq, reduceIte, Nat.reduceBEq, Nat.reduceAdd, Nat.reduceEqDiff, Nat.reduceLT, Nat.reduceLeDiff, Nat.reduceMul, Nat.reduceSub, BEq.rfl, beq_self_eq_true, Int.reduceToNat]
  (refine hK _ ?_)
  clear hK K
  refine AWP.seq ?_
  refine AWP.cond rfl (fun hb => ?_) (fun hb => ?_)
  · have hlt1 : i1 < a0.length := by ((simp only [ob, ln, bdv, sv] at *; omega))
    rw [loopR_lt hlt1] at hz1; simp only [impl_ValidItems_b1] at hz1
    refine AWP.skip ?_
    refine AWP.seq ?_
    refine AWP.block ?_
    refine AWP.seq ?_
    refine AWP.regS G_ok impl_ValidItems_DD hc (by kernel_rfl) (fun K hK => ?_); simp only [ea, gv, sv, D_impl_few, D_impl_isItem, reduceCtorEq, reduceIte, Nat.reduceBEq, Nat.reduceAdd, Nat.reduceEqDiff, Nat.reduceLT, Nat.reduceLeDiff, Nat.reduceMul, Nat.reduceSub, BEq.rfl, beq_self_eq_true, Int.reduceToNat]
    (refine ⟨by (omega), hK _ ?_⟩)
    clear hK K
    refine AWP.seq ?_
    refine AWP.regD mixed G_ok impl_ValidItems_DD hc 18 (by kernel_rfl) (by kernel_rfl) (fun K hK => ?_); simp only [ea, gv, sv, D_impl_few, D_impl_isItem, reduceCtorEq, reduceIte, Nat.reduceBEq, Nat.reduceAdd, Nat.reduceEqDiff, Nat.reduceLT, Nat.reduceLeDiff, Nat.reduceMul, Nat.reduceSub, BEq.rfl, beq_self_eq_true, Int.reduceToNat]
    (refine ⟨by ((simp only [ob, ln, bdv, sv] at *; omega)), hK _ ?_⟩)
    clear hK K
    refine AWP.cond rfl (fun hb => ?_) (fun hb => ?_)
    · (simp only [hb, cond_true] at hz1)
      refine AWP.seq ?_
      refine AWP.regS G_ok impl_ValidItems_DD hc (by kernel_rfl) (fun K hK => ?_); simp only [ea, gv, sv, D_impl_few, D_impl_isItem, reduceCtorEq, reduceIte, Nat.reduceBEq, Nat.reduceAdd, Nat.reduceEqDiff, Nat.reduceLT, Nat.reduceLeDiff, Nat.reduceMul, Nat.reduceSub, BEq.rfl, beq_self_eq_true, Int.reduceToNat]
      (refine hK _ ?_)
      clear hK K
      refine AWP.ret ?_
      subst hz1
      dsimp only at hR
      subst hR
      (simp only [en, si, ea, gv, sv, hk, reduceCtorEq, reduceIte, Nat.reduceBEq, Nat.reduceAdd, Nat.reduceEqDiff, Nat.reduceLT, Nat.reduceLeDiff, Nat.reduceMul, Nat.reduceSub, BEq.rfl, beq_self_eq_true, Int.reduceToNat]; done)
    · (simp only [hb, cond_false] at hz1)
      refine AWP.skip ?_
      refine AWP.regS G_ok impl_ValidItems_DD hc (by kernel_rfl) (fun K hK => ?_); simp only [ea, gv, sv, D_impl_few, D_impl_isItem, reduceCtorEq, reduceIte, Nat.reduceBEq, Nat.reduceAdd, Nat.reduceEqDiff, Nat.reduceLT, Nat.reduceLeDiff, Nat.reduceMul, Nat.reduceSub, BEq.rfl, beq_self_eq_true, Int.reduceToNat]
      (refine hK _ ?_)
      clear hK K
      exact ⟨_, [], hlt1, by (trivial), hz1, by (simp only [si, ea, gv, sv, hk, reduceCtorEq, reduceIte, Nat.reduceBEq, Nat.reduceAdd, Nat.reduceEqDiff, Nat.reduceLT, Nat.reduceLeDiff, Nat.reduceMul, Nat.reduceSub, BEq.rfl, beq_self_eq_true, Int.reduceToNat]; (and_intros <;> first | trivial | (rw [IntKind.wrap_i64]; omega)))⟩
  · obtain rfl : i1 = a0.length := by ((simp only [ob, ln, bdv, sv] at *; omega))
    rw [loopR_ge (Nat.le_refl _)] at hz1; subst hz1; dsimp only at hR
    refine AWP.exit ?_; refine exitTo_here ?_
    refine AWP.seq ?_
    refine AWP.regS G_ok impl_ValidItems_DD hc (by kernel_rfl) (fun K hK => ?_); simp only [ea, gv, sv, D_impl_few, D_impl_isItem, reduceCtorEq, reduceIte, Nat.reduceBEq, Nat.reduceAdd, Nat.reduceEqDiff, Nat.reduceLT, Nat.reduceLeDiff, Nat.reduceMul, Nat.reduceSub, BEq.rfl, beq_self_eq_true, Int.reduceToNat]
    (refine hK _ ?_)
    clear hK K
    refine AWP.ret ?_
    subst hR
    (simp only [en, si, ea, gv, sv, hk, reduceCtorEq, reduceIte, Nat.reduceBEq, Nat.reduceAdd, Nat.reduceEqDiff, Nat.reduceLT, Nat.reduceLeDiff, Nat.reduceMul, Nat.reduceSub, BEq.rfl, beq_self_eq_true, Int.reduceToNat]; done)

def D_impl_ValidItems : DF
  | [x0] => some (.bool (impl_ValidItems (rdL dItem x0)), false, [wL 2 eItem dItem x0])
  | _ => none
theorem D_impl_ValidItems_ok : OkD Try.prog 78 D_impl_ValidItems := by
  intro xs r z ob h ho
  unfold D_impl_ValidItems at h
  split at h
  · simp only [Option.some.injEq, Prod.mk.injEq] at h
    obtain ⟨rfl, rfl, rfl⟩ := h
    obtain ⟨h0, _⟩ := ho
    exact Den.sim (impl_ValidItems_den _ ) (simOL_cons (wL_sim h0).1 <| trivial) (noIdL_cons (wL_sim h0).2 <| rfl) rfl
  · cases h
end Go.Ab

namespace Go.Ab
open Go Go.Proofs
theorem impl_ValidItems_len (a : List Item) (h : impl_ValidItems a = true) : a.length ≤ 40 := by
  unfold impl_ValidItems at h
  split at h
  · rename_i e he
    obtain ⟨j, t, h1, h2, h3⟩ := loopR_error he
    simp only [impl_ValidItems_b1] at h3
    revert h3
    generalize ((!(impl_isItem _)) || _ : Bool) = q
    cases q <;> simp
    rintro rfl; simp at h
  · simp only [impl_few, decide_eq_true_eq] at h
    omega
end Go.Ab

namespace Go.Ab
open Go Go.Proofs
theorem impl_PutItem_DD : DOk Try.prog (DD [(72, dP D_impl_few), (78, dP D_impl_ValidItems), (80, dP D_impl_put), (84, dP D_impl_isItem)]) := DD_cons D_impl_few_ok.e <| DD_cons D_impl_ValidItems_ok.e <| DD_cons D_impl_put_ok.e <| DD_cons D_impl_isItem_ok.e <| DD_nil _
def impl_PutItem (a0 : (List Item)) (a1 : (List UInt8)) (a2 : (List UInt8)) : ((List Item) × Int) :=
  (bif (!(impl_ValidItems a0)) then ([], 1) else (bif (!(impl_isItem ({ Key := a1, Text := a2 : Item }))) then ([], 2) else (bif (!(impl_few ((impl_put a0 ({ Key := a1, Text := a2 : Item })).length : Int) 40)) then ([], 5) else ((impl_put a0 ({ Key := a1, Text := a2 : Item })), 0))))

theorem impl_PutItem_den (a0 : (List Item)) (a1 : (List UInt8)) (a2 : (List UInt8)) (hb0 : a0.length < 1099511627776) (hb1 : ∀ v ∈ a0, bdItem v) (hb2 : a1.length < 1099511627776) (hb3 : a2.length < 1099511627776) : Den Try.prog 28 [encL 2 eItem a0, .str a1, .str a2] (.tup [ownL 103 2 eItem ((impl_PutItem a0 a1 a2).1), .int .i64 ((impl_PutItem a0 a1 a2).2)]) := by
  generalize hR : impl_PutItem a0 a1 a2 = r
  unfold impl_PutItem at hR
  refine den_intro G_ok Try.func28 (by kernel_rfl) rfl Try.ntmps28 (by rw [Try.results28]) (by simp) rfl ?_
  intro c hL hc hk
  obtain ⟨hL0, hL1, hL2, _⟩ := hL
  have hw0 : a0.length < 9223372036854775808 := Nat.lt_succ_of_le (lens_encL hL0).1
  have hw1 : ∀ v ∈ a0, bwItem v := fun v hv => Item_lens v ((lens_encL hL0).2 v hv)
  have hw2 : a1.length < 9223372036854775808 := Nat.lt_succ_of_le hL1
  have hw3 : a2.length < 9223372036854775808 := Nat.lt_succ_of_le hL2
  clear hL0 hL1 hL2
  simp only [pars, Nat.zero_add]
  refine AWP.seq ?_
  refine AWP.regS G_ok impl_PutItem_DD hc (by kernel_rfl) (fun K hK => ?_); simp only [ea, gv, sv, D_impl_few, D_impl_ValidItems, D_impl_put, D_impl_isItem, reduceCtorEq, reduceIte, Nat.reduceBEq, Nat.reduceAdd, Nat.reduceEqDiff, Nat.reduceLT, Nat.reduceLeDiff, Nat.reduceMul, Nat.reduceSub, BEq.rfl, beq_self_eq_true, Int.reduceToNat]
  (refine hK _ ?_)
  clear hK K
  refine AWP.seq ?_
  refine AWP.seq ?_
  refine AWP.regS G_ok impl_PutItem_DD hc (by kernel_rfl) (fun K hK => ?_); simp only [ea, gv, sv, D_impl_few, D_impl_ValidItems, D_impl_put, D_impl_isItem, reduceCtorEq, reduceIte, Nat.reduceBEq, Nat.reduceAdd, Nat.reduceEqDiff, Nat.reduceLT, Nat.reduceLeDiff, Nat.reduceMul, Nat.reduceSub, BEq.rfl, beq_self_eq_true, Int.reduceToNat]
  (refine hK _ ?_)
  clear hK K
  refine AWP.cond rfl (fun hb => ?_) (fun hb => ?_)
  · (simp only [hb, cond_true] at hR)
    refine AWP.seq ?_
    refine AWP.regS G_ok impl_PutItem_DD hc (by kernel_rfl) (fun K hK => ?_); simp only [ea, gv, sv, D_impl_few, D_impl_ValidItems, D_impl_put, D_impl_isItem, reduceCtorEq, reduceIte, Nat.reduceBEq, Nat.reduceAdd, Nat.reduceEqDiff, Nat.reduceLT, Nat.reduceLeDiff, Nat.reduceMul, Nat.reduceSub, BEq.rfl, beq_self_eq_true, Int.reduceToNat]
    (refine hK _ ?_)
    clear hK K
    refine AWP.ret ?_
    subst hR
    (simp only [en, si, ea, gv, sv, hk, reduceCtorEq, reduceIte, Nat.reduceBEq, Nat.reduceAdd, Nat.reduceEqDiff, Nat.reduceLT, Nat.reduceLeDiff, Nat.reduceMul, Nat.reduceSub, BEq.rfl, beq_self_eq_true, Int.reduceToNat]; done)
  · (simp only [hb, cond_false] at hR)
    refine AWP.skip ?_
    refine AWP.seq ?_
    refine AWP.seq ?_
    refine AWP.regS G_ok impl_PutItem_DD hc (by kernel_rfl) (fun K hK => ?_); simp only [ea, gv, sv, D_impl_few, D_impl_ValidItems, D_impl_put, D_impl_isItem, reduceCtorEq, reduceIte, Nat.reduceBEq, Nat.reduceAdd, Nat.reduceEqDiff, Nat.reduceLT, Nat.reduceLeDiff, Nat.reduceMul, Nat.reduceSub, BEq.rfl, beq_self_eq_true, Int.reduceToNat]
    (refine hK _ ?_)
    clear hK K
    refine AWP.cond rfl (fun hb => ?_) (fun hb => ?_)
    · (simp only [hb, cond_true] at hR)
      refine AWP.seq ?_
      refine AWP.regS G_ok impl_PutItem_DD hc (by kernel_rfl) (fun K hK => ?_); simp only [ea, gv, sv, D_impl_few, D_impl_ValidItems, D_impl_put, D_impl_isItem, reduceCtorEq, reduceIte, Nat.reduceBEq, Nat.reduceAdd, Nat.reduceEqDiff, Nat.reduceLT, Nat.reduceLeDiff, Nat.reduceMul, Nat.reduceSub, BEq.rfl, beq_self_eq_true, Int.reduceToNat]
      (refine hK _ ?_)
      clear hK K
      refine AWP.ret ?_
      subst hR
      (simp only [en, si, ea, gv, sv, hk, reduceCtorEq, reduceIte, Nat.reduceBEq, Nat.reduceAdd, Nat.reduceEqDiff, Nat.reduceLT, Nat.reduceLeDiff, Nat.reduceMul, Nat.reduceSub, BEq.rfl, beq_self_eq_true, Int.reduceToNat]; done)
    · (simp only [hb, cond_false] at hR)
      refine AWP.skip ?_
      refine AWP.seq ?_
      refine AWP.regS G_ok impl_PutItem_DD hc (by kernel_rfl) (fun K hK => ?_); simp only [ea, gv, sv, D_impl_few, D_impl_ValidItems, D_impl_put, D_impl_isItem, reduceCtorEq, reduceIte, Nat.reduceBEq, Nat.reduceAdd, Nat.reduceEqDiff, Nat.reduceLT, Nat.reduceLeDiff, Nat.reduceMul, Nat.reduceSub, BEq.rfl, beq_self_eq_true, Int.reduceToNat]
      (refine ⟨by (trivial), hK _ ?_⟩)
      clear hK K
      refine AWP.seq ?_
      refine AWP.seq ?_
      refine AWP.regS G_ok impl_PutItem_DD hc (by kernel_rfl) (fun K hK => ?_); simp only [ea, gv, sv, D_impl_few, D_impl_ValidItems, D_impl_put, D_impl_isItem, reduceCtorEq, reduceIte, Nat.reduceBEq, Nat.reduceAdd, Nat.reduceEqDiff, Nat.reduceLT, Nat.reduceLeDiff, Nat.reduceMul, Nat.reduceSub, BEq.rfl, beq_self_eq_true, Int.reduceToNat]
      (refine hK _ ?_)
      clear hK K
      refine AWP.cond rfl (fun hb => ?_) (fun hb => ?_)
      · (simp only [hb, cond_true] at hR)
        refine AWP.seq ?_
        refine AWP.regS G_ok impl_PutItem_DD hc (by kernel_rfl) (fun K hK => ?_); simp only [ea, gv, sv, D_impl_few, D_impl_ValidItems, D_impl_put, D_impl_isItem, reduceCtorEq, reduceIte, Nat.reduceBEq, Nat.reduceAdd, Nat.reduceEqDiff, Nat.reduceLT, Nat.reduceLeDiff, Nat.reduceMul, Nat.reduceSub, BEq.rfl, beq_self_eq_true, Int.reduceToNat]
        (refine hK _ ?_)
        clear hK K
        refine AWP.ret ?_
        subst hR
        (simp only [en, si, ea, gv, sv, hk, reduceCtorEq, reduceIte, Nat.reduceBEq, Nat.reduceAdd, Nat.reduceEqDiff, Nat.reduceLT, Nat.reduceLeDiff, Nat.reduceMul, Nat.reduceSub, BEq.rfl, beq_self_eq_true, Int.reduceToNat]; done)
      · (simp only [hb, cond_false] at hR)
        refine AWP.skip ?_
        refine AWP.seq ?_
        refine AWP.regS G_ok impl_PutItem_DD hc (by kernel_rfl) (fun K hK => ?_); simp only [ea, gv, sv, D_impl_few, D_impl_ValidItems, D_impl_put, D_impl_isItem, reduceCtorEq, reduceIte, Nat.reduceBEq, Nat.reduceAdd, Nat.reduceEqDiff, Nat.reduceLT, Nat.reduceLeDiff, Nat.reduceMul, Nat.reduceSub, BEq.rfl, beq_self_eq_true, Int.reduceToNat]
        (refine hK _ ?_)
        clear hK K
        refine AWP.ret ?_
        subst hR
        (simp only [en, si, ea, gv, sv, hk, reduceCtorEq, reduceIte, Nat.reduceBEq, Nat.reduceAdd, Nat.reduceEqDiff, Nat.reduceLT, Nat.reduceLeDiff, Nat.reduceMul, Nat.reduceSub, BEq.rfl, beq_self_eq_true, Int.reduceToNat]; (and_intros <;> omega))

def D_impl_PutItem : DF
  | [x0, x1, x2] => some (.tup [ownL 103 2 eItem ((impl_PutItem (rdL dItem x0) (rdS x1) (rdS x2)).1), .int .i64 ((impl_PutItem (rdL dItem x0) (rdS x1) (rdS x2)).2)], false, [wL 2 eItem dItem x0, wS x1, wS x2, (rdL dItem x0).length < 1099511627776, ∀ v ∈ (rdL dItem x0), bdItem v, (rdS x1).length < 1099511627776, (rdS x2).length < 1099511627776])
  | _ => none
def Dz_impl_PutItem : DF
  | [x0, x1, x2] => some (.tup [ownL 103 2 eItem ((impl_PutItem (rdL dItem x0) (rdS x1) (rdS x2)).1), .int .i64 ((impl_PutItem (rdL dItem x0) (rdS x1) (rdS x2)).2)], true, [wL 2 eItem dItem x0, wS x1, wS x2, (rdL dItem x0).length < 1099511627776, ∀ v ∈ (rdL dItem x0), bdItem v, (rdS x1).length < 1099511627776, (rdS x2).length < 1099511627776])
  | _ => none
theorem D_impl_PutItem_ok : OkD Try.prog 28 D_impl_PutItem := by
  intro xs r z ob h ho
  unfold D_impl_PutItem at h
  split at h
  · simp only [Option.some.injEq, Prod.mk.injEq] at h
    obtain ⟨rfl, rfl, rfl⟩ := h
    obtain ⟨h0, h1, h2, hb0, hb1, hb2, hb3, _⟩ := ho
    exact Den.sim (impl_PutItem_den _ _ _ hb0 hb1 hb2 hb3) (simOL_cons (wL_sim h0).1 <| simOL_cons (wS_sim h1).1 <| simOL_cons (wS_sim h2).1 <| trivial) (noIdL_cons (wL_sim h0).2 <| noIdL_cons (wS_sim h1).2 <| noIdL_cons (wS_sim h2).2 <| rfl) rfl
  · cases h

theorem Dz_impl_PutItem_ok : OkD Try.prog 28 Dz_impl_PutItem := by
  intro xs r z ob h ho
  unfold Dz_impl_PutItem at h
  split at h
  · simp only [Option.some.injEq, Prod.mk.injEq] at h
    obtain ⟨rfl, rfl, rfl⟩ := h
    obtain ⟨h0, h1, h2, hb0, hb1, hb2, hb3, _⟩ := ho
    exact Den.sim (impl_PutItem_den _ _ _ hb0 hb1 hb2 hb3) (simOL_cons (wL_sim h0).1 <| simOL_cons (wS_sim h1).1 <| simOL_cons (wS_sim h2).1 <| trivial) (noIdL_cons (wL_sim h0).2 <| noIdL_cons (wS_sim h1).2 <| noIdL_cons (wS_sim h2).2 <| rfl) rfl
  · cases h
end Go.Ab

namespace Go.Ab
open Go Go.Proofs
theorem impl_PutItem_len (a : List Item) (k t : List UInt8) : (impl_PutItem a k t).1.length ≤ 40 := by
  unfold impl_PutItem
  cases impl_ValidItems a with
  | false => simp
  | true =>
    cases impl_isItem { Key := k, Text := t : Item } with
    | false => simp
    | true =>
      cases hf : impl_few ((impl_put a { Key := k, Text := t : Item }).length : Int) 40 with
      | false => simp
      | true => simp [impl_few] at hf; simp; omega
end Go.Ab

namespace Go.Ab
open Go Go.Proofs
theorem impl_MergeItems_DD : DOk Try.prog (DD [(72, dP D_impl_few), (78, dP D_impl_ValidItems), (79, dP D_impl_clone_Item), (80, dP D_impl_put)]) := DD_cons D_impl_few_ok.e <| DD_cons D_impl_ValidItems_ok.e <| DD_cons D_impl_clone_Item_ok.e <| DD_cons D_impl_put_ok.e <| DD_nil _
def impl_MergeItems_b1 (a0 : (List Item)) (a1 : (List Item)) (i1 : Nat) (s1 : List Item) : Except (((List Item) × Int)) (List Item) :=
  .ok (impl_put s1 (a1.getD i1 default))

def impl_MergeItems (a0 : (List Item)) (a1 : (List Item)) : ((List Item) × Int) :=
  (bif ((!(impl_ValidItems a0)) || (!(impl_ValidItems a1))) then ([], 1) else (match loopR (impl_MergeItems_b1 a0 a1) (a1.length - 0) 0 (impl_clone_Item a0) with | .error e => e | .ok s1 => (bif (!(impl_few (s1.length : Int) 40)) then ([], 5) else (s1, 0))))

theorem impl_MergeItems_den (a0 : (List Item)) (a1 : (List Item)) (hb0 : a0.length < 1099511627776) (hb1 : ∀ v ∈ a0, bdItem v) (hb2 : a1.length < 1099511627776) (hb3 : ∀ v ∈ a1, bdItem v) : Den Try.prog 23 [encL 2 eItem a0, encL 2 eItem a1] (.tup [ownL 103 2 eItem ((impl_MergeItems a0 a1).1), .int .i64 ((impl_MergeItems a0 a1).2)]) := by
  generalize hR : impl_MergeItems a0 a1 = r
  unfold impl_MergeItems at hR
  refine den_intro G_ok Try.func23 (by kernel_rfl) rfl Try.ntmps23 (by rw [Try.results23]) (by simp) rfl ?_
  intro c hL hc hk
  obtain ⟨hL0, hL1, _⟩ := hL
  have hw0 : a0.length < 9223372036854775808 := Nat.lt_succ_of_le (lens_encL hL0).1
  have hw1 : ∀ v ∈ a0, bwItem v := fun v hv => Item_lens v ((lens_encL hL0).2 v hv)
  have hw2 : a1.length < 9223372036854775808 := Nat.lt_succ_of_le (lens_encL hL1).1
  have hw3 : ∀ v ∈ a1, bwItem v := fun v hv => Item_lens v ((lens_encL hL1).2 v hv)
  clear hL0 hL1
  simp only [pars, Nat.zero_add]
  refine AWP.seq ?_
  refine AWP.regS G_ok impl_MergeItems_DD hc (by kernel_rfl) (fun K hK => ?_); simp only [ea, gv, sv, D_impl_few, D_impl_ValidItems, D_impl_clone_Item, D_impl_put, reduceCtorEq, reduceIte, Nat.reduceBEq, Nat.reduceAdd, Nat.reduceEqDiff, Nat.reduceLT, Nat.reduceLeDiff, Nat.reduceMul, Nat.reduceSub, BEq.rfl, beq_self_eq_true, Int.reduceToNat]
  (refine hK _ ?_)
  clear hK K
  refine AWP.seq ?_
  refine AWP.seq ?_
  refine AWP.regS G_ok impl_MergeItems_DD hc (by kernel_rfl) (fun K hK => ?_); simp only [ea, gv, sv, D_impl_few, D_impl_ValidItems, D_impl_clone_Item, D_impl_put, reduceCtorEq, reduceIte, Nat.reduceBEq, Nat.reduceAdd, Nat.reduceEqDiff, Nat.reduceLT, Nat.reduceLeDiff, Nat.reduceMul, Nat.reduceSub, BEq.rfl, beq_self_eq_true, Int.reduceToNat]
  (refine hK _ ?_)
  clear hK K
  refine AWP.cond rfl (fun hb => ?_) (fun hb => ?_)
  · (simp only [hb, cond_true] at hR)
    refine AWP.seq ?_
    refine AWP.regS G_ok impl_MergeItems_DD hc (by kernel_rfl) (fun K hK => ?_); simp only [ea, gv, sv, D_impl_few, D_impl_ValidItems, D_impl_clone_Item, D_impl_put, reduceCtorEq, reduceIte, Nat.reduceBEq, Nat.reduceAdd, Nat.reduceEqDiff, Nat.reduceLT, Nat.reduceLeDiff, Nat.reduceMul, Nat.reduceSub, BEq.rfl, beq_self_eq_true, Int.reduceToNat]
    (refine hK _ ?_)
    clear hK K
    refine AWP.ret ?_
    subst hR
    (simp only [en, si, ea, gv, sv, hk, reduceCtorEq, reduceIte, Nat.reduceBEq, Nat.reduceAdd, Nat.reduceEqDiff, Nat.reduceLT, Nat.reduceLeDiff, Nat.reduceMul, Nat.reduceSub, BEq.rfl, beq_self_eq_true, Int.reduceToNat]; done)
  · (simp only [hb, cond_false] at hR)
    refine AWP.skip ?_
    refine AWP.seq ?_
    refine AWP.regS G_ok impl_MergeItems_DD hc (by kernel_rfl) (fun K hK => ?_); simp only [ea, gv, sv, D_impl_few, D_impl_ValidItems, D_impl_clone_Item, D_impl_put, reduceCtorEq, reduceIte, Nat.reduceBEq, Nat.reduceAdd, Nat.reduceEqDiff, Nat.reduceLT, Nat.reduceLeDiff, Nat.reduceMul, Nat.reduceSub, BEq.rfl, beq_self_eq_true, Int.reduceToNat]
    (refine ⟨by (trivial), hK _ ?_⟩)
    clear hK K
    refine AWP.seq ?_
    refine AWP.seq ?_
    refine AWP.regS G_ok impl_MergeItems_DD hc (by kernel_rfl) (fun K hK => ?_); simp only [ea, gv, sv, D_impl_few, D_impl_ValidItems, D_impl_clone_Item, D_impl_put, reduceCtorEq, reduceIte, Nat.reduceBEq, Nat.reduceAdd, Nat.reduceEqDiff, Nat.reduceLT, Nat.reduceLeDiff, Nat.reduceMul, Nat.reduceSub, BEq.rfl, beq_self_eq_true, Int.reduceToNat]
    (refine hK _ ?_)
    clear hK K
    refine AWP.block ?_
    generalize hz1 : loopR (impl_MergeItems_b1 a0 a1) (a1.length - 0) 0 (impl_clone_Item a0) = z1 at hR
    refine AWP.range (impl_MergeItems_b1 a0 a1) (fun i1 s1 => ⟨[(6, .ref 0 2 0 s1.length), (19, encL 2 eItem a1), (20, .int .i64 (a1.length : Int)), (21, .int .i64 (i1 : Int))], [.arr 103 2 s1.length (fun j => eItem (s1.getD j default))]⟩) (fun i1 s1 => s1.length ≤ a0.length + i1 ∧ ∀ v ∈ s1, bdItem v) (a1.length) 0 (impl_clone_Item a0) [0] hz1 (by (omega)) (by ((and_intros <;> simp only [ob, ln, impl_clone_Item_id] at * <;> omega))) (by (simp only [si, ea, gv, sv, hk, reduceCtorEq, reduceIte, Nat.reduceBEq, Nat.reduceAdd, Nat.reduceEqDiff, Nat.reduceLT, Nat.reduceLeDiff, Nat.reduceMul, Nat.reduceSub, BEq.rfl, beq_self_eq_true, Int.reduceToNat]; trivial)) ?_
    clear hz1
    intro i1 s1 hi1 hW1 hz1
    have hV1 := hW1; obtain ⟨hV1_0, hV1_1⟩ := hV1
    refine AWP.seq ?_
    refine AWP.regS G_ok impl_MergeItems_DD hc (by kernel_rfl) (fun K hK => ?_); simp only [ea, gv, sv, D_impl_few, D_impl_ValidItems, D_impl_clone_Item, D_impl_put, reduceCtorEq, reduceIte, Nat.reduceBEq, Nat.reduceAdd, Nat.reduceEqDiff, Nat.reduceLT, Nat.reduceLeDiff, Nat.reduceMul, Nat.reduceSub, BEq.rfl, beq_self_eq_true, Int.reduceToNat]
    (refine hK _ ?_)
    clear hK K
    refine AWP.seq ?_
    refine AWP.cond rfl (fun hb => ?_) (fun hb => ?_)
    · have hlt1 : i1 < a1.length := by ((simp only [ob, ln, bdv, impl_clone_Item_id, sv] at *; omega))
      rw [loopR_lt hlt1] at hz1; simp only [impl_MergeItems_b1] at hz1
      refine AWP.skip ?_
      refine AWP.seq ?_
      refine AWP.block ?_
      refine AWP.seq ?_
      refine AWP.regS G_ok impl_MergeItems_DD hc (by kernel_rfl) (fun K hK => ?_); simp only [ea, gv, sv, D_impl_few, D_impl_ValidItems, D_impl_clone_Item, D_impl_put, reduceCtorEq, reduceIte, Nat.reduceBEq, Nat.reduceAdd, Nat.reduceEqDiff, Nat.reduceLT, Nat.reduceLeDiff, Nat.reduceMul, Nat.reduceSub, BEq.rfl, beq_self_eq_true, Int.reduceToNat]
      (refine ⟨by (omega), hK _ ?_⟩)
      clear hK K
      refine AWP.regS G_ok impl_MergeItems_DD hc (by kernel_rfl) (fun K hK => ?_); simp only [ea, gv, sv, D_impl_few, D_impl_ValidItems, D_impl_clone_Item, D_impl_put, reduceCtorEq, reduceIte, Nat.reduceBEq, Nat.reduceAdd, Nat.reduceEqDiff, Nat.reduceLT, Nat.reduceLeDiff, Nat.reduceMul, Nat.reduceSub, BEq.rfl, beq_self_eq_true, Int.reduceToNat]
      (refine ⟨by (((try clear hK K); (repeat' first | apply And.intro | intro _) <;> first | omega | (simp only [ob, ln, bdv, impl_clone_Item_id, sv] at *; first | (simp_all; done) | grind [impl_ValidItems_len]))), hK _ ?_⟩)
      clear hK K
      refine AWP.regS G_ok impl_MergeItems_DD hc (by kernel_rfl) (fun K hK => ?_); simp only [ea, gv, sv, D_impl_few, D_impl_ValidItems, D_impl_clone_Item, D_impl_put, reduceCtorEq, reduceIte, Nat.reduceBEq, Nat.reduceAdd, Nat.reduceEqDiff, Nat.reduceLT, Nat.reduceLeDiff, Nat.reduceMul, Nat.reduceSub, BEq.rfl, beq_self_eq_true, Int.reduceToNat]
      (refine hK _ ?_)
      clear hK K
      exact ⟨_, [2], hlt1, by ((refine ⟨by have := impl_put_len s1 (a1.getD i1 default); omega, fun v hv => ?_⟩; rcases impl_put_mem _ _ _ hv with h | h; exact hW1.2 v h; subst h; exact bd_getD hb3 (by decide) _)), hz1, by (simp only [si, ea, gv, sv, hk, reduceCtorEq, reduceIte, Nat.reduceBEq, Nat.reduceAdd, Nat.reduceEqDiff, Nat.reduceLT, Nat.reduceLeDiff, Nat.reduceMul, Nat.reduceSub, BEq.rfl, beq_self_eq_true, Int.reduceToNat]; (and_intros <;> first | trivial | (rw [IntKind.wrap_i64]; omega)))⟩
    · obtain rfl : i1 = a1.length := by ((simp only [ob, ln, bdv, impl_clone_Item_id, sv] at *; omega))
      rw [loopR_ge (Nat.le_refl _)] at hz1; subst hz1; dsimp only at hR
      refine AWP.exit ?_; refine exitTo_here ?_
      refine AWP.seq ?_
      refine AWP.seq ?_
      refine AWP.regS G_ok impl_MergeItems_DD hc (by kernel_rfl) (fun K hK => ?_); simp only [ea, gv, sv, D_impl_few, D_impl_ValidItems, D_impl_clone_Item, D_impl_put, reduceCtorEq, reduceIte, Nat.reduceBEq, Nat.reduceAdd, Nat.reduceEqDiff, Nat.reduceLT, Nat.reduceLeDiff, Nat.reduceMul, Nat.reduceSub, BEq.rfl, beq_self_eq_true, Int.reduceToNat]
      (refine hK _ ?_)
      clear hK K
      refine AWP.cond rfl (fun hb => ?_) (fun hb => ?_)
      · (simp only [hb, cond_true] at hR)
        refine AWP.seq ?_
        refine AWP.regS G_ok impl_MergeItems_DD hc (by kernel_rfl) (fun K hK => ?_); simp only [ea, gv, sv, D_impl_few, D_impl_ValidItems, D_impl_clone_Item, D_impl_put, reduceCtorEq, reduceIte, Nat.reduceBEq, Nat.reduceAdd, Nat.reduceEqDiff, Nat.reduceLT, Nat.reduceLeDiff, Nat.reduceMul, Nat.reduceSub, BEq.rfl, beq_self_eq_true, Int.reduceToNat]
        (refine hK _ ?_)
        clear hK K
        refine AWP.ret ?_
        subst hR
        (simp only [en, si, ea, gv, sv, hk, reduceCtorEq, reduceIte, Nat.reduceBEq, Nat.reduceAdd, Nat.reduceEqDiff, Nat.reduceLT, Nat.reduceLeDiff, Nat.reduceMul, Nat.reduceSub, BEq.rfl, beq_self_eq_true, Int.reduceToNat]; done)
      · (simp only [hb, cond_false] at hR)
        refine AWP.skip ?_
        refine AWP.seq ?_
        refine AWP.regS G_ok impl_MergeItems_DD hc (by kernel_rfl) (fun K hK => ?_); simp only [ea, gv, sv, D_impl_few, D_impl_ValidItems, D_impl_clone_Item, D_impl_put, reduceCtorEq, reduceIte, Nat.reduceBEq, Nat.reduceAdd, Nat.reduceEqDiff, Nat.reduceLT, Nat.reduceLeDiff, Nat.reduceMul, Nat.reduceSub, BEq.rfl, beq_self_eq_true, Int.reduceToNat]
        (refine hK _ ?_)
        clear hK K
        refine AWP.ret ?_
        subst hR
        (simp only [en, si, ea, gv, sv, hk, reduceCtorEq, reduceIte, Nat.reduceBEq, Nat.reduceAdd, Nat.reduceEqDiff, Nat.reduceLT, Nat.reduceLeDiff, Nat.reduceMul, Nat.reduceSub, BEq.rfl, beq_self_eq_true, Int.reduceToNat]; (and_intros <;> omega))

def D_impl_MergeItems : DF
  | [x0, x1] => some (.tup [ownL 103 2 eItem ((impl_MergeItems (rdL dItem x0) (rdL dItem x1)).1), .int .i64 ((impl_MergeItems (rdL dItem x0) (rdL dItem x1)).2)], false, [wL 2 eItem dItem x0, wL 2 eItem dItem x1, (rdL dItem x0).length < 1099511627776, ∀ v ∈ (rdL dItem x0), bdItem v, (rdL dItem x1).length < 1099511627776, ∀ v ∈ (rdL dItem x1), bdItem v])
  | _ => none
def Dz_impl_MergeItems : DF
  | [x0, x1] => some (.tup [ownL 103 2 eItem ((impl_MergeItems (rdL dItem x0) (rdL dItem x1)).1), .int .i64 ((impl_MergeItems (rdL dItem x0) (rdL dItem x1)).2)], true, [wL 2 eItem dItem x0, wL 2 eItem dItem x1, (rdL dItem x0).length < 1099511627776, ∀ v ∈ (rdL dItem x0), bdItem v, (rdL dItem x1).length < 1099511627776, ∀ v ∈ (rdL dItem x1), bdItem v])
  | _ => none
theorem D_impl_MergeItems_ok : OkD Try.prog 23 D_impl_MergeItems := by
  intro xs r z ob h ho
  unfold D_impl_MergeItems at h
  split at h
  · simp only [Option.some.injEq, Prod.mk.injEq] at h
    obtain ⟨rfl, rfl, rfl⟩ := h
    obtain ⟨h0, h1, hb0, hb1, hb2, hb3, _⟩ := ho
    exact Den.sim (impl_MergeItems_den _ _ hb0 hb1 hb2 hb3) (simOL_cons (wL_sim h0).1 <| simOL_cons (wL_sim h1).1 <| trivial) (noIdL_cons (wL_sim h0).2 <| noIdL_cons (wL_sim h1).2 <| rfl) rfl
  · cases h

theorem Dz_impl_MergeItems_ok : OkD Try.prog 23 Dz_impl_MergeItems := by
  intro xs r z ob h ho
  unfold Dz_impl_MergeItems at h
  split at h
  · simp only [Option.some.injEq, Prod.mk.injEq] at h
    obtain ⟨rfl, rfl, rfl⟩ := h
    obtain ⟨h0, h1, hb0, hb1, hb2, hb3, _⟩ := ho
    exact Den.sim (impl_MergeItems_den _ _ hb0 hb1 hb2 hb3) (simOL_cons (wL_sim h0).1 <| simOL_cons (wL_sim h1).1 <| trivial) (noIdL_cons (wL_sim h0).2 <| noIdL_cons (wL_sim h1).2 <| rfl) rfl
  · cases h
end Go.Ab

namespace Go.Ab
open Go Go.Proofs
theorem impl_MergeItems_len (a b : List Item) : (impl_MergeItems a b).1.length ≤ 40 := by
  unfold impl_MergeItems
  cases h : ((!(impl_ValidItems a)) || (!(impl_ValidItems b))) with
  | true => simp
  | false =>
    simp only [cond_false]
    split
    · rename_i e he
      obtain ⟨j, t, h1, h2, h3⟩ := loopR_error he
      simp [impl_MergeItems_b1] at h3
    · rename_i s hs
      cases hf : impl_few (s.length : Int) 40 with
      | false => simp
      | true => simp [impl_few] at hf; simp; omega
end Go.Ab

namespace Go.Ab
open Go Go.Proofs
theorem spec_l24Put_DD : DOk Try.prog (DD []) := DD_nil _
def spec_l24Put_b1 (a0 : (List Item)) (a1 : Item) (i1 : Nat) (s1 : Bool × List Item) : Except ((List Item)) (Bool × List Item) :=
  (bif ((!s1.1) && !(Op.bytesLess ((a0.getD i1 default).Key) a1.Key)) then (bif (((a0.getD i1 default).Key) != a1.Key) then .ok (true, (s1.2 ++ [a1]) ++ [(a0.getD i1 default)]) else .ok (true, s1.2 ++ [a1])) else (bif (((a0.getD i1 default).Key) != a1.Key) then .ok (s1.1, s1.2 ++ [(a0.getD i1 default)]) else .ok (s1.1, s1.2)))

def spec_l24Put (a0 : (List Item)) (a1 : Item) : (List Item) :=
  (match loopR (spec_l24Put_b1 a0 a1) (a0.length - 0) 0 (false, ([] : List Item)) with | .error e => e | .ok s1 => (bif (!s1.1) then s1.2 ++ [a1] else s1.2))

theorem spec_l24Put_den (a0 : (List Item)) (a1 : Item) (hb0 : a0.length < 1099511627776) (hb1 : ∀ v ∈ a0, bdItem v) (hb2 : bdItem a1) : Den Try.prog 76 [encL 2 eItem a0, .agg (eItem a1)] (ownL 103 2 eItem (spec_l24Put a0 a1)) := by
  generalize hR : spec_l24Put a0 a1 = r
  unfold spec_l24Put at hR
  refine den_intro G_ok Try.func76 (by kernel_rfl) rfl Try.ntmps76 (by rw [Try.results76]) (by simp) rfl ?_
  intro c hL hc hk
  obtain ⟨hL0, hL1, _⟩ := hL
  have hw0 : a0.length < 9223372036854775808 := Nat.lt_succ_of_le (lens_encL hL0).1
  have hw1 : ∀ v ∈ a0, bwItem v := fun v hv => Item_lens v ((lens_encL hL0).2 v hv)
  have hw2 : bwItem a1 := Item_lens a1 hL1
  clear hL0 hL1
  simp only [pars, Nat.zero_add]
  refine AWP.seq ?_
  refine AWP.regS G_ok spec_l24Put_DD hc (by kernel_rfl) (fun K hK => ?_); simp only [ea, gv, sv, reduceCtorEq, reduceIte, Nat.reduceBEq, Nat.reduceAdd, Nat.reduceEqDiff, Nat.reduceLT, Nat.reduceLeDiff, Nat.reduceMul, Nat.reduceSub, BEq.rfl, beq_self_eq_true, Int.reduceToNat]
  (refine hK _ ?_)
  clear hK K
  refine AWP.seq ?_
  refine AWP.regS G_ok spec_l24Put_DD hc (by kernel_rfl) (fun K hK => ?_); simp only [ea, gv, sv, reduceCtorEq, reduceIte, Nat.reduceBEq, Nat.reduceAdd, Nat.reduceEqDiff, Nat.reduceLT, Nat.reduceLeDiff, Nat.reduceMul, Nat.reduceSub, BEq.rfl, beq_self_eq_true, Int.reduceToNat]
  (refine hK _ ?_)
  clear hK K
  refine AWP.seq ?_
  refine AWP.regS G_ok spec_l24Put_DD hc (by kernel_rfl) (fun K hK => ?_); simp only [ea, gv, sv, reduceCtorEq, reduceIte, Nat.reduceBEq, Nat.reduceAdd, Nat.reduceEqDiff, Nat.reduceLT, Nat.reduceLeDiff, Nat.reduceMul, Nat.reduceSub, BEq.rfl, beq_self_eq_true, Int.reduceToNat]
  (refine hK _ ?_)
  clear hK K
  refine AWP.seq ?_
  refine AWP.seq ?_
  refine AWP.regS G_ok spec_l24Put_DD hc (by kernel_rfl) (fun K hK => ?_); simp only [ea, gv, sv, reduceCtorEq, reduceIte, Nat.reduceBEq, Nat.reduceAdd, Nat.reduceEqDiff, Nat.reduceLT, Nat.reduceLeDiff, Nat.reduceMul, Nat.reduceSub, BEq.rfl, beq_self_eq_true, Int.reduceToNat]
  (refine hK _ ?_)
  clear hK K
  refine AWP.block ?_
  generalize hz1 : loopR (spec_l24Put_b1 a0 a1) (a0.length - 0) 0 (false, ([] : List Item)) = z1 at hR
  refine AWP.range (spec_l24Put_b1 a0 a1) (fun i1 s1 => ⟨[(0, encL 2 eItem a0), (3, .ptr 0 0), (5, .ref 1 2 0 s1.2.length), (6, .bool s1.1), (7, .int .i64 (i1 : Int))], [.box [.str a1.Key, .str a1.Text], .arr 103 2 s1.2.length (fun j => eItem (s1.2.getD j default))]⟩) (fun i1 s1 => s1.2.length ≤ ([] : List Item).length + 2 * i1) (a0.length) 0 (false, ([] : List Item)) [0, 1] hz1 (by (omega)) (by (trivial)) (by (simp only [si, ea, gv, sv, hk, reduceCtorEq, reduceIte, Nat.reduceBEq, Nat.reduceAdd, Nat.reduceEqDiff, Nat.reduceLT, Nat.reduceLeDiff, Nat.reduceMul, Nat.reduceSub, BEq.rfl, beq_self_eq_true, Int.reduceToNat]; trivial)) ?_
  clear hz1
  intro i1 s1 hi1 hW1 hz1
  refine AWP.seq ?_
  refine AWP.seq ?_
  refine AWP.regS G_ok spec_l24Put_DD hc (by kernel_rfl) (fun K hK => ?_); simp only [ea, gv, sv, reduceCtorEq, reduceIte, Nat.reduceBEq, Nat.reduceAdd, Nat.reduceEqDiff, Nat.reduceLT, Nat.reduceLeDiff, Nat.reduceMul, Nat.reduceSub, BEq.rfl, beq_self_eq_true, Int.reduceToNat]
  (refine hK _ ?_)
  clear hK K
  refine AWP.cond rfl (fun hb => ?_) (fun hb => ?_)
  · have hlt1 : i1 < a0.length := by ((simp only [ob, ln, bdv, sv] at *; omega))
    rw [loopR_lt hlt1] at hz1; simp only [spec_l24Put_b1] at hz1
    refine AWP.skip ?_
    refine AWP.seq ?_
    refine AWP.block ?_
    refine AWP.seq ?_
    refine AWP.seq ?_
    refine AWP.regD mixed G_ok spec_l24Put_DD hc 12 (by kernel_rfl) (by kernel_rfl) (fun K hK => ?_); simp only [ea, gv, sv, reduceCtorEq, reduceIte, Nat.reduceBEq, Nat.reduceAdd, Nat.reduceEqDiff, Nat.reduceLT, Nat.reduceLeDiff, Nat.reduceMul, Nat.reduceSub, BEq.rfl, beq_self_eq_true, Int.reduceToNat]
    (refine ⟨by (omega), hK _ ?_⟩)
    clear hK K
    refine AWP.cond rfl (fun hb => ?_) (fun hb => ?_)
    · (simp only [hb, cond_true] at hz1)
      refine AWP.seq ?_
      refine AWP.regS G_ok spec_l24Put_DD hc (by kernel_rfl) (fun K hK => ?_); simp only [ea, gv, sv, reduceCtorEq, reduceIte, Nat.reduceBEq, Nat.reduceAdd, Nat.reduceEqDiff, Nat.reduceLT, Nat.reduceLeDiff, Nat.reduceMul, Nat.reduceSub, BEq.rfl, beq_self_eq_true, Int.reduceToNat]
      (refine ⟨by (((try clear hK K); (repeat' (apply And.intro)) <;> first | omega | (simp only [ob, ln, bdv, sv] at *; omega))), hK _ ?_⟩)
      clear hK K
      refine AWP.regS G_ok spec_l24Put_DD hc (by kernel_rfl) (fun K hK => ?_); simp only [ea, gv, sv, reduceCtorEq, reduceIte, Nat.reduceBEq, Nat.reduceAdd, Nat.reduceEqDiff, Nat.reduceLT, Nat.reduceLeDiff, Nat.reduceMul, Nat.reduceSub, BEq.rfl, beq_self_eq_true, Int.reduceToNat]
      (refine hK _ ?_)
      clear hK K
      refine AWP.seq ?_
      refine AWP.regD mixed G_ok spec_l24Put_DD hc 7 (by kernel_rfl) (by kernel_rfl) (fun K hK => ?_); simp only [ea, gv, sv, reduceCtorEq, reduceIte, Nat.reduceBEq, Nat.reduceAdd, Nat.reduceEqDiff, Nat.reduceLT, Nat.reduceLeDiff, Nat.reduceMul, Nat.reduceSub, BEq.rfl, beq_self_eq_true, Int.reduceToNat]
      (refine ⟨by (omega), hK _ ?_⟩)
      clear hK K
      refine AWP.cond rfl (fun hb => ?_) (fun hb => ?_)
      · (simp only [hb, cond_true] at hz1)
        refine AWP.regS G_ok spec_l24Put_DD hc (by kernel_rfl) (fun K hK => ?_); simp only [ea, gv, sv, reduceCtorEq, reduceIte, Nat.reduceBEq, Nat.reduceAdd, Nat.reduceEqDiff, Nat.reduceLT, Nat.reduceLeDiff, Nat.reduceMul, Nat.reduceSub, BEq.rfl, beq_self_eq_true, Int.reduceToNat]
        (refine ⟨by (((try clear hK K); (repeat' (apply And.intro)) <;> first | omega | (simp only [ob, ln, bdv, sv] at *; omega))), hK _ ?_⟩)
        clear hK K
        refine AWP.regS G_ok spec_l24Put_DD hc (by kernel_rfl) (fun K hK => ?_); simp only [ea, gv, sv, reduceCtorEq, reduceIte, Nat.reduceBEq, Nat.reduceAdd, Nat.reduceEqDiff, Nat.reduceLT, Nat.reduceLeDiff, Nat.reduceMul, Nat.reduceSub, BEq.rfl, beq_self_eq_true, Int.reduceToNat]
        (refine hK _ ?_)
        clear hK K
        exact ⟨_, [0, 5], hlt1, by ((and_intros <;> simp only [ob, ln] at * <;> omega)), hz1, by (simp only [si, ea, gv, sv, hk, reduceCtorEq, reduceIte, Nat.reduceBEq, Nat.reduceAdd, Nat.reduceEqDiff, Nat.reduceLT, Nat.reduceLeDiff, Nat.reduceMul, Nat.reduceSub, BEq.rfl, beq_self_eq_true, Int.reduceToNat]; (and_intros <;> first | trivial | (rw [IntKind.wrap_i64]; omega) | (simp only [ln]; done) | (intro j hj; simp only [pw, Bool.cond_eq_ite, Bool.and_eq_true, decide_eq_true_eq]; (try rw [subL_getD _ _ _ _ (by assumption)]); (try rw [clearL_getD _ _ _ _ (by omega)]); (repeat' split) <;> first | rfl | omega | (simp_all; done) | (simp_all; omega))))⟩
      · (simp only [hb, cond_false] at hz1)
        refine AWP.skip ?_
        refine AWP.regS G_ok spec_l24Put_DD hc (by kernel_rfl) (fun K hK => ?_); simp only [ea, gv, sv, reduceCtorEq, reduceIte, Nat.reduceBEq, Nat.reduceAdd, Nat.reduceEqDiff, Nat.reduceLT, Nat.reduceLeDiff, Nat.reduceMul, Nat.reduceSub, BEq.rfl, beq_self_eq_true, Int.reduceToNat]
        (refine hK _ ?_)
        clear hK K
        exact ⟨_, [0, 3], hlt1, by ((and_intros <;> simp only [ob, ln] at * <;> omega)), hz1, by (simp only [si, ea, gv, sv, hk, reduceCtorEq, reduceIte, Nat.reduceBEq, Nat.reduceAdd, Nat.reduceEqDiff, Nat.reduceLT, Nat.reduceLeDiff, Nat.reduceMul, Nat.reduceSub, BEq.rfl, beq_self_eq_true, Int.reduceToNat]; (and_intros <;> first | trivial | (rw [IntKind.wrap_i64]; omega) | (simp only [ln]; done) | (intro j hj; simp only [pw, Bool.cond_eq_ite, Bool.and_eq_true, decide_eq_true_eq]; (try rw [subL_getD _ _ _ _ (by assumption)]); (try rw [clearL_getD _ _ _ _ (by omega)]); (repeat' split) <;> first | rfl | omega)))⟩
    · (simp only [hb, cond_false] at hz1)
      refine AWP.skip ?_
      refine AWP.seq ?_
      refine AWP.regD mixed G_ok spec_l24Put_DD hc 7 (by kernel_rfl) (by kernel_rfl) (fun K hK => ?_); simp only [ea, gv, sv, reduceCtorEq, reduceIte, Nat.reduceBEq, Nat.reduceAdd, Nat.reduceEqDiff, Nat.reduceLT, Nat.reduceLeDiff, Nat.reduceMul, Nat.reduceSub, BEq.rfl, beq_self_eq_true, Int.reduceToNat]
      (refine ⟨by (omega), hK _ ?_⟩)
      clear hK K
      refine AWP.cond rfl (fun hb => ?_) (fun hb => ?_)
      · (simp only [hb, cond_true] at hz1)
        refine AWP.regS G_ok spec_l24Put_DD hc (by kernel_rfl) (fun K hK => ?_); simp only [ea, gv, sv, reduceCtorEq, reduceIte, Nat.reduceBEq, Nat.reduceAdd, Nat.reduceEqDiff, Nat.reduceLT, Nat.reduceLeDiff, Nat.reduceMul, Nat.reduceSub, BEq.rfl, beq_self_eq_true, Int.reduceToNat]
        (refine ⟨by (((try clear hK K); (repeat' (apply And.intro)) <;> first | omega | (simp only [ob, ln, bdv, sv] at *; omega))), hK _ ?_⟩)
        clear hK K
        refine AWP.regS G_ok spec_l24Put_DD hc (by kernel_rfl) (fun K hK => ?_); simp only [ea, gv, sv, reduceCtorEq, reduceIte, Nat.reduceBEq, Nat.reduceAdd, Nat.reduceEqDiff, Nat.reduceLT, Nat.reduceLeDiff, Nat.reduceMul, Nat.reduceSub, BEq.rfl, beq_self_eq_true, Int.reduceToNat]
        (refine hK _ ?_)
        clear hK K
        exact ⟨_, [0, 3], hlt1, by ((and_intros <;> simp only [ob, ln] at * <;> omega)), hz1, by (simp only [si, ea, gv, sv, hk, reduceCtorEq, reduceIte, Nat.reduceBEq, Nat.reduceAdd, Nat.reduceEqDiff, Nat.reduceLT, Nat.reduceLeDiff, Nat.reduceMul, Nat.reduceSub, BEq.rfl, beq_self_eq_true, Int.reduceToNat]; (and_intros <;> first | trivial | (rw [IntKind.wrap_i64]; omega) | (simp only [ln]; done) | (intro j hj; simp only [pw, Bool.cond_eq_ite, Bool.and_eq_true, decide_eq_true_eq]; (try rw [subL_getD _ _ _ _ (by assumption)]); (try rw [clearL_getD _ _ _ _ (by omega)]); (repeat' split) <;> first | rfl | omega)))⟩
      · (simp only [hb, cond_false] at hz1)
        refine AWP.skip ?_
        refine AWP.regS G_ok spec_l24Put_DD hc (by kernel_rfl) (fun K hK => ?_); simp only [ea, gv, sv, reduceCtorEq, reduceIte, Nat.reduceBEq, Nat.reduceAdd, Nat.reduceEqDiff, Nat.reduceLT, Nat.reduceLeDiff, Nat.reduceMul, Nat.reduceSub, BEq.rfl, beq_self_eq_true, Int.reduceToNat]
        (refine hK _ ?_)
        clear hK K
        exact ⟨_, [0, 1], hlt1, by ((and_intros <;> simp only [ob, ln] at * <;> omega)), hz1, by (simp only [si, ea, gv, sv, hk, reduceCtorEq, reduceIte, Nat.reduceBEq, Nat.reduceAdd, Nat.reduceEqDiff, Nat.reduceLT, Nat.reduceLeDiff, Nat.reduceMul, Nat.reduceSub, BEq.rfl, beq_self_eq_true, Int.reduceToNat]; (and_intros <;> first | trivial | (rw [IntKind.wrap_i64]; omega)))⟩
  · obtain rfl : i1 = a0.length := by ((simp only [ob, ln, bdv, sv] at *; omega))
    rw [loopR_ge (Nat.le_refl _)] at hz1; subst hz1; dsimp only at hR
    refine AWP.exit ?_; refine exitTo_here ?_
    refine AWP.seq ?_
    refine AWP.seq ?_
    refine AWP.regS G_ok spec_l24Put_DD hc (by kernel_rfl) (fun K hK => ?_); simp only [ea, gv, sv, reduceCtorEq, reduceIte, Nat.reduceBEq, Nat.reduceAdd, Nat.reduceEqDiff, Nat.reduceLT, Nat.reduceLeDiff, Nat.reduceMul, Nat.reduceSub, BEq.rfl, beq_self_eq_true, Int.reduceToNat]
    (refine hK _ ?_)
    clear hK K
    refine AWP.cond rfl (fun hb => ?_) (fun hb => ?_)
    · (simp only [hb, cond_true] at hR)
      refine AWP.regS G_ok spec_l24Put_DD hc (by kernel_rfl) (fun K hK => ?_); simp only [ea, gv, sv, reduceCtorEq, reduceIte, Nat.reduceBEq, Nat.reduceAdd, Nat.reduceEqDiff, Nat.reduceLT, Nat.reduceLeDiff, Nat.reduceMul, Nat.reduceSub, BEq.rfl, beq_self_eq_true, Int.reduceToNat]
      (refine ⟨by (((try clear hK K); (repeat' (apply And.intro)) <;> first | omega | (simp only [ob, ln, bdv, sv] at *; omega))), hK _ ?_⟩)
      clear hK K
      refine AWP.seq ?_
      refine AWP.regS G_ok spec_l24Put_DD hc (by kernel_rfl) (fun K hK => ?_); simp only [ea, gv, sv, reduceCtorEq, reduceIte, Nat.reduceBEq, Nat.reduceAdd, Nat.reduceEqDiff, Nat.reduceLT, Nat.reduceLeDiff, Nat.reduceMul, Nat.reduceSub, BEq.rfl, beq_self_eq_true, Int.reduceToNat]
      (refine hK _ ?_)
      clear hK K
      refine AWP.ret ?_
      subst hR
      (simp only [en, si, ea, gv, sv, hk, reduceCtorEq, reduceIte, Nat.reduceBEq, Nat.reduceAdd, Nat.reduceEqDiff, Nat.reduceLT, Nat.reduceLeDiff, Nat.reduceMul, Nat.reduceSub, BEq.rfl, beq_self_eq_true, Int.reduceToNat]; (and_intros <;> first | omega | (simp only [ln]; done) | (left; and_intros <;> (intro j hj; simp only [pw, Bool.cond_eq_ite, Bool.and_eq_true, decide_eq_true_eq]; (repeat' split) <;> simp [putL, borrowL, borrow, NoBorL, NoBor])) | (intro j hj; simp only [pw, Bool.cond_eq_ite]; (repeat' split) <;> (simp [pureL, pureV, borrowL, borrow, NoBorL, NoBor]; done)) | (intro j hj; simp only [pw, Bool.cond_eq_ite, Bool.and_eq_true, decide_eq_true_eq]; (try rw [subL_getD _ _ _ _ (by assumption)]); (try rw [clearL_getD _ _ _ _ (by omega)]); (repeat' split) <;> first | omega | exact simOL_refl _)))
    · (simp only [hb, cond_false] at hR)
      refine AWP.skip ?_
      refine AWP.seq ?_
      refine AWP.regS G_ok spec_l24Put_DD hc (by kernel_rfl) (fun K hK => ?_); simp only [ea, gv, sv, reduceCtorEq, reduceIte, Nat.reduceBEq, Nat.reduceAdd, Nat.reduceEqDiff, Nat.reduceLT, Nat.reduceLeDiff, Nat.reduceMul, Nat.reduceSub, BEq.rfl, beq_self_eq_true, Int.reduceToNat]
      (refine hK _ ?_)
      clear hK K
      refine AWP.ret ?_
      subst hR
      (simp only [en, si, ea, gv, sv, hk, reduceCtorEq, reduceIte, Nat.reduceBEq, Nat.reduceAdd, Nat.reduceEqDiff, Nat.reduceLT, Nat.reduceLeDiff, Nat.reduceMul, Nat.reduceSub, BEq.rfl, beq_self_eq_true, Int.reduceToNat]; (and_intros <;> omega))

def D_spec_l24Put : DF
  | [x0, x1] => some (ownL 103 2 eItem (spec_l24Put (rdL dItem x0) (rdG dItem x1)), false, [wL 2 eItem dItem x0, wG eItem dItem x1, (rdL dItem x0).length < 1099511627776, ∀ v ∈ (rdL dItem x0), bdItem v, bdItem (rdG dItem x1)])
  | _ => none
def Dz_spec_l24Put : DF
  | [x0, x1] => some (ownL 103 2 eItem (spec_l24Put (rdL dItem x0) (rdG dItem x1)), true, [wL 2 eItem dItem x0, wG eItem dItem x1, (rdL dItem x0).length < 1099511627776, ∀ v ∈ (rdL dItem x0), bdItem v, bdItem (rdG dItem x1)])
  | _ => none
theorem D_spec_l24Put_ok : OkD Try.prog 76 D_spec_l24Put := by
  intro xs r z ob h ho
  unfold D_spec_l24Put at h
  split at h
  · simp only [Option.some.injEq, Prod.mk.injEq] at h
    obtain ⟨rfl, rfl, rfl⟩ := h
    obtain ⟨h0, h1, hb0, hb1, hb2, _⟩ := ho
    exact Den.sim (spec_l24Put_den _ _ hb0 hb1 hb2) (simOL_cons (wL_sim h0).1 <| simOL_cons (wG_sim h1).1 <| trivial) (noIdL_cons (wL_sim h0).2 <| noIdL_cons (wG_sim h1).2 <| rfl) rfl
  · cases h

theorem Dz_spec_l24Put_ok : OkD Try.prog 76 Dz_spec_l24Put := by
  intro xs r z ob h ho
  unfold Dz_spec_l24Put at h
  split at h
  · simp only [Option.some.injEq, Prod.mk.injEq] at h
    obtain ⟨rfl, rfl, rfl⟩ := h
    obtain ⟨h0, h1, hb0, hb1, hb2, _⟩ := ho
    exact Den.sim (spec_l24Put_den _ _ hb0 hb1 hb2) (simOL_cons (wL_sim h0).1 <| simOL_cons (wG_sim h1).1 <| trivial) (noIdL_cons (wL_sim h0).2 <| noIdL_cons (wG_sim h1).2 <| rfl) rfl
  · cases h
end Go.Ab

namespace Go.Ab
open Go Go.Proofs
theorem spec_l24Put_fact (a : List Item) (x : Item) : (spec_l24Put a x).length ≤ a.length + 1 ∧ ∀ v, v ∈ spec_l24Put a x → v ∈ a ∨ v = x := by
  unfold spec_l24Put
  have key : ∀ j (u : Bool × List Item), 0 ≤ j → j < 0 + (a.length - 0) → (u.2.length ≤ j + (bif u.1 then 1 else 0) ∧ ∀ v, v ∈ u.2 → v ∈ a ∨ v = x) →
      ∃ w, spec_l24Put_b1 a x j u = .ok w ∧ (w.2.length ≤ (j + 1) + (bif w.1 then 1 else 0) ∧ ∀ v, v ∈ w.2 → v ∈ a ∨ v = x) := by
    rintro j ⟨d, l⟩ _ hj ⟨h1, h2⟩
    have hm : a.getD j default ∈ a := by
      rw [List.getD_eq_getElem?_getD, List.getElem?_eq_getElem (by omega), Option.getD_some]; exact List.getElem_mem _
    have hs : ∀ v, v ∈ l ++ [x] → v ∈ a ∨ v = x := by
      intro v hv
      rcases List.mem_append.1 hv with hv | hv
      · exact h2 v hv
      · exact .inr (by simpa using hv)
    have hc : ∀ (l : List Item), (∀ v, v ∈ l → v ∈ a ∨ v = x) → ∀ v, v ∈ l ++ [a.getD j default] → v ∈ a ∨ v = x := by
      intro l hl v hv
      rcases List.mem_append.1 hv with hv | hv
      · exact hl v hv
      · left; have : v = a.getD j default := by simpa using hv
        rw [this]; exact hm
    simp only [spec_l24Put_b1]
    simp only at h1 h2
    cases d with
    | true =>
      simp only [Bool.not_true, Bool.false_and, cond_false, cond_true] at h1 ⊢
      cases (a.getD j default).Key != x.Key with
      | true => exact ⟨_, rfl, by simp only [cond_true, List.length_append, List.length_cons, List.length_nil]; omega, hc _ h2⟩
      | false => exact ⟨_, rfl, by simp only [cond_true]; omega, h2⟩
    | false =>
      simp only [Bool.not_false, Bool.true_and, cond_false] at h1 ⊢
      cases !(Op.bytesLess (a.getD j default).Key x.Key) with
      | true =>
        cases (a.getD j default).Key != x.Key with
        | true => exact ⟨_, rfl, by simp only [cond_true, List.length_append, List.length_cons, List.length_nil]; omega, hc _ hs⟩
        | false => exact ⟨_, rfl, by simp only [cond_true, List.length_append, List.length_cons, List.length_nil]; omega, hs⟩
      | false =>
        cases (a.getD j default).Key != x.Key with
        | true => exact ⟨_, rfl, by simp only [cond_false, List.length_append, List.length_cons, List.length_nil]; omega, hc _ h2⟩
        | false => exact ⟨_, rfl, by simp only [cond_false]; omega, h2⟩
  obtain ⟨t, q1, q2, q3⟩ := loopR_total (b := spec_l24Put_b1 a x) (fun i s => s.2.length ≤ i + (bif s.1 then 1 else 0) ∧ ∀ v, v ∈ s.2 → v ∈ a ∨ v = x) (k := a.length - 0) (i := 0) (s := (false, [])) (by simp) key
  rw [q1]
  simp only
  obtain ⟨d, l⟩ := t
  simp only at q2 q3
  cases d with
  | true => simp only [cond_true] at q2; exact ⟨by simp only [Bool.not_true, cond_false]; omega, q3⟩
  | false =>
    simp only [cond_false] at q2
    refine ⟨by simp only [Bool.not_false, cond_true, List.length_append, List.length_cons, List.length_nil]; omega, ?_⟩
    intro v hv
    simp only [Bool.not_false, cond_true] at hv
    rcases List.mem_append.1 hv with hv | hv
    · exact q3 v hv
    · exact .inr (by simpa using hv)
end Go.Ab

namespace Go.Ab
open Go Go.Proofs
theorem spec_l24One_DD : DOk Try.prog (DD [(119, dP D_spec_l01Name)]) := DD_cons D_spec_l01Name_ok.e <| DD_nil _
def spec_l24One (a0 : Item) : Bool :=
  ((spec_l01Name a0.Key) && decide ((a0.Text.length : Int) ≤ 400))

theorem spec_l24One_den (a0 : Item)  : Den Try.prog 83 [.ep (eItem a0)] (.bool (spec_l24One a0)) := by
  generalize hR : spec_l24One a0 = r
  unfold spec_l24One at hR
  refine den_intro G_ok Try.func83 (by kernel_rfl) rfl Try.ntmps83 (by rw [Try.results83]) (by simp) rfl ?_
  intro c hL hc hk
  obtain ⟨hL0, _⟩ := hL
  have hw0 : bwItem a0 := Item_lens a0 hL0
  clear hL0
  simp only [pars, Nat.zero_add]
  refine AWP.seq ?_
  refine AWP.regS G_ok spec_l24One_DD hc (by kernel_rfl) (fun K hK => ?_); simp only [ea, gv, sv, D_spec_l01Name, reduceCtorEq, reduceIte, Nat.reduceBEq, Nat.reduceAdd, Nat.reduceEqDiff, Nat.reduceLT, Nat.reduceLeDiff, Nat.reduceMul, Nat.reduceSub, BEq.rfl, beq_self_eq_true, Int.reduceToNat]
  (refine hK _ ?_)
  clear hK K
  refine AWP.seq ?_
  refine AWP.regS G_ok spec_l24One_DD hc (by kernel_rfl) (fun K hK => ?_); simp only [ea, gv, sv, D_spec_l01Name, reduceCtorEq, reduceIte, Nat.reduceBEq, Nat.reduceAdd, Nat.reduceEqDiff, Nat.reduceLT, Nat.reduceLeDiff, Nat.reduceMul, Nat.reduceSub, BEq.rfl, beq_self_eq_true, Int.reduceToNat]
  (refine hK _ ?_)
  clear hK K
  refine AWP.ret ?_
  subst hR
  (simp only [en, si, ea, gv, sv, hk, reduceCtorEq, reduceIte, Nat.reduceBEq, Nat.reduceAdd, Nat.reduceEqDiff, Nat.reduceLT, Nat.reduceLeDiff, Nat.reduceMul, Nat.reduceSub, BEq.rfl, beq_self_eq_true, Int.reduceToNat]; done)

def D_spec_l24One : DF
  | [x0] => some (.bool (spec_l24One (rdP dItem x0)), false, [wP eItem dItem x0])
  | _ => none
theorem D_spec_l24One_ok : OkD Try.prog 83 D_spec_l24One := by
  intro xs r z ob h ho
  unfold D_spec_l24One at h
  split at h
  · simp only [Option.some.injEq, Prod.mk.injEq] at h
    obtain ⟨rfl, rfl, rfl⟩ := h
    obtain ⟨h0, _⟩ := ho
    exact Den.sim (spec_l24One_den _ ) (simOL_cons (wP_sim h0).1 <| trivial) (noIdL_cons (wP_sim h0).2 <| rfl) rfl
  · cases h
end Go.Ab

namespace Go.Ab
open Go Go.Proofs
theorem spec_l24Ok_DD : DOk Try.prog (DD [(83, dP D_spec_l24One)]) := DD_cons D_spec_l24One_ok.e <| DD_nil _
def spec_l24Ok_b1 (a0 : (List Item)) (i1 : Nat) (s1 : Unit) : Except (Bool) (Unit) :=
  (bif ((!(spec_l24One (a0.getD i1 default))) || (decide (0 < (i1 : Int)) && !(Op.bytesLess ((a0.getD ((IntKind.wrap .i64 ((i1 : Int) - 1)).toNat) default).Key) ((a0.getD i1 default).Key)))) then .error false else .ok ())

def spec_l24Ok (a0 : (List Item)) : Bool :=
  (match loopR (spec_l24Ok_b1 a0) (a0.length - 0) 0 () with | .error e => e | .ok s1 => decide ((a0.length : Int) ≤ 40))

theorem spec_l24Ok_den (a0 : (List Item))  : Den Try.prog 75 [encL 2 eItem a0] (.bool (spec_l24Ok a0)) := by
  generalize hR : spec_l24Ok a0 = r
  unfold spec_l24Ok at hR
  refine den_intro G_ok Try.func75 (by kernel_rfl) rfl Try.ntmps75 (by rw [Try.results75]) (by simp) rfl ?_
  intro c hL hc hk
  obtain ⟨hL0, _⟩ := hL
  have hw0 : a0.length < 9223372036854775808 := Nat.lt_succ_of_le (lens_encL hL0).1
  have hw1 : ∀ v ∈ a0, bwItem v := fun v hv => Item_lens v ((lens_encL hL0).2 v hv)
  clear hL0
  simp only [pars, Nat.zero_add]
  refine AWP.seq ?_
  refine AWP.regS G_ok spec_l24Ok_DD hc (by kernel_rfl) (fun K hK => ?_); simp only [ea, gv, sv, D_spec_l24One, reduceCtorEq, reduceIte, Nat.reduceBEq, Nat.reduceAdd, Nat.reduceEqDiff, Nat.reduceLT, Nat.reduceLeDiff, Nat.reduceMul, Nat.reduceSub, BEq.rfl, beq_self_eq_true, Int.reduceToNat]
  (refine hK _ ?_)
  clear hK K
  refine AWP.seq ?_
  refine AWP.seq ?_
  refine AWP.regS G_ok spec_l24Ok_DD hc (by kernel_rfl) (fun K hK => ?_); simp only [ea, gv, sv, D_spec_l24One, reduceCtorEq, reduceIte, Nat.reduceBEq, Nat.reduceAdd, Nat.reduceEqDiff, Nat.reduceLT, Nat.reduceLeDiff, Nat.reduceMul, Nat.reduceSub, BEq.rfl, beq_self_eq_true, Int.reduceToNat]
  (refine hK _ ?_)
  clear hK K
  refine AWP.block ?_
  generalize hz1 : loopR (spec_l24Ok_b1 a0) (a0.length - 0) 0 () = z1 at hR
  refine AWP.range (spec_l24Ok_b1 a0) (fun i1 s1 => ⟨[(0, encL 2 eItem a0), (3, .int .i64 (i1 : Int))], []⟩) (fun i1 s1 => True) (a0.length) 0 () [] hz1 (by (omega)) (by (trivial)) (by (simp only [si, ea, gv, sv, hk, reduceCtorEq, reduceIte, Nat.reduceBEq, Nat.reduceAdd, Nat.reduceEqDiff, Nat.reduceLT, Nat.reduceLeDiff, Nat.reduceMul, Nat.reduceSub, BEq.rfl, beq_self_eq_true, Int.reduceToNat]; trivial)) ?_
  clear hz1
  intro i1 s1 hi1 hW1 hz1
  refine AWP.seq ?_
  refine AWP.seq ?_
  refine AWP.regS G_ok spec_l24Ok_DD hc (by kernel_rfl) (fun K hK => ?_); simp only [ea, gv, sv, D_spec_l24One, reduceCtorEq, reduceIte, Nat.reduceBEq, Nat.reduceAdd, Nat.reduceEqDiff, Nat.reduceLT, Nat.reduceLeDiff, Nat.reduceMul, Nat.reduceSub, BEq.rfl, beq_self_eq_true, Int.reduceToNat]
  (refine hK _ ?_)
  clear hK K
  refine AWP.cond rfl (fun hb => ?_) (fun hb => ?_)
  · have hlt1 : i1 < a0.length := by ((simp only [ob, ln, bdv, sv] at *; omega))
    rw [loopR_lt hlt1] at hz1; simp only [spec_l24Ok_b1] at hz1
    refine AWP.skip ?_
    refine AWP.seq ?_
    refine AWP.block ?_
    refine AWP.seq ?_
    refine AWP.regD mixed G_ok spec_l24Ok_DD hc 23 (by kernel_rfl) (by kernel_rfl) (fun K hK => ?_); simp only [ea, gv, sv, D_spec_l24One, reduceCtorEq, reduceIte, Nat.reduceBEq, Nat.reduceAdd, Nat.reduceEqDiff, Nat.reduceLT, Nat.reduceLeDiff, Nat.reduceMul, Nat.reduceSub, BEq.rfl, beq_self_eq_true, Int.reduceToNat]
    (refine ⟨by ((simp only [ob, ln, bdv, sv] at *; omega)), hK _ ?_⟩)
    clear hK K
    refine AWP.cond rfl (fun hb => ?_) (fun hb => ?_)
    · (simp only [hb, cond_true] at hz1)
      refine AWP.seq ?_
      refine AWP.regS G_ok spec_l24Ok_DD hc (by kernel_rfl) (fun K hK => ?_); simp only [ea, gv, sv, D_spec_l24One, reduceCtorEq, reduceIte, Nat.reduceBEq, Nat.reduceAdd, Nat.reduceEqDiff, Nat.reduceLT, Nat.reduceLeDiff, Nat.reduceMul, Nat.reduceSub, BEq.rfl, beq_self_eq_true, Int.reduceToNat]
      (refine hK _ ?_)
      clear hK K
      refine AWP.ret ?_
      subst hz1
      dsimp only at hR
      subst hR
      (simp only [en, si, ea, gv, sv, hk, reduceCtorEq, reduceIte, Nat.reduceBEq, Nat.reduceAdd, Nat.reduceEqDiff, Nat.reduceLT, Nat.reduceLeDiff, Nat.reduceMul, Nat.reduceSub, BEq.rfl, beq_self_eq_true, Int.reduceToNat]; done)
    · (simp only [hb, cond_false] at hz1)
      refine AWP.skip ?_
      refine AWP.regS G_ok spec_l24Ok_DD hc (by kernel_rfl) (fun K hK => ?_); simp only [ea, gv, sv, D_spec_l24One, reduceCtorEq, reduceIte, Nat.reduceBEq, Nat.reduceAdd, Nat.reduceEqDiff, Nat.reduceLT, Nat.reduceLeDiff, Nat.reduceMul, Nat.reduceSub, BEq.rfl, beq_self_eq_true, Int.reduceToNat]
      (refine hK _ ?_)
      clear hK K
      exact ⟨_, [], hlt1, by (trivial), hz1, by (simp only [si, ea, gv, sv, hk, reduceCtorEq, reduceIte, Nat.reduceBEq, Nat.reduceAdd, Nat.reduceEqDiff, Nat.reduceLT, Nat.reduceLeDiff, Nat.reduceMul, Nat.reduceSub, BEq.rfl, beq_self_eq_true, Int.reduceToNat]; (and_intros <;> first | trivial | (rw [IntKind.wrap_i64]; omega)))⟩
  · obtain rfl : i1 = a0.length := by ((simp only [ob, ln, bdv, sv] at *; omega))
    rw [loopR_ge (Nat.le_refl _)] at hz1; subst hz1; dsimp only at hR
    refine AWP.exit ?_; refine exitTo_here ?_
    refine AWP.seq ?_
    refine AWP.regS G_ok spec_l24Ok_DD hc (by kernel_rfl) (fun K hK => ?_); simp only [ea, gv, sv, D_spec_l24One, reduceCtorEq, reduceIte, Nat.reduceBEq, Nat.reduceAdd, Nat.reduceEqDiff, Nat.reduceLT, Nat.reduceLeDiff, Nat.reduceMul, Nat.reduceSub, BEq.rfl, beq_self_eq_true, Int.reduceToNat]
    (refine hK _ ?_)
    clear hK K
    refine AWP.ret ?_
    subst hR
    (simp only [en, si, ea, gv, sv, hk, reduceCtorEq, reduceIte, Nat.reduceBEq, Nat.reduceAdd, Nat.reduceEqDiff, Nat.reduceLT, Nat.reduceLeDiff, Nat.reduceMul, Nat.reduceSub, BEq.rfl, beq_self_eq_true, Int.reduceToNat]; done)

def D_spec_l24Ok : DF
  | [x0] => some (.bool (spec_l24Ok (rdL dItem x0)), false, [wL 2 eItem dItem x0])
  | _ => none
theorem D_spec_l24Ok_ok : OkD Try.prog 75 D_spec_l24Ok := by
  intro xs r z ob h ho
  unfold D_spec_l24Ok at h
  split at h
  · simp only [Option.some.injEq, Prod.mk.injEq] at h
    obtain ⟨rfl, rfl, rfl⟩ := h
    obtain ⟨h0, _⟩ := ho
    exact Den.sim (spec_l24Ok_den _ ) (simOL_cons (wL_sim h0).1 <| trivial) (noIdL_cons (wL_sim h0).2 <| rfl) rfl
  · cases h
end Go.Ab

namespace Go.Ab
open Go Go.Proofs
theorem spec_l24Ok_len (a : List Item) (h : spec_l24Ok a = true) : a.length ≤ 40 := by
  unfold spec_l24Ok at h
  rcases loopR_all (b := spec_l24Ok_b1 a) (fun i => ((!(spec_l24One (a.getD i default))) || (decide (0 < (i : Int)) && !(Op.bytesLess ((a.getD ((IntKind.wrap .i64 ((i : Int) - 1)).toNat) default).Key) ((a.getD i default).Key))))) false a.length (fun j u _ => rfl) with ⟨_, h2⟩ | ⟨_, h2⟩
  · rw [h2] at h
    have := of_decide_eq_true h
    omega
  · rw [h2] at h
    cases h
end Go.Ab

namespace Go.Ab
open Go Go.Proofs
theorem spec_PutItem_DD : DOk Try.prog (DD [(75, dP D_spec_l24Ok), (76, dP D_spec_l24Put), (83, dP D_spec_l24One)]) := DD_cons D_spec_l24Ok_ok.e <| DD_cons D_spec_l24Put_ok.e <| DD_cons D_spec_l24One_ok.e <| DD_nil _
def spec_PutItem (a0 : (List Item)) (a1 : (List UInt8)) (a2 : (List UInt8)) : ((List Item) × Int) :=
  (bif (!(spec_l24Ok a0)) then ([], 1) else (bif (!(spec_l24One ({ Key := a1, Text := a2 : Item }))) then ([], 2) else (bif decide (40 < ((spec_l24Put a0 ({ Key := a1, Text := a2 : Item })).length : Int)) then ([], 5) else ((spec_l24Put a0 ({ Key := a1, Text := a2 : Item })), 0))))

theorem spec_PutItem_den (a0 : (List Item)) (a1 : (List UInt8)) (a2 : (List UInt8)) (hb0 : a0.length < 1099511627776) (hb1 : ∀ v ∈ a0, bdItem v) (hb2 : a1.length < 1099511627776) (hb3 : a2.length < 1099511627776) : Den Try.prog 27 [encL 2 eItem a0, .str a1, .str a2] (.tup [ownL 103 2 eItem ((spec_PutItem a0 a1 a2).1), .int .i64 ((spec_PutItem a0 a1 a2).2)]) := by
  generalize hR : spec_PutItem a0 a1 a2 = r
  unfold spec_PutItem at hR
  refine den_intro G_ok Try.func27 (by kernel_rfl) rfl Try.ntmps27 (by rw [Try.results27]) (by simp) rfl ?_
  intro c hL hc hk
  obtain ⟨hL0, hL1, hL2, _⟩ := hL
  have hw0 : a0.length < 9223372036854775808 := Nat.lt_succ_of_le (lens_encL hL0).1
  have hw1 : ∀ v ∈ a0, bwItem v := fun v hv => Item_lens v ((lens_encL hL0).2 v hv)
  have hw2 : a1.length < 9223372036854775808 := Nat.lt_succ_of_le hL1
  have hw3 : a2.length < 9223372036854775808 := Nat.lt_succ_of_le hL2
  clear hL0 hL1 hL2
  simp only [pars, Nat.zero_add]
  refine AWP.seq ?_
  refine AWP.regS G_ok spec_PutItem_DD hc (by kernel_rfl) (fun K hK => ?_); simp only [ea, gv, sv, D_spec_l24Ok, D_spec_l24Put, D_spec_l24One, reduceCtorEq, reduceIte, Nat.reduceBEq, Nat.reduceAdd, Nat.reduceEqDiff, Nat.reduceLT, Nat.reduceLeDiff, Nat.reduceMul, Nat.reduceSub, BEq.rfl, beq_self_eq_true, Int.reduceToNat]
  (refine hK _ ?_)
  clear hK K
  refine AWP.seq ?_
  refine AWP.seq ?_
  refine AWP.regS G_ok spec_PutItem_DD hc (by kernel_rfl) (fun K hK => ?_); simp only [ea, gv, sv, D_spec_l24Ok, D_spec_l24Put, D_spec_l24One, reduceCtorEq, reduceIte, Nat.reduceBEq, Nat.reduceAdd, Nat.reduceEqDiff, Nat.reduceLT, Nat.reduceLeDiff, Nat.reduceMul, Nat.reduceSub, BEq.rfl, beq_self_eq_true, Int.reduceToNat]
  (refine hK _ ?_)
  clear hK K
  refine AWP.cond rfl (fun hb => ?_) (fun hb => ?_)
  · (simp only [hb, cond_true] at hR)
    refine AWP.seq ?_
    refine AWP.regS G_ok spec_PutItem_DD hc (by kernel_rfl) (fun K hK => ?_); simp only [ea, gv, sv, D_spec_l24Ok, D_spec_l24Put, D_spec_l24One, reduceCtorEq, reduceIte, Nat.reduceBEq, Nat.reduceAdd, Nat.reduceEqDiff, Nat.reduceLT, Nat.reduceLeDiff, Nat.reduceMul, Nat.reduceSub, BEq.rfl, beq_self_eq_true, Int.reduceToNat]
    (refine hK _ ?_)
    clear hK K
    refine AWP.ret ?_
    subst hR
    (simp only [en, si, ea, gv, sv, hk, reduceCtorEq, reduceIte, Nat.reduceBEq, Nat.reduceAdd, Nat.reduceEqDiff, Nat.reduceLT, Nat.reduceLeDiff, Nat.reduceMul, Nat.reduceSub, BEq.rfl, beq_self_eq_true, Int.reduceToNat]; done)
  · (simp only [hb, cond_false] at hR)
    refine AWP.skip ?_
    refine AWP.seq ?_
    refine AWP.regS G_ok spec_PutItem_DD hc (by kernel_rfl) (fun K hK => ?_); simp only [ea, gv, sv, D_spec_l24Ok, D_spec_l24Put, D_spec_l24One, reduceCtorEq, reduceIte, Nat.reduceBEq, Nat.reduceAdd, Nat.reduceEqDiff, Nat.reduceLT, Nat.reduceLeDiff, Nat.reduceMul, Nat.reduceSub, BEq.rfl, beq_self_eq_true, Int.reduceToNat]
    (refine hK _ ?_)
    clear hK K
    refine AWP.seq ?_
    refine AWP.seq ?_
    refine AWP.regS G_ok spec_PutItem_DD hc (by kernel_rfl) (fun K hK => ?_); simp only [ea, gv, sv, D_spec_l24Ok, D_spec_l24Put, D_spec_l24One, reduceCtorEq, reduceIte, Nat.reduceBEq, Nat.reduceAdd, Nat.reduceEqDiff, Nat.reduceLT, Nat.reduceLeDiff, Nat.reduceMul, Nat.reduceSub, BEq.rfl, beq_self_eq_true, Int.reduceToNat]
    (refine hK _ ?_)
    clear hK K
    refine AWP.cond rfl (fun hb => ?_) (fun hb => ?_)
    · (simp only [hb, cond_true] at hR)
      refine AWP.seq ?_
      refine AWP.regS G_ok spec_PutItem_DD hc (by kernel_rfl) (fun K hK => ?_); simp only [ea, gv, sv, D_spec_l24Ok, D_spec_l24Put, D_spec_l24One, reduceCtorEq, reduceIte, Nat.reduceBEq, Nat.reduceAdd, Nat.reduceEqDiff, Nat.reduceLT, Nat.reduceLeDiff, Nat.reduceMul, Nat.reduceSub, BEq.rfl, beq_self_eq_true, Int.reduceToNat]
      (refine hK _ ?_)
      clear hK K
      refine AWP.ret ?_
      subst hR
      (simp only [en, si, ea, gv, sv, hk, reduceCtorEq, reduceIte, Nat.reduceBEq, Nat.reduceAdd, Nat.reduceEqDiff, Nat.reduceLT, Nat.reduceLeDiff, Nat.reduceMul, Nat.reduceSub, BEq.rfl, beq_self_eq_true, Int.reduceToNat]; done)
    · (simp only [hb, cond_false] at hR)
      refine AWP.skip ?_
      refine AWP.seq ?_
      refine AWP.regS G_ok spec_PutItem_DD hc (by kernel_rfl) (fun K hK => ?_); simp only [ea, gv, sv, D_spec_l24Ok, D_spec_l24Put, D_spec_l24One, reduceCtorEq, reduceIte, Nat.reduceBEq, Nat.reduceAdd, Nat.reduceEqDiff, Nat.reduceLT, Nat.reduceLeDiff, Nat.reduceMul, Nat.reduceSub, BEq.rfl, beq_self_eq_true, Int.reduceToNat]
      (refine ⟨by (trivial), hK _ ?_⟩)
      clear hK K
      refine AWP.seq ?_
      refine AWP.seq ?_
      refine AWP.regS G_ok spec_PutItem_DD hc (by kernel_rfl) (fun K hK => ?_); simp only [ea, gv, sv, D_spec_l24Ok, D_spec_l24Put, D_spec_l24One, reduceCtorEq, reduceIte, Nat.reduceBEq, Nat.reduceAdd, Nat.reduceEqDiff, Nat.reduceLT, Nat.reduceLeDiff, Nat.reduceMul, Nat.reduceSub, BEq.rfl, beq_self_eq_true, Int.reduceToNat]
      (refine hK _ ?_)
      clear hK K
      refine AWP.cond rfl (fun hb => ?_) (fun hb => ?_)
      · (simp only [hb, cond_true] at hR)
        refine AWP.seq ?_
        refine AWP.regS G_ok spec_PutItem_DD hc (by kernel_rfl) (fun K hK => ?_); simp only [ea, gv, sv, D_spec_l24Ok, D_spec_l24Put, D_spec_l24One, reduceCtorEq, reduceIte, Nat.reduceBEq, Nat.reduceAdd, Nat.reduceEqDiff, Nat.reduceLT, Nat.reduceLeDiff, Nat.reduceMul, Nat.reduceSub, BEq.rfl, beq_self_eq_true, Int.reduceToNat]
        (refine hK _ ?_)
        clear hK K
        refine AWP.ret ?_
        subst hR
        (simp only [en, si, ea, gv, sv, hk, reduceCtorEq, reduceIte, Nat.reduceBEq, Nat.reduceAdd, Nat.reduceEqDiff, Nat.reduceLT, Nat.reduceLeDiff, Nat.reduceMul, Nat.reduceSub, BEq.rfl, beq_self_eq_true, Int.reduceToNat]; done)
      · (simp only [hb, cond_false] at hR)
        refine AWP.skip ?_
        refine AWP.seq ?_
        refine AWP.regS G_ok spec_PutItem_DD hc (by kernel_rfl) (fun K hK => ?_); simp only [ea, gv, sv, D_spec_l24Ok, D_spec_l24Put, D_spec_l24One, reduceCtorEq, reduceIte, Nat.reduceBEq, Nat.reduceAdd, Nat.reduceEqDiff, Nat.reduceLT, Nat.reduceLeDiff, Nat.reduceMul, Nat.reduceSub, BEq.rfl, beq_self_eq_true, Int.reduceToNat]
        (refine hK _ ?_)
        clear hK K
        refine AWP.ret ?_
        subst hR
        (simp only [en, si, ea, gv, sv, hk, reduceCtorEq, reduceIte, Nat.reduceBEq, Nat.reduceAdd, Nat.reduceEqDiff, Nat.reduceLT, Nat.reduceLeDiff, Nat.reduceMul, Nat.reduceSub, BEq.rfl, beq_self_eq_true, Int.reduceToNat]; (and_intros <;> omega))

def D_spec_PutItem : DF
  | [x0, x1, x2] => some (.tup [ownL 103 2 eItem ((spec_PutItem (rdL dItem x0) (rdS x1) (rdS x2)).1), .int .i64 ((spec_PutItem (rdL dItem x0) (rdS x1) (rdS x2)).2)], false, [wL 2 eItem dItem x0, wS x1, wS x2, (rdL dItem x0).length < 1099511627776, ∀ v ∈ (rdL dItem x0), bdItem v, (rdS x1).length < 1099511627776, (rdS x2).length < 1099511627776])
  | _ => none
def Dz_spec_PutItem : DF
  | [x0, x1, x2] => some (.tup [ownL 103 2 eItem ((spec_PutItem (rdL dItem x0) (rdS x1) (rdS x2)).1), .int .i64 ((spec_PutItem (rdL dItem x0) (rdS x1) (rdS x2)).2)], true, [wL 2 eItem dItem x0, wS x1, wS x2, (rdL dItem x0).length < 1099511627776, ∀ v ∈ (rdL dItem x0), bdItem v, (rdS x1).length < 1099511627776, (rdS x2).length < 1099511627776])
  | _ => none
theorem D_spec_PutItem_ok : OkD Try.prog 27 D_spec_PutItem := by
  intro xs r z ob h ho
  unfold D_spec_PutItem at h
  split at h
  · simp only [Option.some.injEq, Prod.mk.injEq] at h
    obtain ⟨rfl, rfl, rfl⟩ := h
    obtain ⟨h0, h1, h2, hb0, hb1, hb2, hb3, _⟩ := ho
    exact Den.sim (spec_PutItem_den _ _ _ hb0 hb1 hb2 hb3) (simOL_cons (wL_sim h0).1 <| simOL_cons (wS_sim h1).1 <| simOL_cons (wS_sim h2).1 <| trivial) (noIdL_cons (wL_sim h0).2 <| noIdL_cons (wS_sim h1).2 <| noIdL_cons (wS_sim h2).2 <| rfl) rfl
  · cases h

theorem Dz_spec_PutItem_ok : OkD Try.prog 27 Dz_spec_PutItem := by
  intro xs r z ob h ho
  unfold Dz_spec_PutItem at h
  split at h
  · simp only [Option.some.injEq, Prod.mk.injEq] at h
    obtain ⟨rfl, rfl, rfl⟩ := h
    obtain ⟨h0, h1, h2, hb0, hb1, hb2, hb3, _⟩ := ho
    exact Den.sim (spec_PutItem_den _ _ _ hb0 hb1 hb2 hb3) (simOL_cons (wL_sim h0).1 <| simOL_cons (wS_sim h1).1 <| simOL_cons (wS_sim h2).1 <| trivial) (noIdL_cons (wL_sim h0).2 <| noIdL_cons (wS_sim h1).2 <| noIdL_cons (wS_sim h2).2 <| rfl) rfl
  · cases h
end Go.Ab

namespace Go.Ab
open Go Go.Proofs
theorem laws_FnExactPutItem_DD : DOk Try.prog (DD [(20, dP D_laws_szItemS), (22, dP D_laws_toItemS), (24, dP D_laws_eqItemS), (25, dM [true, false] D_laws_markItemS), (26, dP D_laws_heldItemS), (27, dP D_spec_PutItem), (28, dP D_impl_PutItem)]) := DD_cons D_laws_szItemS_ok.e <| DD_cons D_laws_toItemS_ok.e <| DD_cons D_laws_eqItemS_ok.e <| DD_cons D_laws_markItemS_ok.e <| DD_cons D_laws_heldItemS_ok.e <| DD_cons D_spec_PutItem_ok.e <| DD_cons D_impl_PutItem_ok.e <| DD_nil _
def laws_FnExactPutItem (a0 : (List Item)) (a1 : (List UInt8)) (a2 : (List UInt8)) : Bool :=
  (bif decide (1048576 < (a1.length : Int)) then true else (bif decide (1048576 < (a2.length : Int)) then true else (bif decide ((laws_szItemS a0 1048576) < 0) then true else (bif ((!(laws_eqItemS ((impl_PutItem (laws_toItemS a0) a1 a2).1) ((spec_PutItem (laws_toItemS a0) a1 a2).1))) || (((impl_PutItem (laws_toItemS a0) a1 a2).2) != ((spec_PutItem (laws_toItemS a0) a1 a2).2))) then false else (bif (!(laws_eqItemS (laws_toItemS a0) (laws_toItemS a0))) then false else (bif ((decide (((laws_markItemS (laws_toItemS a0) 1).1) < 0) || (!(laws_eqItemS ((impl_PutItem (laws_toItemS a0) a1 a2).1) ((spec_PutItem (laws_toItemS a0) a1 a2).1)))) || (((impl_PutItem (laws_toItemS a0) a1 a2).2) != ((spec_PutItem (laws_toItemS a0) a1 a2).2))) then false else (bif decide ((laws_heldItemS ((laws_markItemS ((impl_PutItem (laws_toItemS a0) a1 a2).1) 1).2) 1) < 0) then false else (bif ((laws_heldItemS ((laws_markItemS ((impl_PutItem (laws_toItemS a0) a1 a2).1) 1).2) 1) != ((laws_markItemS ((impl_PutItem (laws_toItemS a0) a1 a2).1) 1).1)) then false else true))))))))

set_option maxHeartbeats 1000000 in
theorem laws_FnExactPutItem_den (a0 : (List Item)) (a1 : (List UInt8)) (a2 : (List UInt8))  : Den Try.prog 5 [encL 2 eItem a0, .str a1, .str a2] (.bool (laws_FnExactPutItem a0 a1 a2)) := by
  generalize hR : laws_FnExactPutItem a0 a1 a2 = r
  unfold laws_FnExactPutItem at hR
  refine den_intro G_ok Try.func5 (by kernel_rfl) rfl Try.ntmps5 (by rw [Try.results5]) (by simp) rfl ?_
  intro c hL hc hk
  obtain ⟨hL0, hL1, hL2, _⟩ := hL
  have hw0 : a0.length < 9223372036854775808 := Nat.lt_succ_of_le (lens_encL hL0).1
  have hw1 : ∀ v ∈ a0, bwItem v := fun v hv => Item_lens v ((lens_encL hL0).2 v hv)
  have hw2 : a1.length < 9223372036854775808 := Nat.lt_succ_of_le hL1
  have hw3 : a2.length < 9223372036854775808 := Nat.lt_succ_of_le hL2
  clear hL0 hL1 hL2
  simp only [pars, Nat.zero_add]
  have hf0 := laws_szItemS_facts a0 (1048576) (by omega) (by omega) hw0 hw1
  have hm0 : ∀ h : ¬ laws_szItemS a0 1048576 < 0, (laws_markItemS a0 1).1 = 1 + 2 * a0.length ∧ a0.length ≤ 1048576 := fun h => ⟨laws_markItemS_k a0 1 (by omega) (by omega) (by have := (hf0.2.2 h).1; omega), (hf0.2.2 h).1⟩
  refine AWP.seq ?_
  refine AWP.regS G_ok laws_FnExactPutItem_DD hc (by kernel_rfl) (fun K hK => ?_); simp only [ea, absV, absVL, gv, sv, laws_markItemS_sub, laws_markItemS_sub, D_laws_szItemS, D_laws_toItemS, D_laws_eqItemS, D_laws_markItemS, D_laws_heldItemS, D_spec_PutItem, D_impl_PutItem, reduceCtorEq, reduceIte, Nat.reduceBEq, Nat.reduceAdd, Nat.reduceEqDiff, Nat.reduceLT, Nat.reduceLeDiff, Nat.reduceMul, Nat.reduceSub, BEq.rfl, beq_self_eq_true, Int.reduceToNat]
  (refine hK _ ?_)
  clear hK K
  refine AWP.seq ?_
  refine AWP.seq ?_
  refine AWP.regS G_ok laws_FnExactPutItem_DD hc (by kernel_rfl) (fun K hK => ?_); simp only [ea, absV, absVL, gv, sv, laws_markItemS_sub, laws_markItemS_sub, D_laws_szItemS, D_laws_toItemS, D_laws_eqItemS, D_laws_markItemS, D_laws_heldItemS, D_spec_PutItem, D_impl_PutItem, reduceCtorEq, reduceIte, Nat.reduceBEq, Nat.reduceAdd, Nat.reduceEqDiff, Nat.reduceLT, Nat.reduceLeDiff, Nat.reduceMul, Nat.reduceSub, BEq.rfl, beq_self_eq_true, Int.reduceToNat]
  (refine hK _ ?_)
  clear hK K
  refine AWP.cond rfl (fun hb => ?_) (fun hb => ?_)
  · (simp only [hb, cond_true] at hR)
    refine AWP.seq ?_
    refine AWP.regS G_ok laws_FnExactPutItem_DD hc (by kernel_rfl) (fun K hK => ?_); simp only [ea, absV, absVL, gv, sv, laws_markItemS_sub, laws_markItemS_sub, D_laws_szItemS, D_laws_toItemS, D_laws_eqItemS, D_laws_markItemS, D_laws_heldItemS, D_spec_PutItem, D_impl_PutItem, reduceCtorEq, reduceIte, Nat.reduceBEq, Nat.reduceAdd, Nat.reduceEqDiff, Nat.reduceLT, Nat.reduceLeDiff, Nat.reduceMul, Nat.reduceSub, BEq.rfl, beq_self_eq_true, Int.reduceToNat]
    (refine hK _ ?_)
    clear hK K
    refine AWP.ret ?_
    subst hR
    (simp only [en, si, ea, gv, sv, hk, reduceCtorEq, reduceIte, Nat.reduceBEq, Nat.reduceAdd, Nat.reduceEqDiff, Nat.reduceLT, Nat.reduceLeDiff, Nat.reduceMul, Nat.reduceSub, BEq.rfl, beq_self_eq_true, Int.reduceToNat]; done)
  · (simp only [hb, cond_false] at hR)
    refine AWP.skip ?_
    refine AWP.seq ?_
    refine AWP.seq ?_
    refine AWP.regS G_ok laws_FnExactPutItem_DD hc (by kernel_rfl) (fun K hK => ?_); simp only [ea, absV, absVL, gv, sv, laws_markItemS_sub, laws_markItemS_sub, D_laws_szItemS, D_laws_toItemS, D_laws_eqItemS, D_laws_markItemS, D_laws_heldItemS, D_spec_PutItem, D_impl_PutItem, reduceCtorEq, reduceIte, Nat.reduceBEq, Nat.reduceAdd, Nat.reduceEqDiff, Nat.reduceLT, Nat.reduceLeDiff, Nat.reduceMul, Nat.reduceSub, BEq.rfl, beq_self_eq_true, Int.reduceToNat]
    (refine hK _ ?_)
    clear hK K
    refine AWP.cond rfl (fun hb => ?_) (fun hb => ?_)
    · (simp only [hb, cond_true] at hR)
      refine AWP.seq ?_
      refine AWP.regS G_ok laws_FnExactPutItem_DD hc (by kernel_rfl) (fun K hK => ?_); simp only [ea, absV, absVL, gv, sv, laws_markItemS_sub, laws_markItemS_sub, D_laws_szItemS, D_laws_toItemS, D_laws_eqItemS, D_laws_markItemS, D_laws_heldItemS, D_spec_PutItem, D_impl_PutItem, reduceCtorEq, reduceIte, Nat.reduceBEq, Nat.reduceAdd, Nat.reduceEqDiff, Nat.reduceLT, Nat.reduceLeDiff, Nat.reduceMul, Nat.reduceSub, BEq.rfl, beq_self_eq_true, Int.reduceToNat]
      (refine hK _ ?_)
      clear hK K
      refine AWP.ret ?_
      subst hR
      (simp only [en, si, ea, gv, sv, hk, reduceCtorEq, reduceIte, Nat.reduceBEq, Nat.reduceAdd, Nat.reduceEqDiff, Nat.reduceLT, Nat.reduceLeDiff, Nat.reduceMul, Nat.reduceSub, BEq.rfl, beq_self_eq_true, Int.reduceToNat]; done)
    · (simp only [hb, cond_false] at hR)
      refine AWP.skip ?_
      refine AWP.seq ?_
      refine AWP.regS G_ok laws_FnExactPutItem_DD hc (by kernel_rfl) (fun K hK => ?_); simp only [ea, absV, absVL, gv, sv, laws_markItemS_sub, laws_markItemS_sub, D_laws_szItemS, D_laws_toItemS, D_laws_eqItemS, D_laws_markItemS, D_laws_heldItemS, D_spec_PutItem, D_impl_PutItem, reduceCtorEq, reduceIte, Nat.reduceBEq, Nat.reduceAdd, Nat.reduceEqDiff, Nat.reduceLT, Nat.reduceLeDiff, Nat.reduceMul, Nat.reduceSub, BEq.rfl, beq_self_eq_true, Int.reduceToNat]
      (refine hK _ ?_)
      clear hK K
      refine AWP.seq ?_
      refine AWP.regS G_ok laws_FnExactPutItem_DD hc (by kernel_rfl) (fun K hK => ?_); simp only [ea, absV, absVL, gv, sv, laws_markItemS_sub, laws_markItemS_sub, D_laws_szItemS, D_laws_toItemS, D_laws_eqItemS, D_laws_markItemS, D_laws_heldItemS, D_spec_PutItem, D_impl_PutItem, reduceCtorEq, reduceIte, Nat.reduceBEq, Nat.reduceAdd, Nat.reduceEqDiff, Nat.reduceLT, Nat.reduceLeDiff, Nat.reduceMul, Nat.reduceSub, BEq.rfl, beq_self_eq_true, Int.reduceToNat]
      (refine hK _ ?_)
      clear hK K
      refine AWP.seq ?_
      refine AWP.seq ?_
      refine AWP.regS G_ok laws_FnExactPutItem_DD hc (by kernel_rfl) (fun K hK => ?_); simp only [ea, absV, absVL, gv, sv, laws_markItemS_sub, laws_markItemS_sub, D_laws_szItemS, D_laws_toItemS, D_laws_eqItemS, D_laws_markItemS, D_laws_heldItemS, D_spec_PutItem, D_impl_PutItem, reduceCtorEq, reduceIte, Nat.reduceBEq, Nat.reduceAdd, Nat.reduceEqDiff, Nat.reduceLT, Nat.reduceLeDiff, Nat.reduceMul, Nat.reduceSub, BEq.rfl, beq_self_eq_true, Int.reduceToNat]
      (refine hK _ ?_)
      clear hK K
      refine AWP.cond rfl (fun hb => ?_) (fun hb => ?_)
      · (simp only [hb, cond_true] at hR)
        refine AWP.seq ?_
        refine AWP.regS G_ok laws_FnExactPutItem_DD hc (by kernel_rfl) (fun K hK => ?_); simp only [ea, absV, absVL, gv, sv, laws_markItemS_sub, laws_markItemS_sub, D_laws_szItemS, D_laws_toItemS, D_laws_eqItemS, D_laws_markItemS, D_laws_heldItemS, D_spec_PutItem, D_impl_PutItem, reduceCtorEq, reduceIte, Nat.reduceBEq, Nat.reduceAdd, Nat.reduceEqDiff, Nat.reduceLT, Nat.reduceLeDiff, Nat.reduceMul, Nat.reduceSub, BEq.rfl, beq_self_eq_true, Int.reduceToNat]
        (refine hK _ ?_)
        clear hK K
        refine AWP.ret ?_
        subst hR
        (simp only [en, si, ea, gv, sv, hk, reduceCtorEq, reduceIte, Nat.reduceBEq, Nat.reduceAdd, Nat.reduceEqDiff, Nat.reduceLT, Nat.reduceLeDiff, Nat.reduceMul, Nat.reduceSub, BEq.rfl, beq_self_eq_true, Int.reduceToNat]; done)
      · (simp only [hb, cond_false] at hR)
        refine AWP.skip ?_
        refine AWP.seq ?_
        refine AWP.regS G_ok laws_FnExactPutItem_DD hc (by kernel_rfl) (fun K hK => ?_); simp only [ea, absV, absVL, gv, sv, laws_markItemS_sub, laws_markItemS_sub, D_laws_szItemS, D_laws_toItemS, D_laws_eqItemS, D_laws_markItemS, D_laws_heldItemS, D_spec_PutItem, D_impl_PutItem, reduceCtorEq, reduceIte, Nat.reduceBEq, Nat.reduceAdd, Nat.reduceEqDiff, Nat.reduceLT, Nat.reduceLeDiff, Nat.reduceMul, Nat.reduceSub, BEq.rfl, beq_self_eq_true, Int.reduceToNat]
        (refine ⟨by (((try clear hK K); (repeat' first | apply And.intro | intro _) <;> first | omega | (simp only [ob, ln, bdv, laws_toItemS_id, laws_markItemS_len, sv] at *; first | omega | (simp_all; done)))), hK _ ?_⟩)
        clear hK K
        refine AWP.seq ?_
        refine AWP.regS G_ok laws_FnExactPutItem_DD hc (by kernel_rfl) (fun K hK => ?_); simp only [ea, absV, absVL, gv, sv, laws_markItemS_sub, laws_markItemS_sub, D_laws_szItemS, D_laws_toItemS, D_laws_eqItemS, D_laws_markItemS, D_laws_heldItemS, D_spec_PutItem, D_impl_PutItem, reduceCtorEq, reduceIte, Nat.reduceBEq, Nat.reduceAdd, Nat.reduceEqDiff, Nat.reduceLT, Nat.reduceLeDiff, Nat.reduceMul, Nat.reduceSub, BEq.rfl, beq_self_eq_true, Int.reduceToNat]
        (refine ⟨by (((try clear hK K); (repeat' first | apply And.intro | intro _) <;> (simp only [ob, ln, bdv, laws_toItemS_id, laws_markItemS_len, sv] at *; first | omega | (simp_all; done)))), hK _ ?_⟩)
        clear hK K
        refine AWP.seq ?_
        refine AWP.regS G_ok laws_FnExactPutItem_DD hc (by kernel_rfl) (fun K hK => ?_); simp only [ea, absV, absVL, gv, sv, laws_markItemS_sub, laws_markItemS_sub, D_laws_szItemS, D_laws_toItemS, D_laws_eqItemS, D_laws_markItemS, D_laws_heldItemS, D_spec_PutItem, D_impl_PutItem, reduceCtorEq, reduceIte, Nat.reduceBEq, Nat.reduceAdd, Nat.reduceEqDiff, Nat.reduceLT, Nat.reduceLeDiff, Nat.reduceMul, Nat.reduceSub, BEq.rfl, beq_self_eq_true, Int.reduceToNat]
        (refine ⟨by (((try clear hK K); (repeat' first | apply And.intro | intro _) <;> first | omega | (simp only [ob, ln, bdv, laws_toItemS_id, laws_markItemS_len, sv] at *; first | omega | (simp_all; done)))), hK _ ?_⟩)
        clear hK K
        refine AWP.seq ?_
        refine AWP.seq ?_
        refine AWP.regS G_ok laws_FnExactPutItem_DD hc (by kernel_rfl) (fun K hK => ?_); simp only [ea, absV, absVL, gv, sv, laws_markItemS_sub, laws_markItemS_sub, D_laws_szItemS, D_laws_toItemS, D_laws_eqItemS, D_laws_markItemS, D_laws_heldItemS, D_spec_PutItem, D_impl_PutItem, reduceCtorEq, reduceIte, Nat.reduceBEq, Nat.reduceAdd, Nat.reduceEqDiff, Nat.reduceLT, Nat.reduceLeDiff, Nat.reduceMul, Nat.reduceSub, BEq.rfl, beq_self_eq_true, Int.reduceToNat]
        (refine ⟨by (omega), hK _ ?_⟩)
        clear hK K
        refine AWP.cond rfl (fun hb => ?_) (fun hb => ?_)
        · (simp only [hb, cond_true] at hR)
          refine AWP.seq ?_
          refine AWP.regS G_ok laws_FnExactPutItem_DD hc (by kernel_rfl) (fun K hK => ?_); simp only [ea, absV, absVL, gv, sv, laws_markItemS_sub, laws_markItemS_sub, D_laws_szItemS, D_laws_toItemS, D_laws_eqItemS, D_laws_markItemS, D_laws_heldItemS, D_spec_PutItem, D_impl_PutItem, reduceCtorEq, reduceIte, Nat.reduceBEq, Nat.reduceAdd, Nat.reduceEqDiff, Nat.reduceLT, Nat.reduceLeDiff, Nat.reduceMul, Nat.reduceSub, BEq.rfl, beq_self_eq_true, Int.reduceToNat]
          (refine hK _ ?_)
          clear hK K
          refine AWP.ret ?_
          subst hR
          (simp only [en, si, ea, gv, sv, hk, reduceCtorEq, reduceIte, Nat.reduceBEq, Nat.reduceAdd, Nat.reduceEqDiff, Nat.reduceLT, Nat.reduceLeDiff, Nat.reduceMul, Nat.reduceSub, BEq.rfl, beq_self_eq_true, Int.reduceToNat]; done)
        · (simp only [hb, cond_false] at hR)
          refine AWP.skip ?_
          refine AWP.seq ?_
          refine AWP.seq ?_
          refine AWP.regS G_ok laws_FnExactPutItem_DD hc (by kernel_rfl) (fun K hK => ?_); simp only [ea, absV, absVL, gv, sv, laws_markItemS_sub, laws_markItemS_sub, D_laws_szItemS, D_laws_toItemS, D_laws_eqItemS, D_laws_markItemS, D_laws_heldItemS, D_spec_PutItem, D_impl_PutItem, reduceCtorEq, reduceIte, Nat.reduceBEq, Nat.reduceAdd, Nat.reduceEqDiff, Nat.reduceLT, Nat.reduceLeDiff, Nat.reduceMul, Nat.reduceSub, BEq.rfl, beq_self_eq_true, Int.reduceToNat]
          (refine ⟨by (((try clear hK K); (repeat' first | apply And.intro | intro _) <;> first | omega | (simp only [ob, ln, bdv, laws_toItemS_id, laws_markItemS_len, sv] at *; first | omega | (simp_all; done)))), hK _ ?_⟩)
          clear hK K
          refine AWP.cond rfl (fun hb => ?_) (fun hb => ?_)
          · (simp only [hb, cond_true] at hR)
            refine AWP.seq ?_
            refine AWP.regS G_ok laws_FnExactPutItem_DD hc (by kernel_rfl) (fun K hK => ?_); simp only [ea, absV, absVL, gv, sv, laws_markItemS_sub, laws_markItemS_sub, D_laws_szItemS, D_laws_toItemS, D_laws_eqItemS, D_laws_markItemS, D_laws_heldItemS, D_spec_PutItem, D_impl_PutItem, reduceCtorEq, reduceIte, Nat.reduceBEq, Nat.reduceAdd, Nat.reduceEqDiff, Nat.reduceLT, Nat.reduceLeDiff, Nat.reduceMul, Nat.reduceSub, BEq.rfl, beq_self_eq_true, Int.reduceToNat]
            (refine hK _ ?_)
            clear hK K
            refine AWP.ret ?_
            subst hR
            (simp only [en, si, ea, gv, sv, hk, reduceCtorEq, reduceIte, Nat.reduceBEq, Nat.reduceAdd, Nat.reduceEqDiff, Nat.reduceLT, Nat.reduceLeDiff, Nat.reduceMul, Nat.reduceSub, BEq.rfl, beq_self_eq_true, Int.reduceToNat]; done)
          · (simp only [hb, cond_false] at hR)
            refine AWP.skip ?_
            refine AWP.seq ?_
            refine AWP.regS G_ok laws_FnExactPutItem_DD hc (by kernel_rfl) (fun K hK => ?_); simp only [ea, absV, absVL, gv, sv, laws_markItemS_sub, laws_markItemS_sub, D_laws_szItemS, D_laws_toItemS, D_laws_eqItemS, D_laws_markItemS, D_laws_heldItemS, D_spec_PutItem, D_impl_PutItem, reduceCtorEq, reduceIte, Nat.reduceBEq, Nat.reduceAdd, Nat.reduceEqDiff, Nat.reduceLT, Nat.reduceLeDiff, Nat.reduceMul, Nat.reduceSub, BEq.rfl, beq_self_eq_true, Int.reduceToNat]
            (refine hK _ ?_)
            clear hK K
            refine AWP.seq ?_
            refine AWP.regS G_ok laws_FnExactPutItem_DD hc (by kernel_rfl) (fun K hK => ?_); simp only [ea, absV, absVL, gv, sv, laws_markItemS_sub, laws_markItemS_sub, D_laws_szItemS, D_laws_toItemS, D_laws_eqItemS, D_laws_markItemS, D_laws_heldItemS, D_spec_PutItem, D_impl_PutItem, reduceCtorEq, reduceIte, Nat.reduceBEq, Nat.reduceAdd, Nat.reduceEqDiff, Nat.reduceLT, Nat.reduceLeDiff, Nat.reduceMul, Nat.reduceSub, BEq.rfl, beq_self_eq_true, Int.reduceToNat]
            (refine ⟨by (((try clear hK K); (repeat' (apply And.intro)) <;> first | trivial | omega | (simp only [ob, ln, bdv, laws_toItemS_id, laws_markItemS_len, sv] at *; omega))), hK _ ?_⟩)
            clear hK K
            refine AWP.seq ?_
            refine AWP.seq ?_
            refine AWP.regS G_ok laws_FnExactPutItem_DD hc (by kernel_rfl) (fun K hK => ?_); simp only [ea, absV, absVL, gv, sv, laws_markItemS_sub, laws_markItemS_sub, D_laws_szItemS, D_laws_toItemS, D_laws_eqItemS, D_laws_markItemS, D_laws_heldItemS, D_spec_PutItem, D_impl_PutItem, reduceCtorEq, reduceIte, Nat.reduceBEq, Nat.reduceAdd, Nat.reduceEqDiff, Nat.reduceLT, Nat.reduceLeDiff, Nat.reduceMul, Nat.reduceSub, BEq.rfl, beq_self_eq_true, Int.reduceToNat]
            (refine ⟨by (omega), hK _ ?_⟩)
            clear hK K
            refine AWP.cond rfl (fun hb => ?_) (fun hb => ?_)
            · (simp only [hb, cond_true] at hR)
              refine AWP.seq ?_
              refine AWP.regS G_ok laws_FnExactPutItem_DD hc (by kernel_rfl) (fun K hK => ?_); simp only [ea, absV, absVL, gv, sv, laws_markItemS_sub, laws_markItemS_sub, D_laws_szItemS, D_laws_toItemS, D_laws_eqItemS, D_laws_markItemS, D_laws_heldItemS, D_spec_PutItem, D_impl_PutItem, reduceCtorEq, reduceIte, Nat.reduceBEq, Nat.reduceAdd, Nat.reduceEqDiff, Nat.reduceLT, Nat.reduceLeDiff, Nat.reduceMul, Nat.reduceSub, BEq.rfl, beq_self_eq_true, Int.reduceToNat]
              (refine hK _ ?_)
              clear hK K
              refine AWP.ret ?_
              subst hR
              (simp only [en, si, ea, gv, sv, hk, reduceCtorEq, reduceIte, Nat.reduceBEq, Nat.reduceAdd, Nat.reduceEqDiff, Nat.reduceLT, Nat.reduceLeDiff, Nat.reduceMul, Nat.reduceSub, BEq.rfl, beq_self_eq_true, Int.reduceToNat]; done)
            · (simp only [hb, cond_false] at hR)
              refine AWP.skip ?_
              refine AWP.seq ?_
              refine AWP.regS G_ok laws_FnExactPutItem_DD hc (by kernel_rfl) (fun K hK => ?_); simp only [ea, absV, absVL, gv, sv, laws_markItemS_sub, laws_markItemS_sub, D_laws_szItemS, D_laws_toItemS, D_laws_eqItemS, D_laws_markItemS, D_laws_heldItemS, D_spec_PutItem, D_impl_PutItem, reduceCtorEq, reduceIte, Nat.reduceBEq, Nat.reduceAdd, Nat.reduceEqDiff, Nat.reduceLT, Nat.reduceLeDiff, Nat.reduceMul, Nat.reduceSub, BEq.rfl, beq_self_eq_true, Int.reduceToNat]
              (refine hK _ ?_)
              clear hK K
              refine AWP.seq ?_
              refine AWP.regS G_ok laws_FnExactPutItem_DD hc (by kernel_rfl) (fun K hK => ?_); simp only [ea, absV, absVL, gv, sv, laws_markItemS_sub, laws_markItemS_sub, D_laws_szItemS, D_laws_toItemS, D_laws_eqItemS, D_laws_markItemS, D_laws_heldItemS, D_spec_PutItem, D_impl_PutItem, reduceCtorEq, reduceIte, Nat.reduceBEq, Nat.reduceAdd, Nat.reduceEqDiff, Nat.reduceLT, Nat.reduceLeDiff, Nat.reduceMul, Nat.reduceSub, BEq.rfl, beq_self_eq_true, Int.reduceToNat]
              (refine ⟨by (((try clear hK K); (repeat' (apply And.intro)) <;> first | trivial | omega | (simp only [ob, ln, bdv, laws_toItemS_id, laws_markItemS_len, sv] at *; (grind [laws_markItemS_len, laws_markItemS_len, impl_PutItem_len])))), hK _ ?_⟩)
              clear hK K
              refine AWP.seq ?_
              refine AWP.regS G_ok laws_FnExactPutItem_DD hc (by kernel_rfl) (fun K hK => ?_); simp only [ea, absV, absVL, gv, sv, laws_markItemS_sub, laws_markItemS_sub, D_laws_szItemS, D_laws_toItemS, D_laws_eqItemS, D_laws_markItemS, D_laws_heldItemS, D_spec_PutItem, D_impl_PutItem, reduceCtorEq, reduceIte, Nat.reduceBEq, Nat.reduceAdd, Nat.reduceEqDiff, Nat.reduceLT, Nat.reduceLeDiff, Nat.reduceMul, Nat.reduceSub, BEq.rfl, beq_self_eq_true, Int.reduceToNat]
              (refine hK _ ?_)
              clear hK K
              refine AWP.seq ?_
              refine AWP.regS G_ok laws_FnExactPutItem_DD hc (by kernel_rfl) (fun K hK => ?_); simp only [ea, absV, absVL, gv, sv, laws_markItemS_sub, laws_markItemS_sub, D_laws_szItemS, D_laws_toItemS, D_laws_eqItemS, D_laws_markItemS, D_laws_heldItemS, D_spec_PutItem, D_impl_PutItem, reduceCtorEq, reduceIte, Nat.reduceBEq, Nat.reduceAdd, Nat.reduceEqDiff, Nat.reduceLT, Nat.reduceLeDiff, Nat.reduceMul, Nat.reduceSub, BEq.rfl, beq_self_eq_true, Int.reduceToNat]
              (refine ⟨by (((try clear hK K); (repeat' (apply And.intro)) <;> first | trivial | (simp only [ob, ln, bdv, laws_toItemS_id, laws_markItemS_len, sv] at *; first | done | grind [laws_markItemS_len, laws_markItemS_len, impl_PutItem_len]))), hK _ ?_⟩)
              clear hK K
              refine AWP.seq ?_
              refine AWP.seq ?_
              refine AWP.regS G_ok laws_FnExactPutItem_DD hc (by kernel_rfl) (fun K hK => ?_); simp only [ea, absV, absVL, gv, sv, laws_markItemS_sub, laws_markItemS_sub, D_laws_szItemS, D_laws_toItemS, D_laws_eqItemS, D_laws_markItemS, D_laws_heldItemS, D_spec_PutItem, D_impl_PutItem, reduceCtorEq, reduceIte, Nat.reduceBEq, Nat.reduceAdd, Nat.reduceEqDiff, Nat.reduceLT, Nat.reduceLeDiff, Nat.reduceMul, Nat.reduceSub, BEq.rfl, beq_self_eq_true, Int.reduceToNat]
              (refine hK _ ?_)
              clear hK K
              refine AWP.cond rfl (fun hb => ?_) (fun hb => ?_)
              · (simp only [hb, cond_true] at hR)
                refine AWP.seq ?_
                refine AWP.regS G_ok laws_FnExactPutItem_DD hc (by kernel_rfl) (fun K hK => ?_); simp only [ea, absV, absVL, gv, sv, laws_markItemS_sub, laws_markItemS_sub, D_laws_szItemS, D_laws_toItemS, D_laws_eqItemS, D_laws_markItemS, D_laws_heldItemS, D_spec_PutItem, D_impl_PutItem, reduceCtorEq, reduceIte, Nat.reduceBEq, Nat.reduceAdd, Nat.reduceEqDiff, Nat.reduceLT, Nat.reduceLeDiff, Nat.reduceMul, Nat.reduceSub, BEq.rfl, beq_self_eq_true, Int.reduceToNat]
                (refine hK _ ?_)
                clear hK K
                refine AWP.ret ?_
                subst hR
                (simp only [en, si, ea, gv, sv, hk, reduceCtorEq, reduceIte, Nat.reduceBEq, Nat.reduceAdd, Nat.reduceEqDiff, Nat.reduceLT, Nat.reduceLeDiff, Nat.reduceMul, Nat.reduceSub, BEq.rfl, beq_self_eq_true, Int.reduceToNat]; done)
              · (simp only [hb, cond_false] at hR)
                refine AWP.skip ?_
                refine AWP.seq ?_
                refine AWP.seq ?_
                refine AWP.regS G_ok laws_FnExactPutItem_DD hc (by kernel_rfl) (fun K hK => ?_); simp only [ea, absV, absVL, gv, sv, laws_markItemS_sub, laws_markItemS_sub, D_laws_szItemS, D_laws_toItemS, D_laws_eqItemS, D_laws_markItemS, D_laws_heldItemS, D_spec_PutItem, D_impl_PutItem, reduceCtorEq, reduceIte, Nat.reduceBEq, Nat.reduceAdd, Nat.reduceEqDiff, Nat.reduceLT, Nat.reduceLeDiff, Nat.reduceMul, Nat.reduceSub, BEq.rfl, beq_self_eq_true, Int.reduceToNat]
                (refine hK _ ?_)
                clear hK K
                refine AWP.cond rfl (fun hb => ?_) (fun hb => ?_)
                · (simp only [hb, cond_true] at hR)
                  refine AWP.seq ?_
                  refine AWP.regS G_ok laws_FnExactPutItem_DD hc (by kernel_rfl) (fun K hK => ?_); simp only [ea, absV, absVL, gv, sv, laws_markItemS_sub, laws_markItemS_sub, D_laws_szItemS, D_laws_toItemS, D_laws_eqItemS, D_laws_markItemS, D_laws_heldItemS, D_spec_PutItem, D_impl_PutItem, reduceCtorEq, reduceIte, Nat.reduceBEq, Nat.reduceAdd, Nat.reduceEqDiff, Nat.reduceLT, Nat.reduceLeDiff, Nat.reduceMul, Nat.reduceSub, BEq.rfl, beq_self_eq_true, Int.reduceToNat]
                  (refine hK _ ?_)
                  clear hK K
                  refine AWP.ret ?_
                  subst hR
                  (simp only [en, si, ea, gv, sv, hk, reduceCtorEq, reduceIte, Nat.reduceBEq, Nat.reduceAdd, Nat.reduceEqDiff, Nat.reduceLT, Nat.reduceLeDiff, Nat.reduceMul, Nat.reduceSub, BEq.rfl, beq_self_eq_true, Int.reduceToNat]; done)
                · (simp only [hb, cond_false] at hR)
                  refine AWP.skip ?_
                  refine AWP.seq ?_
                  refine AWP.regS G_ok laws_FnExactPutItem_DD hc (by kernel_rfl) (fun K hK => ?_); simp only [ea, absV, absVL, gv, sv, laws_markItemS_sub, laws_markItemS_sub, D_laws_szItemS, D_laws_toItemS, D_laws_eqItemS, D_laws_markItemS, D_laws_heldItemS, D_spec_PutItem, D_impl_PutItem, reduceCtorEq, reduceIte, Nat.reduceBEq, Nat.reduceAdd, Nat.reduceEqDiff, Nat.reduceLT, Nat.reduceLeDiff, Nat.reduceMul, Nat.reduceSub, BEq.rfl, beq_self_eq_true, Int.reduceToNat]
                  (refine ⟨by (((try clear hK K); (repeat' first | apply And.intro | intro _) <;> first | omega | (simp only [ob, ln, bdv, laws_toItemS_id, laws_markItemS_len, sv] at *; first | omega | (simp_all; done)))), hK _ ?_⟩)
                  clear hK K
                  refine AWP.seq ?_
                  refine AWP.seq ?_
                  refine AWP.regS G_ok laws_FnExactPutItem_DD hc (by kernel_rfl) (fun K hK => ?_); simp only [ea, absV, absVL, gv, sv, laws_markItemS_sub, laws_markItemS_sub, D_laws_szItemS, D_laws_toItemS, D_laws_eqItemS, D_laws_markItemS, D_laws_heldItemS, D_spec_PutItem, D_impl_PutItem, reduceCtorEq, reduceIte, Nat.reduceBEq, Nat.reduceAdd, Nat.reduceEqDiff, Nat.reduceLT, Nat.reduceLeDiff, Nat.reduceMul, Nat.reduceSub, BEq.rfl, beq_self_eq_true, Int.reduceToNat]
                  (refine ⟨by (omega), hK _ ?_⟩)
                  clear hK K
                  refine AWP.cond rfl (fun hb => ?_) (fun hb => ?_)
                  · exfalso; simp_all
                  · refine AWP.skip ?_
                    refine AWP.seq ?_
                    refine AWP.regS G_ok laws_FnExactPutItem_DD hc (by kernel_rfl) (fun K hK => ?_); simp only [ea, absV, absVL, gv, sv, laws_markItemS_sub, laws_markItemS_sub, D_laws_szItemS, D_laws_toItemS, D_laws_eqItemS, D_laws_markItemS, D_laws_heldItemS, D_spec_PutItem, D_impl_PutItem, reduceCtorEq, reduceIte, Nat.reduceBEq, Nat.reduceAdd, Nat.reduceEqDiff, Nat.reduceLT, Nat.reduceLeDiff, Nat.reduceMul, Nat.reduceSub, BEq.rfl, beq_self_eq_true, Int.reduceToNat]
                    (refine hK _ ?_)
                    clear hK K
                    refine AWP.seq ?_
                    refine AWP.regS G_ok laws_FnExactPutItem_DD hc (by kernel_rfl) (fun K hK => ?_); simp only [ea, absV, absVL, gv, sv, laws_markItemS_sub, laws_markItemS_sub, D_laws_szItemS, D_laws_toItemS, D_laws_eqItemS, D_laws_markItemS, D_laws_heldItemS, D_spec_PutItem, D_impl_PutItem, reduceCtorEq, reduceIte, Nat.reduceBEq, Nat.reduceAdd, Nat.reduceEqDiff, Nat.reduceLT, Nat.reduceLeDiff, Nat.reduceMul, Nat.reduceSub, BEq.rfl, beq_self_eq_true, Int.reduceToNat]
                    (refine ⟨by (((try clear hK K); (repeat' (apply And.intro)) <;> first | trivial | (simp only [ob, ln, bdv, laws_toItemS_id, laws_markItemS_len, sv] at *; first | done | grind [laws_markItemS_len, laws_markItemS_len, impl_PutItem_len]))), hK _ ?_⟩)
                    clear hK K
                    refine AWP.seq ?_
                    refine AWP.seq ?_
                    refine AWP.regS G_ok laws_FnExactPutItem_DD hc (by kernel_rfl) (fun K hK => ?_); simp only [ea, absV, absVL, gv, sv, laws_markItemS_sub, laws_markItemS_sub, D_laws_szItemS, D_laws_toItemS, D_laws_eqItemS, D_laws_markItemS, D_laws_heldItemS, D_spec_PutItem, D_impl_PutItem, reduceCtorEq, reduceIte, Nat.reduceBEq, Nat.reduceAdd, Nat.reduceEqDiff, Nat.reduceLT, Nat.reduceLeDiff, Nat.reduceMul, Nat.reduceSub, BEq.rfl, beq_self_eq_true, Int.reduceToNat]
                    (refine hK _ ?_)
                    clear hK K
                    refine AWP.cond rfl (fun hb => ?_) (fun hb => ?_)
                    · exfalso; simp_all
                    · refine AWP.skip ?_
                      refine AWP.seq ?_
                      refine AWP.seq ?_
                      refine AWP.regS G_ok laws_FnExactPutItem_DD hc (by kernel_rfl) (fun K hK => ?_); simp only [ea, absV, absVL, gv, sv, laws_markItemS_sub, laws_markItemS_sub, D_laws_szItemS, D_laws_toItemS, D_laws_eqItemS, D_laws_markItemS, D_laws_heldItemS, D_spec_PutItem, D_impl_PutItem, reduceCtorEq, reduceIte, Nat.reduceBEq, Nat.reduceAdd, Nat.reduceEqDiff, Nat.reduceLT, Nat.reduceLeDiff, Nat.reduceMul, Nat.reduceSub, BEq.rfl, beq_self_eq_true, Int.reduceToNat]
                      (refine hK _ ?_)
                      clear hK K
                      refine AWP.cond rfl (fun hb => ?_) (fun hb => ?_)
                      · exfalso; simp_all
                      · refine AWP.skip ?_
                        refine AWP.seq ?_
                        refine AWP.regS G_ok laws_FnExactPutItem_DD hc (by kernel_rfl) (fun K hK => ?_); simp only [ea, absV, absVL, gv, sv, laws_markItemS_sub, laws_markItemS_sub, D_laws_szItemS, D_laws_toItemS, D_laws_eqItemS, D_laws_markItemS, D_laws_heldItemS, D_spec_PutItem, D_impl_PutItem, reduceCtorEq, reduceIte, Nat.reduceBEq, Nat.reduceAdd, Nat.reduceEqDiff, Nat.reduceLT, Nat.reduceLeDiff, Nat.reduceMul, Nat.reduceSub, BEq.rfl, beq_self_eq_true, Int.reduceToNat]
                        (refine hK _ ?_)
                        clear hK K
                        refine AWP.ret ?_
                        subst hR
                        (simp only [en, si, ea, gv, sv, hk, reduceCtorEq, reduceIte, Nat.reduceBEq, Nat.reduceAdd, Nat.reduceEqDiff, Nat.reduceLT, Nat.reduceLeDiff, Nat.reduceMul, Nat.reduceSub, BEq.rfl, beq_self_eq_true, Int.reduceToNat]; done)

def D_laws_FnExactPutItem : DF
  | [x0, x1, x2] => some (.bool (laws_FnExactPutItem (rdL dItem x0) (rdS x1) (rdS x2)), false, [wL 2 eItem dItem x0, wS x1, wS x2])
  | _ => none
theorem D_laws_FnExactPutItem_ok : OkD Try.prog 5 D_laws_FnExactPutItem := by
  intro xs r z ob h ho
  unfold D_laws_FnExactPutItem at h
  split at h
  · simp only [Option.some.injEq, Prod.mk.injEq] at h
    obtain ⟨rfl, rfl, rfl⟩ := h
    obtain ⟨h0, h1, h2, _⟩ := ho
    exact Den.sim (laws_FnExactPutItem_den _ _ _ ) (simOL_cons (wL_sim h0).1 <| simOL_cons (wS_sim h1).1 <| simOL_cons (wS_sim h2).1 <| trivial) (noIdL_cons (wL_sim h0).2 <| noIdL_cons (wS_sim h1).2 <| noIdL_cons (wS_sim h2).2 <| rfl) rfl
  · cases h
end Go.Ab

namespace Go.Ab
open Go Go.Proofs
theorem spec_MergeItems_DD : DOk Try.prog (DD [(75, dP D_spec_l24Ok), (76, dP D_spec_l24Put)]) := DD_cons D_spec_l24Ok_ok.e <| DD_cons D_spec_l24Put_ok.e <| DD_nil _
def spec_MergeItems_b1 (a0 : (List Item)) (a1 : (List Item)) (i1 : Nat) (s1 : List Item) : Except (((List Item) × Int)) (List Item) :=
  .ok (spec_l24Put s1 (a1.getD i1 default))

def spec_MergeItems (a0 : (List Item)) (a1 : (List Item)) : ((List Item) × Int) :=
  (bif ((!(spec_l24Ok a0)) || (!(spec_l24Ok a1))) then ([], 1) else (match loopR (spec_MergeItems_b1 a0 a1) (a1.length - 0) 0 (([] : List Item) ++ a0) with | .error e => e | .ok s1 => (bif decide (40 < (s1.length : Int)) then ([], 5) else (s1, 0))))

theorem spec_MergeItems_den (a0 : (List Item)) (a1 : (List Item)) (hb0 : a0.length < 1099511627776) (hb1 : ∀ v ∈ a0, bdItem v) (hb2 : a1.length < 1099511627776) (hb3 : ∀ v ∈ a1, bdItem v) : Den Try.prog 21 [encL 2 eItem a0, encL 2 eItem a1] (.tup [ownL 103 2 eItem ((spec_MergeItems a0 a1).1), .int .i64 ((spec_MergeItems a0 a1).2)]) := by
  generalize hR : spec_MergeItems a0 a1 = r
  unfold spec_MergeItems at hR
  refine den_intro G_ok Try.func21 (by kernel_rfl) rfl Try.ntmps21 (by rw [Try.results21]) (by simp) rfl ?_
  intro c hL hc hk
  obtain ⟨hL0, hL1, _⟩ := hL
  have hw0 : a0.length < 9223372036854775808 := Nat.lt_succ_of_le (lens_encL hL0).1
  have hw1 : ∀ v ∈ a0, bwItem v := fun v hv => Item_lens v ((lens_encL hL0).2 v hv)
  have hw2 : a1.length < 9223372036854775808 := Nat.lt_succ_of_le (lens_encL hL1).1
  have hw3 : ∀ v ∈ a1, bwItem v := fun v hv => Item_lens v ((lens_encL hL1).2 v hv)
  clear hL0 hL1
  simp only [pars, Nat.zero_add]
  refine AWP.seq ?_
  refine AWP.regS G_ok spec_MergeItems_DD hc (by kernel_rfl) (fun K hK => ?_); simp only [ea, gv, sv, D_spec_l24Ok, D_spec_l24Put, reduceCtorEq, reduceIte, Nat.reduceBEq, Nat.reduceAdd, Nat.reduceEqDiff, Nat.reduceLT, Nat.reduceLeDiff, Nat.reduceMul, Nat.reduceSub, BEq.rfl, beq_self_eq_true, Int.reduceToNat]
  (refine hK _ ?_)
  clear hK K
  refine AWP.seq ?_
  refine AWP.seq ?_
  refine AWP.regS G_ok spec_MergeItems_DD hc (by kernel_rfl) (fun K hK => ?_); simp only [ea, gv, sv, D_spec_l24Ok, D_spec_l24Put, reduceCtorEq, reduceIte, Nat.reduceBEq, Nat.reduceAdd, Nat.reduceEqDiff, Nat.reduceLT, Nat.reduceLeDiff, Nat.reduceMul, Nat.reduceSub, BEq.rfl, beq_self_eq_true, Int.reduceToNat]
  (refine hK _ ?_)
  clear hK K
  refine AWP.cond rfl (fun hb => ?_) (fun hb => ?_)
  · (simp only [hb, cond_true] at hR)
    refine AWP.seq ?_
    refine AWP.regS G_ok spec_MergeItems_DD hc (by kernel_rfl) (fun K hK => ?_); simp only [ea, gv, sv, D_spec_l24Ok, D_spec_l24Put, reduceCtorEq, reduceIte, Nat.reduceBEq, Nat.reduceAdd, Nat.reduceEqDiff, Nat.reduceLT, Nat.reduceLeDiff, Nat.reduceMul, Nat.reduceSub, BEq.rfl, beq_self_eq_true, Int.reduceToNat]
    (refine hK _ ?_)
    clear hK K
    refine AWP.ret ?_
    subst hR
    (simp only [en, si, ea, gv, sv, hk, reduceCtorEq, reduceIte, Nat.reduceBEq, Nat.reduceAdd, Nat.reduceEqDiff, Nat.reduceLT, Nat.reduceLeDiff, Nat.reduceMul, Nat.reduceSub, BEq.rfl, beq_self_eq_true, Int.reduceToNat]; done)
  · (simp only [hb, cond_false] at hR)
    refine AWP.skip ?_
    refine AWP.seq ?_
    refine AWP.regS G_ok spec_MergeItems_DD hc (by kernel_rfl) (fun K hK => ?_); simp only [ea, gv, sv, D_spec_l24Ok, D_spec_l24Put, reduceCtorEq, reduceIte, Nat.reduceBEq, Nat.reduceAdd, Nat.reduceEqDiff, Nat.reduceLT, Nat.reduceLeDiff, Nat.reduceMul, Nat.reduceSub, BEq.rfl, beq_self_eq_true, Int.reduceToNat]
    (refine ⟨by (omega), hK _ ?_⟩)
    clear hK K
    refine AWP.seq ?_
    refine AWP.seq ?_
    refine AWP.regS G_ok spec_MergeItems_DD hc (by kernel_rfl) (fun K hK => ?_); simp only [ea, gv, sv, D_spec_l24Ok, D_spec_l24Put, reduceCtorEq, reduceIte, Nat.reduceBEq, Nat.reduceAdd, Nat.reduceEqDiff, Nat.reduceLT, Nat.reduceLeDiff, Nat.reduceMul, Nat.reduceSub, BEq.rfl, beq_self_eq_true, Int.reduceToNat]
    (refine hK _ ?_)
    clear hK K
    refine AWP.block ?_
    generalize hz1 : loopR (spec_MergeItems_b1 a0 a1) (a1.length - 0) 0 (([] : List Item) ++ a0) = z1 at hR
    refine AWP.range (spec_MergeItems_b1 a0 a1) (fun i1 s1 => ⟨[(1, encL 2 eItem a1), (6, .ref 0 2 0 s1.length), (7, .int .i64 (i1 : Int))], [.arr 103 2 s1.length (fun j => eItem (s1.getD j default))]⟩) (fun i1 s1 => s1.length ≤ a0.length + i1 ∧ ∀ v ∈ s1, bdItem v) (a1.length) 0 (([] : List Item) ++ a0) [1] hz1 (by (omega)) (by ((and_intros <;> first | trivial | (simp only [ob, ln, bdv, sv] at *; omega)))) (by (simp only [si, ea, gv, sv, hk, reduceCtorEq, reduceIte, Nat.reduceBEq, Nat.reduceAdd, Nat.reduceEqDiff, Nat.reduceLT, Nat.reduceLeDiff, Nat.reduceMul, Nat.reduceSub, BEq.rfl, beq_self_eq_true, Int.reduceToNat]; (and_intros <;> first | rfl | trivial | (intro j hj; simp only [pw, Bool.cond_eq_ite, Bool.and_eq_true, decide_eq_true_eq]; (try rw [subL_getD _ _ _ _ (by assumption)]); (try rw [clearL_getD _ _ _ _ (by omega)]); (repeat' split) <;> first | rfl | omega)))) ?_
    clear hz1
    intro i1 s1 hi1 hW1 hz1
    have hV1 := hW1; obtain ⟨hV1_0, hV1_1⟩ := hV1
    refine AWP.seq ?_
    refine AWP.seq ?_
    refine AWP.regS G_ok spec_MergeItems_DD hc (by kernel_rfl) (fun K hK => ?_); simp only [ea, gv, sv, D_spec_l24Ok, D_spec_l24Put, reduceCtorEq, reduceIte, Nat.reduceBEq, Nat.reduceAdd, Nat.reduceEqDiff, Nat.reduceLT, Nat.reduceLeDiff, Nat.reduceMul, Nat.reduceSub, BEq.rfl, beq_self_eq_true, Int.reduceToNat]
    (refine hK _ ?_)
    clear hK K
    refine AWP.cond rfl (fun hb => ?_) (fun hb => ?_)
    · have hlt1 : i1 < a1.length := by ((simp only [ob, ln, bdv, sv] at *; omega))
      rw [loopR_lt hlt1] at hz1; simp only [spec_MergeItems_b1] at hz1
      refine AWP.skip ?_
      refine AWP.seq ?_
      refine AWP.block ?_
      refine AWP.regS G_ok spec_MergeItems_DD hc (by kernel_rfl) (fun K hK => ?_); simp only [ea, gv, sv, D_spec_l24Ok, D_spec_l24Put, reduceCtorEq, reduceIte, Nat.reduceBEq, Nat.reduceAdd, Nat.reduceEqDiff, Nat.reduceLT, Nat.reduceLeDiff, Nat.reduceMul, Nat.reduceSub, BEq.rfl, beq_self_eq_true, Int.reduceToNat]
      (refine ⟨by (((try clear hK K); (repeat' first | apply And.intro | intro _) <;> first | omega | (simp only [ob, ln, bdv, sv] at *; first | (simp_all; done) | grind [spec_l24Ok_len]))), hK _ ?_⟩)
      clear hK K
      refine AWP.regS G_ok spec_MergeItems_DD hc (by kernel_rfl) (fun K hK => ?_); simp only [ea, gv, sv, D_spec_l24Ok, D_spec_l24Put, reduceCtorEq, reduceIte, Nat.reduceBEq, Nat.reduceAdd, Nat.reduceEqDiff, Nat.reduceLT, Nat.reduceLeDiff, Nat.reduceMul, Nat.reduceSub, BEq.rfl, beq_self_eq_true, Int.reduceToNat]
      (refine hK _ ?_)
      clear hK K
      exact ⟨_, [1], hlt1, by (refine ⟨by have := (spec_l24Put_fact s1 (a1.getD i1 default)).1; omega, fun v hv => ?_⟩; rcases (spec_l24Put_fact _ _).2 v hv with h | h; exact hW1.2 v h; subst h; exact bd_getD hb3 (by decide) _), hz1, by (simp only [si, ea, gv, sv, hk, reduceCtorEq, reduceIte, Nat.reduceBEq, Nat.reduceAdd, Nat.reduceEqDiff, Nat.reduceLT, Nat.reduceLeDiff, Nat.reduceMul, Nat.reduceSub, BEq.rfl, beq_self_eq_true, Int.reduceToNat]; (and_intros <;> first | trivial | (rw [IntKind.wrap_i64]; omega)))⟩
    · obtain rfl : i1 = a1.length := by ((simp only [ob, ln, bdv, sv] at *; omega))
      rw [loopR_ge (Nat.le_refl _)] at hz1; subst hz1; dsimp only at hR
      refine AWP.exit ?_; refine exitTo_here ?_
      refine AWP.seq ?_
      refine AWP.seq ?_
      refine AWP.regS G_ok spec_MergeItems_DD hc (by kernel_rfl) (fun K hK => ?_); simp only [ea, gv, sv, D_spec_l24Ok, D_spec_l24Put, reduceCtorEq, reduceIte, Nat.reduceBEq, Nat.reduceAdd, Nat.reduceEqDiff, Nat.reduceLT, Nat.reduceLeDiff, Nat.reduceMul, Nat.reduceSub, BEq.rfl, beq_self_eq_true, Int.reduceToNat]
      (refine hK _ ?_)
      clear hK K
      refine AWP.cond rfl (fun hb => ?_) (fun hb => ?_)
      · (simp only [hb, cond_true] at hR)
        refine AWP.seq ?_
        refine AWP.regS G_ok spec_MergeItems_DD hc (by kernel_rfl) (fun K hK => ?_); simp only [ea, gv, sv, D_spec_l24Ok, D_spec_l24Put, reduceCtorEq, reduceIte, Nat.reduceBEq, Nat.reduceAdd, Nat.reduceEqDiff, Nat.reduceLT, Nat.reduceLeDiff, Nat.reduceMul, Nat.reduceSub, BEq.rfl, beq_self_eq_true, Int.reduceToNat]
        (refine hK _ ?_)
        clear hK K
        refine AWP.ret ?_
        subst hR
        (simp only [en, si, ea, gv, sv, hk, reduceCtorEq, reduceIte, Nat.reduceBEq, Nat.reduceAdd, Nat.reduceEqDiff, Nat.reduceLT, Nat.reduceLeDiff, Nat.reduceMul, Nat.reduceSub, BEq.rfl, beq_self_eq_true, Int.reduceToNat]; done)
      · (simp only [hb, cond_false] at hR)
        refine AWP.skip ?_
        refine AWP.seq ?_
        refine AWP.regS G_ok spec_MergeItems_DD hc (by kernel_rfl) (fun K hK => ?_); simp only [ea, gv, sv, D_spec_l24Ok, D_spec_l24Put, reduceCtorEq, reduceIte, Nat.reduceBEq, Nat.reduceAdd, Nat.reduceEqDiff, Nat.reduceLT, Nat.reduceLeDiff, Nat.reduceMul, Nat.reduceSub, BEq.rfl, beq_self_eq_true, Int.reduceToNat]
        (refine hK _ ?_)
        clear hK K
        refine AWP.ret ?_
        subst hR
        (simp only [en, si, ea, gv, sv, hk, reduceCtorEq, reduceIte, Nat.reduceBEq, Nat.reduceAdd, Nat.reduceEqDiff, Nat.reduceLT, Nat.reduceLeDiff, Nat.reduceMul, Nat.reduceSub, BEq.rfl, beq_self_eq_true, Int.reduceToNat]; (and_intros <;> omega))

def D_spec_MergeItems : DF
  | [x0, x1] => some (.tup [ownL 103 2 eItem ((spec_MergeItems (rdL dItem x0) (rdL dItem x1)).1), .int .i64 ((spec_MergeItems (rdL dItem x0) (rdL dItem x1)).2)], false, [wL 2 eItem dItem x0, wL 2 eItem dItem x1, (rdL dItem x0).length < 1099511627776, ∀ v ∈ (rdL dItem x0), bdItem v, (rdL dItem x1).length < 1099511627776, ∀ v ∈ (rdL dItem x1), bdItem v])
  | _ => none
def Dz_spec_MergeItems : DF
  | [x0, x1] => some (.tup [ownL 103 2 eItem ((spec_MergeItems (rdL dItem x0) (rdL dItem x1)).1), .int .i64 ((spec_MergeItems (rdL dItem x0) (rdL dItem x1)).2)], true, [wL 2 eItem dItem x0, wL 2 eItem dItem x1, (rdL dItem x0).length < 1099511627776, ∀ v ∈ (rdL dItem x0), bdItem v, (rdL dItem x1).length < 1099511627776, ∀ v ∈ (rdL dItem x1), bdItem v])
  | _ => none
theorem D_spec_MergeItems_ok : OkD Try.prog 21 D_spec_MergeItems := by
  intro xs r z ob h ho
  unfold D_spec_MergeItems at h
  split at h
  · simp only [Option.some.injEq, Prod.mk.injEq] at h
    obtain ⟨rfl, rfl, rfl⟩ := h
    obtain ⟨h0, h1, hb0, hb1, hb2, hb3, _⟩ := ho
    exact Den.sim (spec_MergeItems_den _ _ hb0 hb1 hb2 hb3) (simOL_cons (wL_sim h0).1 <| simOL_cons (wL_sim h1).1 <| trivial) (noIdL_cons (wL_sim h0).2 <| noIdL_cons (wL_sim h1).2 <| rfl) rfl
  · cases h

theorem Dz_spec_MergeItems_ok : OkD Try.prog 21 Dz_spec_MergeItems := by
  intro xs r z ob h ho
  unfold Dz_spec_MergeItems at h
  split at h
  · simp only [Option.some.injEq, Prod.mk.injEq] at h
    obtain ⟨rfl, rfl, rfl⟩ := h
    obtain ⟨h0, h1, hb0, hb1, hb2, hb3, _⟩ := ho
    exact Den.sim (spec_MergeItems_den _ _ hb0 hb1 hb2 hb3) (simOL_cons (wL_sim h0).1 <| simOL_cons (wL_sim h1).1 <| trivial) (noIdL_cons (wL_sim h0).2 <| noIdL_cons (wL_sim h1).2 <| rfl) rfl
  · cases h
end Go.Ab

namespace Go.Ab
open Go Go.Proofs
theorem laws_FnExactMergeItems_DD : DOk Try.prog (DD [(20, dP D_laws_szItemS), (21, dP D_spec_MergeItems), (22, dP D_laws_toItemS), (23, dP D_impl_MergeItems), (24, dP D_laws_eqItemS), (25, dM [true, false] D_laws_markItemS), (26, dP D_laws_heldItemS)]) := DD_cons D_laws_szItemS_ok.e <| DD_cons D_spec_MergeItems_ok.e <| DD_cons D_laws_toItemS_ok.e <| DD_cons D_impl_MergeItems_ok.e <| DD_cons D_laws_eqItemS_ok.e <| DD_cons D_laws_markItemS_ok.e <| DD_cons D_laws_heldItemS_ok.e <| DD_nil _
def laws_FnExactMergeItems (a0 : (List Item)) (a1 : (List Item)) : Bool :=
  (bif decide ((laws_szItemS a0 1048576) < 0) then true else (bif decide ((laws_szItemS a1 (laws_szItemS a0 1048576)) < 0) then true else (bif ((!(laws_eqItemS ((impl_MergeItems (laws_toItemS a0) (laws_toItemS a1)).1) ((spec_MergeItems (laws_toItemS a0) (laws_toItemS a1)).1))) || (((impl_MergeItems (laws_toItemS a0) (laws_toItemS a1)).2) != ((spec_MergeItems (laws_toItemS a0) (laws_toItemS a1)).2))) then false else (bif (!(laws_eqItemS (laws_toItemS a0) (laws_toItemS a0))) then false else (bif (!(laws_eqItemS (laws_toItemS a1) (laws_toItemS a1))) then false else (bif ((decide (((laws_markItemS (laws_toItemS a1) ((laws_markItemS (laws_toItemS a0) 1).1)).1) < 0) || (!(laws_eqItemS ((impl_MergeItems (laws_toItemS a0) (laws_toItemS a1)).1) ((spec_MergeItems (laws_toItemS a0) (laws_toItemS a1)).1)))) || (((impl_MergeItems (laws_toItemS a0) (laws_toItemS a1)).2) != ((spec_MergeItems (laws_toItemS a0) (laws_toItemS a1)).2))) then false else (bif decide ((laws_heldItemS ((laws_markItemS ((impl_MergeItems (laws_toItemS a0) (laws_toItemS a1)).1) 1).2) 1) < 0) then false else (bif ((laws_heldItemS ((laws_markItemS ((impl_MergeItems (laws_toItemS a0) (laws_toItemS a1)).1) 1).2) 1) != ((laws_markItemS ((impl_MergeItems (laws_toItemS a0) (laws_toItemS a1)).1) 1).1)) then false else true))))))))

set_option maxHeartbeats 1000000 in
theorem laws_FnExactMergeItems_den (a0 : (List Item)) (a1 : (List Item))  : Den Try.prog 4 [encL 2 eItem a0, encL 2 eItem a1] (.bool (laws_FnExactMergeItems a0 a1)) := by
  generalize hR : laws_FnExactMergeItems a0 a1 = r
  unfold laws_FnExactMergeItems at hR
  refine den_intro G_ok Try.func4 (by kernel_rfl) rfl Try.ntmps4 (by rw [Try.results4]) (by simp) rfl ?_
  intro c hL hc hk
  obtain ⟨hL0, hL1, _⟩ := hL
  have hw0 : a0.length < 9223372036854775808 := Nat.lt_succ_of_le (lens_encL hL0).1
  have hw1 : ∀ v ∈ a0, bwItem v := fun v hv => Item_lens v ((lens_encL hL0).2 v hv)
  have hw2 : a1.length < 9223372036854775808 := Nat.lt_succ_of_le (lens_encL hL1).1
  have hw3 : ∀ v ∈ a1, bwItem v := fun v hv => Item_lens v ((lens_encL hL1).2 v hv)
  clear hL0 hL1
  simp only [pars, Nat.zero_add]
  have hf0 := laws_szItemS_facts a0 (1048576) (by omega) (by omega) hw0 hw1
  have hf1 := laws_szItemS_facts a1 (laws_szItemS a0 (1048576)) (by omega) (by omega) hw2 hw3
  have hm0 : ∀ h : ¬ laws_szItemS a0 1048576 < 0, (laws_markItemS a0 1).1 = 1 + 2 * a0.length ∧ a0.length ≤ 1048576 := fun h => ⟨laws_markItemS_k a0 1 (by omega) (by omega) (by have := (hf0.2.2 h).1; omega), (hf0.2.2 h).1⟩
  refine AWP.seq ?_
  refine AWP.regS G_ok laws_FnExactMergeItems_DD hc (by kernel_rfl) (fun K hK => ?_); simp only [ea, absV, absVL, gv, sv, laws_markItemS_sub, laws_markItemS_sub, D_laws_szItemS, D_spec_MergeItems, D_laws_toItemS, D_impl_MergeItems, D_laws_eqItemS, D_laws_markItemS, D_laws_heldItemS, reduceCtorEq, reduceIte, Nat.reduceBEq, Nat.reduceAdd, Nat.reduceEqDiff, Nat.reduceLT, Nat.reduceLeDiff, Nat.reduceMul, Nat.reduceSub, BEq.rfl, beq_self_eq_true, Int.reduceToNat]
  (refine hK _ ?_)
  clear hK K
  refine AWP.seq ?_
  refine AWP.regS G_ok laws_FnExactMergeItems_DD hc (by kernel_rfl) (fun K hK => ?_); simp only [ea, absV, absVL, gv, sv, laws_markItemS_sub, laws_markItemS_sub, D_laws_szItemS, D_spec_MergeItems, D_laws_toItemS, D_impl_MergeItems, D_laws_eqItemS, D_laws_markItemS, D_laws_heldItemS, reduceCtorEq, reduceIte, Nat.reduceBEq, Nat.reduceAdd, Nat.reduceEqDiff, Nat.reduceLT, Nat.reduceLeDiff, Nat.reduceMul, Nat.reduceSub, BEq.rfl, beq_self_eq_true, Int.reduceToNat]
  (refine hK _ ?_)
  clear hK K
  refine AWP.seq ?_
  refine AWP.regS G_ok laws_FnExactMergeItems_DD hc (by kernel_rfl) (fun K hK => ?_); simp only [ea, absV, absVL, gv, sv, laws_markItemS_sub, laws_markItemS_sub, D_laws_szItemS, D_spec_MergeItems, D_laws_toItemS, D_impl_MergeItems, D_laws_eqItemS, D_laws_markItemS, D_laws_heldItemS, reduceCtorEq, reduceIte, Nat.reduceBEq, Nat.reduceAdd, Nat.reduceEqDiff, Nat.reduceLT, Nat.reduceLeDiff, Nat.reduceMul, Nat.reduceSub, BEq.rfl, beq_self_eq_true, Int.reduceToNat]
  (refine hK _ ?_)
  clear hK K
  refine AWP.seq ?_
  refine AWP.seq ?_
  refine AWP.regS G_ok laws_FnExactMergeItems_DD hc (by kernel_rfl) (fun K hK => ?_); simp only [ea, absV, absVL, gv, sv, laws_markItemS_sub, laws_markItemS_sub, D_laws_szItemS, D_spec_MergeItems, D_laws_toItemS, D_impl_MergeItems, D_laws_eqItemS, D_laws_markItemS, D_laws_heldItemS, reduceCtorEq, reduceIte, Nat.reduceBEq, Nat.reduceAdd, Nat.reduceEqDiff, Nat.reduceLT, Nat.reduceLeDiff, Nat.reduceMul, Nat.reduceSub, BEq.rfl, beq_self_eq_true, Int.reduceToNat]
  (refine hK _ ?_)
  clear hK K
  refine AWP.cond rfl (fun hb => ?_) (fun hb => ?_)
  · (simp only [hb, cond_true] at hR)
    refine AWP.seq ?_
    refine AWP.regS G_ok laws_FnExactMergeItems_DD hc (by kernel_rfl) (fun K hK => ?_); simp only [ea, absV, absVL, gv, sv, laws_markItemS_sub, laws_markItemS_sub, D_laws_szItemS, D_spec_MergeItems, D_laws_toItemS, D_impl_MergeItems, D_laws_eqItemS, D_laws_markItemS, D_laws_heldItemS, reduceCtorEq, reduceIte, Nat.reduceBEq, Nat.reduceAdd, Nat.reduceEqDiff, Nat.reduceLT, Nat.reduceLeDiff, Nat.reduceMul, Nat.reduceSub, BEq.rfl, beq_self_eq_true, Int.reduceToNat]
    (refine hK _ ?_)
    clear hK K
    refine AWP.ret ?_
    subst hR
    (simp only [en, si, ea, gv, sv, hk, reduceCtorEq, reduceIte, Nat.reduceBEq, Nat.reduceAdd, Nat.reduceEqDiff, Nat.reduceLT, Nat.reduceLeDiff, Nat.reduceMul, Nat.reduceSub, BEq.rfl, beq_self_eq_true, Int.reduceToNat]; done)
  · (simp only [hb, cond_false] at hR)
    refine AWP.skip ?_
    refine AWP.seq ?_
    refine AWP.regS G_ok laws_FnExactMergeItems_DD hc (by kernel_rfl) (fun K hK => ?_); simp only [ea, absV, absVL, gv, sv, laws_markItemS_sub, laws_markItemS_sub, D_laws_szItemS, D_spec_MergeItems, D_laws_toItemS, D_impl_MergeItems, D_laws_eqItemS, D_laws_markItemS, D_laws_heldItemS, reduceCtorEq, reduceIte, Nat.reduceBEq, Nat.reduceAdd, Nat.reduceEqDiff, Nat.reduceLT, Nat.reduceLeDiff, Nat.reduceMul, Nat.reduceSub, BEq.rfl, beq_self_eq_true, Int.reduceToNat]
    (refine hK _ ?_)
    clear hK K
    refine AWP.seq ?_
    refine AWP.seq ?_
    refine AWP.regS G_ok laws_FnExactMergeItems_DD hc (by kernel_rfl) (fun K hK => ?_); simp only [ea, absV, absVL, gv, sv, laws_markItemS_sub, laws_markItemS_sub, D_laws_szItemS, D_spec_MergeItems, D_laws_toItemS, D_impl_MergeItems, D_laws_eqItemS, D_laws_markItemS, D_laws_heldItemS, reduceCtorEq, reduceIte, Nat.reduceBEq, Nat.reduceAdd, Nat.reduceEqDiff, Nat.reduceLT, Nat.reduceLeDiff, Nat.reduceMul, Nat.reduceSub, BEq.rfl, beq_self_eq_true, Int.reduceToNat]
    (refine hK _ ?_)
    clear hK K
    refine AWP.cond rfl (fun hb => ?_) (fun hb => ?_)
    · (simp only [hb, cond_true] at hR)
      refine AWP.seq ?_
      refine AWP.regS G_ok laws_FnExactMergeItems_DD hc (by kernel_rfl) (fun K hK => ?_); simp only [ea, absV, absVL, gv, sv, laws_markItemS_sub, laws_markItemS_sub, D_laws_szItemS, D_spec_MergeItems, D_laws_toItemS, D_impl_MergeItems, D_laws_eqItemS, D_laws_markItemS, D_laws_heldItemS, reduceCtorEq, reduceIte, Nat.reduceBEq, Nat.reduceAdd, Nat.reduceEqDiff, Nat.reduceLT, Nat.reduceLeDiff, Nat.reduceMul, Nat.reduceSub, BEq.rfl, beq_self_eq_true, Int.reduceToNat]
      (refine hK _ ?_)
      clear hK K
      refine AWP.ret ?_
      subst hR
      (simp only [en, si, ea, gv, sv, hk, reduceCtorEq, reduceIte, Nat.reduceBEq, Nat.reduceAdd, Nat.reduceEqDiff, Nat.reduceLT, Nat.reduceLeDiff, Nat.reduceMul, Nat.reduceSub, BEq.rfl, beq_self_eq_true, Int.reduceToNat]; done)
    · (simp only [hb, cond_false] at hR)
      refine AWP.skip ?_
      refine AWP.seq ?_
      refine AWP.regS G_ok laws_FnExactMergeItems_DD hc (by kernel_rfl) (fun K hK => ?_); simp only [ea, absV, absVL, gv, sv, laws_markItemS_sub, laws_markItemS_sub, D_laws_szItemS, D_spec_MergeItems, D_laws_toItemS, D_impl_MergeItems, D_laws_eqItemS, D_laws_markItemS, D_laws_heldItemS, reduceCtorEq, reduceIte, Nat.reduceBEq, Nat.reduceAdd, Nat.reduceEqDiff, Nat.reduceLT, Nat.reduceLeDiff, Nat.reduceMul, Nat.reduceSub, BEq.rfl, beq_self_eq_true, Int.reduceToNat]
      (refine ⟨by (((try clear hK K); (repeat' first | apply And.intro | intro _) <;> first | omega | (simp only [ob, ln, bdv, laws_toItemS_id, laws_markItemS_len, sv] at *; first | omega | (simp_all; done)))), hK _ ?_⟩)
      clear hK K
      refine AWP.seq ?_
      refine AWP.regS G_ok laws_FnExactMergeItems_DD hc (by kernel_rfl) (fun K hK => ?_); simp only [ea, absV, absVL, gv, sv, laws_markItemS_sub, laws_markItemS_sub, D_laws_szItemS, D_spec_MergeItems, D_laws_toItemS, D_impl_MergeItems, D_laws_eqItemS, D_laws_markItemS, D_laws_heldItemS, reduceCtorEq, reduceIte, Nat.reduceBEq, Nat.reduceAdd, Nat.reduceEqDiff, Nat.reduceLT, Nat.reduceLeDiff, Nat.reduceMul, Nat.reduceSub, BEq.rfl, beq_self_eq_true, Int.reduceToNat]
      (refine ⟨by (((try clear hK K); (repeat' first | apply And.intro | intro _) <;> (simp only [ob, ln, bdv, laws_toItemS_id, laws_markItemS_len, sv] at *; first | omega | (simp_all; done)))), hK _ ?_⟩)
      clear hK K
      refine AWP.seq ?_
      refine AWP.regS G_ok laws_FnExactMergeItems_DD hc (by kernel_rfl) (fun K hK => ?_); simp only [ea, absV, absVL, gv, sv, laws_markItemS_sub, laws_markItemS_sub, D_laws_szItemS, D_spec_MergeItems, D_laws_toItemS, D_impl_MergeItems, D_laws_eqItemS, D_laws_markItemS, D_laws_heldItemS, reduceCtorEq, reduceIte, Nat.reduceBEq, Nat.reduceAdd, Nat.reduceEqDiff, Nat.reduceLT, Nat.reduceLeDiff, Nat.reduceMul, Nat.reduceSub, BEq.rfl, beq_self_eq_true, Int.reduceToNat]
      (refine ⟨by (((try clear hK K); (repeat' first | apply And.intro | intro _) <;> (simp only [ob, ln, bdv, laws_toItemS_id, laws_markItemS_len, sv] at *; first | omega | (simp_all; done)))), hK _ ?_⟩)
      clear hK K
      refine AWP.seq ?_
      refine AWP.regS G_ok laws_FnExactMergeItems_DD hc (by kernel_rfl) (fun K hK => ?_); simp only [ea, absV, absVL, gv, sv, laws_markItemS_sub, laws_markItemS_sub, D_laws_szItemS, D_spec_MergeItems, D_laws_toItemS, D_impl_MergeItems, D_laws_eqItemS, D_laws_markItemS, D_laws_heldItemS, reduceCtorEq, reduceIte, Nat.reduceBEq, Nat.reduceAdd, Nat.reduceEqDiff, Nat.reduceLT, Nat.reduceLeDiff, Nat.reduceMul, Nat.reduceSub, BEq.rfl, beq_self_eq_true, Int.reduceToNat]
      (refine ⟨by (((try clear hK K); (repeat' first | apply And.intro | intro _) <;> first | omega | (simp only [ob, ln, bdv, laws_toItemS_id, laws_markItemS_len, sv] at *; first | omega | (simp_all; done)))), hK _ ?_⟩)
      clear hK K
      refine AWP.seq ?_
      refine AWP.seq ?_
      refine AWP.regS G_ok laws_FnExactMergeItems_DD hc (by kernel_rfl) (fun K hK => ?_); simp only [ea, absV, absVL, gv, sv, laws_markItemS_sub, laws_markItemS_sub, D_laws_szItemS, D_spec_MergeItems, D_laws_toItemS, D_impl_MergeItems, D_laws_eqItemS, D_laws_markItemS, D_laws_heldItemS, reduceCtorEq, reduceIte, Nat.reduceBEq, Nat.reduceAdd, Nat.reduceEqDiff, Nat.reduceLT, Nat.reduceLeDiff, Nat.reduceMul, Nat.reduceSub, BEq.rfl, beq_self_eq_true, Int.reduceToNat]
      (refine ⟨by (omega), hK _ ?_⟩)
      clear hK K
      refine AWP.cond rfl (fun hb => ?_) (fun hb => ?_)
      · (simp only [hb, cond_true] at hR)
        refine AWP.seq ?_
        refine AWP.regS G_ok laws_FnExactMergeItems_DD hc (by kernel_rfl) (fun K hK => ?_); simp only [ea, absV, absVL, gv, sv, laws_markItemS_sub, laws_markItemS_sub, D_laws_szItemS, D_spec_MergeItems, D_laws_toItemS, D_impl_MergeItems, D_laws_eqItemS, D_laws_markItemS, D_laws_heldItemS, reduceCtorEq, reduceIte, Nat.reduceBEq, Nat.reduceAdd, Nat.reduceEqDiff, Nat.reduceLT, Nat.reduceLeDiff, Nat.reduceMul, Nat.reduceSub, BEq.rfl, beq_self_eq_true, Int.reduceToNat]
        (refine hK _ ?_)
        clear hK K
        refine AWP.ret ?_
        subst hR
        (simp only [en, si, ea, gv, sv, hk, reduceCtorEq, reduceIte, Nat.reduceBEq, Nat.reduceAdd, Nat.reduceEqDiff, Nat.reduceLT, Nat.reduceLeDiff, Nat.reduceMul, Nat.reduceSub, BEq.rfl, beq_self_eq_true, Int.reduceToNat]; done)
      · (simp only [hb, cond_false] at hR)
        refine AWP.skip ?_
        refine AWP.seq ?_
        refine AWP.seq ?_
        refine AWP.regS G_ok laws_FnExactMergeItems_DD hc (by kernel_rfl) (fun K hK => ?_); simp only [ea, absV, absVL, gv, sv, laws_markItemS_sub, laws_markItemS_sub, D_laws_szItemS, D_spec_MergeItems, D_laws_toItemS, D_impl_MergeItems, D_laws_eqItemS, D_laws_markItemS, D_laws_heldItemS, reduceCtorEq, reduceIte, Nat.reduceBEq, Nat.reduceAdd, Nat.reduceEqDiff, Nat.reduceLT, Nat.reduceLeDiff, Nat.reduceMul, Nat.reduceSub, BEq.rfl, beq_self_eq_true, Int.reduceToNat]
        (refine ⟨by (((try clear hK K); (repeat' first | apply And.intro | intro _) <;> first | omega | (simp only [ob, ln, bdv, laws_toItemS_id, laws_markItemS_len, sv] at *; first | omega | (simp_all; done)))), hK _ ?_⟩)
        clear hK K
        refine AWP.cond rfl (fun hb => ?_) (fun hb => ?_)
        · (simp only [hb, cond_true] at hR)
          refine AWP.seq ?_
          refine AWP.regS G_ok laws_FnExactMergeItems_DD hc (by kernel_rfl) (fun K hK => ?_); simp only [ea, absV, absVL, gv, sv, laws_markItemS_sub, laws_markItemS_sub, D_laws_szItemS, D_spec_MergeItems, D_laws_toItemS, D_impl_MergeItems, D_laws_eqItemS, D_laws_markItemS, D_laws_heldItemS, reduceCtorEq, reduceIte, Nat.reduceBEq, Nat.reduceAdd, Nat.reduceEqDiff, Nat.reduceLT, Nat.reduceLeDiff, Nat.reduceMul, Nat.reduceSub, BEq.rfl, beq_self_eq_true, Int.reduceToNat]
          (refine hK _ ?_)
          clear hK K
          refine AWP.ret ?_
          subst hR
          (simp only [en, si, ea, gv, sv, hk, reduceCtorEq, reduceIte, Nat.reduceBEq, Nat.reduceAdd, Nat.reduceEqDiff, Nat.reduceLT, Nat.reduceLeDiff, Nat.reduceMul, Nat.reduceSub, BEq.rfl, beq_self_eq_true, Int.reduceToNat]; done)
        · (simp only [hb, cond_false] at hR)
          refine AWP.skip ?_
          refine AWP.seq ?_
          refine AWP.seq ?_
          refine AWP.regS G_ok laws_FnExactMergeItems_DD hc (by kernel_rfl) (fun K hK => ?_); simp only [ea, absV, absVL, gv, sv, laws_markItemS_sub, laws_markItemS_sub, D_laws_szItemS, D_spec_MergeItems, D_laws_toItemS, D_impl_MergeItems, D_laws_eqItemS, D_laws_markItemS, D_laws_heldItemS, reduceCtorEq, reduceIte, Nat.reduceBEq, Nat.reduceAdd, Nat.reduceEqDiff, Nat.reduceLT, Nat.reduceLeDiff, Nat.reduceMul, Nat.reduceSub, BEq.rfl, beq_self_eq_true, Int.reduceToNat]
          (refine ⟨by (((try clear hK K); (repeat' first | apply And.intro | intro _) <;> first | omega | (simp only [ob, ln, bdv, laws_toItemS_id, laws_markItemS_len, sv] at *; first | omega | (simp_all; done)))), hK _ ?_⟩)
          clear hK K
          refine AWP.cond rfl (fun hb => ?_) (fun hb => ?_)
          · (simp only [hb, cond_true] at hR)
            refine AWP.seq ?_
            refine AWP.regS G_ok laws_FnExactMergeItems_DD hc (by kernel_rfl) (fun K hK => ?_); simp only [ea, absV, absVL, gv, sv, laws_markItemS_sub, laws_markItemS_sub, D_laws_szItemS, D_spec_MergeItems, D_laws_toItemS, D_impl_MergeItems, D_laws_eqItemS, D_laws_markItemS, D_laws_heldItemS, reduceCtorEq, reduceIte, Nat.reduceBEq, Nat.reduceAdd, Nat.reduceEqDiff, Nat.reduceLT, Nat.reduceLeDiff, Nat.reduceMul, Nat.reduceSub, BEq.rfl, beq_self_eq_true, Int.reduceToNat]
            (refine hK _ ?_)
            clear hK K
            refine AWP.ret ?_
            subst hR
            (simp only [en, si, ea, gv, sv, hk, reduceCtorEq, reduceIte, Nat.reduceBEq, Nat.reduceAdd, Nat.reduceEqDiff, Nat.reduceLT, Nat.reduceLeDiff, Nat.reduceMul, Nat.reduceSub, BEq.rfl, beq_self_eq_true, Int.reduceToNat]; done)
          · (simp only [hb, cond_false] at hR)
            refine AWP.skip ?_
            refine AWP.seq ?_
            refine AWP.regS G_ok laws_FnExactMergeItems_DD hc (by kernel_rfl) (fun K hK => ?_); simp only [ea, absV, absVL, gv, sv, laws_markItemS_sub, laws_markItemS_sub, D_laws_szItemS, D_spec_MergeItems, D_laws_toItemS, D_impl_MergeItems, D_laws_eqItemS, D_laws_markItemS, D_laws_heldItemS, reduceCtorEq, reduceIte, Nat.reduceBEq, Nat.reduceAdd, Nat.reduceEqDiff, Nat.reduceLT, Nat.reduceLeDiff, Nat.reduceMul, Nat.reduceSub, BEq.rfl, beq_self_eq_true, Int.reduceToNat]
            (refine hK _ ?_)
            clear hK K
            refine AWP.seq ?_
            refine AWP.regS G_ok laws_FnExactMergeItems_DD hc (by kernel_rfl) (fun K hK => ?_); simp only [ea, absV, absVL, gv, sv, laws_markItemS_sub, laws_markItemS_sub, D_laws_szItemS, D_spec_MergeItems, D_laws_toItemS, D_impl_MergeItems, D_laws_eqItemS, D_laws_markItemS, D_laws_heldItemS, reduceCtorEq, reduceIte, Nat.reduceBEq, Nat.reduceAdd, Nat.reduceEqDiff, Nat.reduceLT, Nat.reduceLeDiff, Nat.reduceMul, Nat.reduceSub, BEq.rfl, beq_self_eq_true, Int.reduceToNat]
            (refine ⟨by (((try clear hK K); (repeat' (apply And.intro)) <;> first | trivial | omega | (simp only [ob, ln, bdv, laws_toItemS_id, laws_markItemS_len, sv] at *; omega))), hK _ ?_⟩)
            clear hK K
            refine AWP.seq ?_
            refine AWP.regS G_ok laws_FnExactMergeItems_DD hc (by kernel_rfl) (fun K hK => ?_); simp only [ea, absV, absVL, gv, sv, laws_markItemS_sub, laws_markItemS_sub, D_laws_szItemS, D_spec_MergeItems, D_laws_toItemS, D_impl_MergeItems, D_laws_eqItemS, D_laws_markItemS, D_laws_heldItemS, reduceCtorEq, reduceIte, Nat.reduceBEq, Nat.reduceAdd, Nat.reduceEqDiff, Nat.reduceLT, Nat.reduceLeDiff, Nat.reduceMul, Nat.reduceSub, BEq.rfl, beq_self_eq_true, Int.reduceToNat]
            (refine ⟨by (((try clear hK K); (repeat' (apply And.intro)) <;> first | trivial | omega | (simp only [ob, ln, bdv, laws_toItemS_id, laws_markItemS_len, sv] at *; omega))), hK _ ?_⟩)
            clear hK K
            refine AWP.seq ?_
            refine AWP.seq ?_
            refine AWP.regS G_ok laws_FnExactMergeItems_DD hc (by kernel_rfl) (fun K hK => ?_); simp only [ea, absV, absVL, gv, sv, laws_markItemS_sub, laws_markItemS_sub, D_laws_szItemS, D_spec_MergeItems, D_laws_toItemS, D_impl_MergeItems, D_laws_eqItemS, D_laws_markItemS, D_laws_heldItemS, reduceCtorEq, reduceIte, Nat.reduceBEq, Nat.reduceAdd, Nat.reduceEqDiff, Nat.reduceLT, Nat.reduceLeDiff, Nat.reduceMul, Nat.reduceSub, BEq.rfl, beq_self_eq_true, Int.reduceToNat]
            (refine ⟨by (omega), hK _ ?_⟩)
            clear hK K
            refine AWP.cond rfl (fun hb => ?_) (fun hb => ?_)
            · (simp only [hb, cond_true] at hR)
              refine AWP.seq ?_
              refine AWP.regS G_ok laws_FnExactMergeItems_DD hc (by kernel_rfl) (fun K hK => ?_); simp only [ea, absV, absVL, gv, sv, laws_markItemS_sub, laws_markItemS_sub, D_laws_szItemS, D_spec_MergeItems, D_laws_toItemS, D_impl_MergeItems, D_laws_eqItemS, D_laws_markItemS, D_laws_heldItemS, reduceCtorEq, reduceIte, Nat.reduceBEq, Nat.reduceAdd, Nat.reduceEqDiff, Nat.reduceLT, Nat.reduceLeDiff, Nat.reduceMul, Nat.reduceSub, BEq.rfl, beq_self_eq_true, Int.reduceToNat]
              (refine hK _ ?_)
              clear hK K
              refine AWP.ret ?_
              subst hR
              (simp only [en, si, ea, gv, sv, hk, reduceCtorEq, reduceIte, Nat.reduceBEq, Nat.reduceAdd, Nat.reduceEqDiff, Nat.reduceLT, Nat.reduceLeDiff, Nat.reduceMul, Nat.reduceSub, BEq.rfl, beq_self_eq_true, Int.reduceToNat]; done)
            · (simp only [hb, cond_false] at hR)
              refine AWP.skip ?_
              refine AWP.seq ?_
              refine AWP.regS G_ok laws_FnExactMergeItems_DD hc (by kernel_rfl) (fun K hK => ?_); simp only [ea, absV, absVL, gv, sv, laws_markItemS_sub, laws_markItemS_sub, D_laws_szItemS, D_spec_MergeItems, D_laws_toItemS, D_impl_MergeItems, D_laws_eqItemS, D_laws_markItemS, D_laws_heldItemS, reduceCtorEq, reduceIte, Nat.reduceBEq, Nat.reduceAdd, Nat.reduceEqDiff, Nat.reduceLT, Nat.reduceLeDiff, Nat.reduceMul, Nat.reduceSub, BEq.rfl, beq_self_eq_true, Int.reduceToNat]
              (refine hK _ ?_)
              clear hK K
              refine AWP.seq ?_
              refine AWP.regS G_ok laws_FnExactMergeItems_DD hc (by kernel_rfl) (fun K hK => ?_); simp only [ea, absV, absVL, gv, sv, laws_markItemS_sub, laws_markItemS_sub, D_laws_szItemS, D_spec_MergeItems, D_laws_toItemS, D_impl_MergeItems, D_laws_eqItemS, D_laws_markItemS, D_laws_heldItemS, reduceCtorEq, reduceIte, Nat.reduceBEq, Nat.reduceAdd, Nat.reduceEqDiff, Nat.reduceLT, Nat.reduceLeDiff, Nat.reduceMul, Nat.reduceSub, BEq.rfl, beq_self_eq_true, Int.reduceToNat]
              (refine ⟨by (((try clear hK K); (repeat' (apply And.intro)) <;> first | trivial | omega | (simp only [ob, ln, bdv, laws_toItemS_id, laws_markItemS_len, sv] at *; (grind [impl_MergeItems_len, laws_markItemS_len, laws_markItemS_len])))), hK _ ?_⟩)
              clear hK K
              refine AWP.seq ?_
              refine AWP.regS G_ok laws_FnExactMergeItems_DD hc (by kernel_rfl) (fun K hK => ?_); simp only [ea, absV, absVL, gv, sv, laws_markItemS_sub, laws_markItemS_sub, D_laws_szItemS, D_spec_MergeItems, D_laws_toItemS, D_impl_MergeItems, D_laws_eqItemS, D_laws_markItemS, D_laws_heldItemS, reduceCtorEq, reduceIte, Nat.reduceBEq, Nat.reduceAdd, Nat.reduceEqDiff, Nat.reduceLT, Nat.reduceLeDiff, Nat.reduceMul, Nat.reduceSub, BEq.rfl, beq_self_eq_true, Int.reduceToNat]
              (refine hK _ ?_)
              clear hK K
              refine AWP.seq ?_
              refine AWP.regS G_ok laws_FnExactMergeItems_DD hc (by kernel_rfl) (fun K hK => ?_); simp only [ea, absV, absVL, gv, sv, laws_markItemS_sub, laws_markItemS_sub, D_laws_szItemS, D_spec_MergeItems, D_laws_toItemS, D_impl_MergeItems, D_laws_eqItemS, D_laws_markItemS, D_laws_heldItemS, reduceCtorEq, reduceIte, Nat.reduceBEq, Nat.reduceAdd, Nat.reduceEqDiff, Nat.reduceLT, Nat.reduceLeDiff, Nat.reduceMul, Nat.reduceSub, BEq.rfl, beq_self_eq_true, Int.reduceToNat]
              (refine ⟨by (((try clear hK K); (repeat' (apply And.intro)) <;> first | trivial | (simp only [ob, ln, bdv, laws_toItemS_id, laws_markItemS_len, sv] at *; first | done | grind [impl_MergeItems_len, laws_markItemS_len, laws_markItemS_len]))), hK _ ?_⟩)
              clear hK K
              refine AWP.seq ?_
              refine AWP.seq ?_
              refine AWP.regS G_ok laws_FnExactMergeItems_DD hc (by kernel_rfl) (fun K hK => ?_); simp only [ea, absV, absVL, gv, sv, laws_markItemS_sub, laws_markItemS_sub, D_laws_szItemS, D_spec_MergeItems, D_laws_toItemS, D_impl_MergeItems, D_laws_eqItemS, D_laws_markItemS, D_laws_heldItemS, reduceCtorEq, reduceIte, Nat.reduceBEq, Nat.reduceAdd, Nat.reduceEqDiff, Nat.reduceLT, Nat.reduceLeDiff, Nat.reduceMul, Nat.reduceSub, BEq.rfl, beq_self_eq_true, Int.reduceToNat]
              (refine hK _ ?_)
              clear hK K
              refine AWP.cond rfl (fun hb => ?_) (fun hb => ?_)
              · (simp only [hb, cond_true] at hR)
                refine AWP.seq ?_
                refine AWP.regS G_ok laws_FnExactMergeItems_DD hc (by kernel_rfl) (fun K hK => ?_); simp only [ea, absV, absVL, gv, sv, laws_markItemS_sub, laws_markItemS_sub, D_laws_szItemS, D_spec_MergeItems, D_laws_toItemS, D_impl_MergeItems, D_laws_eqItemS, D_laws_markItemS, D_laws_heldItemS, reduceCtorEq, reduceIte, Nat.reduceBEq, Nat.reduceAdd, Nat.reduceEqDiff, Nat.reduceLT, Nat.reduceLeDiff, Nat.reduceMul, Nat.reduceSub, BEq.rfl, beq_self_eq_true, Int.reduceToNat]
                (refine hK _ ?_)
                clear hK K
                refine AWP.ret ?_
                subst hR
                (simp only [en, si, ea, gv, sv, hk, reduceCtorEq, reduceIte, Nat.reduceBEq, Nat.reduceAdd, Nat.reduceEqDiff, Nat.reduceLT, Nat.reduceLeDiff, Nat.reduceMul, Nat.reduceSub, BEq.rfl, beq_self_eq_true, Int.reduceToNat]; done)
              · (simp only [hb, cond_false] at hR)
                refine AWP.skip ?_
                refine AWP.seq ?_
                refine AWP.seq ?_
                refine AWP.regS G_ok laws_FnExactMergeItems_DD hc (by kernel_rfl) (fun K hK => ?_); simp only [ea, absV, absVL, gv, sv, laws_markItemS_sub, laws_markItemS_sub, D_laws_szItemS, D_spec_MergeItems, D_laws_toItemS, D_impl_MergeItems, D_laws_eqItemS, D_laws_markItemS, D_laws_heldItemS, reduceCtorEq, reduceIte, Nat.reduceBEq, Nat.reduceAdd, Nat.reduceEqDiff, Nat.reduceLT, Nat.reduceLeDiff, Nat.reduceMul, Nat.reduceSub, BEq.rfl, beq_self_eq_true, Int.reduceToNat]
                (refine hK _ ?_)
                clear hK K
                refine AWP.cond rfl (fun hb => ?_) (fun hb => ?_)
                · (simp only [hb, cond_true] at hR)
                  refine AWP.seq ?_
                  refine AWP.regS G_ok laws_FnExactMergeItems_DD hc (by kernel_rfl) (fun K hK => ?_); simp only [ea, absV, absVL, gv, sv, laws_markItemS_sub, laws_markItemS_sub, D_laws_szItemS, D_spec_MergeItems, D_laws_toItemS, D_impl_MergeItems, D_laws_eqItemS, D_laws_markItemS, D_laws_heldItemS, reduceCtorEq, reduceIte, Nat.reduceBEq, Nat.reduceAdd, Nat.reduceEqDiff, Nat.reduceLT, Nat.reduceLeDiff, Nat.reduceMul, Nat.reduceSub, BEq.rfl, beq_self_eq_true, Int.reduceToNat]
                  (refine hK _ ?_)
                  clear hK K
                  refine AWP.ret ?_
                  subst hR
                  (simp only [en, si, ea, gv, sv, hk, reduceCtorEq, reduceIte, Nat.reduceBEq, Nat.reduceAdd, Nat.reduceEqDiff, Nat.reduceLT, Nat.reduceLeDiff, Nat.reduceMul, Nat.reduceSub, BEq.rfl, beq_self_eq_true, Int.reduceToNat]; done)
                · (simp only [hb, cond_false] at hR)
                  refine AWP.skip ?_
                  refine AWP.seq ?_
                  refine AWP.regS G_ok laws_FnExactMergeItems_DD hc (by kernel_rfl) (fun K hK => ?_); simp only [ea, absV, absVL, gv, sv, laws_markItemS_sub, laws_markItemS_sub, D_laws_szItemS, D_spec_MergeItems, D_laws_toItemS, D_impl_MergeItems, D_laws_eqItemS, D_laws_markItemS, D_laws_heldItemS, reduceCtorEq, reduceIte, Nat.reduceBEq, Nat.reduceAdd, Nat.reduceEqDiff, Nat.reduceLT, Nat.reduceLeDiff, Nat.reduceMul, Nat.reduceSub, BEq.rfl, beq_self_eq_true, Int.reduceToNat]
                  (refine ⟨by (((try clear hK K); (repeat' first | apply And.intro | intro _) <;> first | omega | (simp only [ob, ln, bdv, laws_toItemS_id, laws_markItemS_len, sv] at *; first | omega | (simp_all; done)))), hK _ ?_⟩)
                  clear hK K
                  refine AWP.seq ?_
                  refine AWP.seq ?_
                  refine AWP.regS G_ok laws_FnExactMergeItems_DD hc (by kernel_rfl) (fun K hK => ?_); simp only [ea, absV, absVL, gv, sv, laws_markItemS_sub, laws_markItemS_sub, D_laws_szItemS, D_spec_MergeItems, D_laws_toItemS, D_impl_MergeItems, D_laws_eqItemS, D_laws_markItemS, D_laws_heldItemS, reduceCtorEq, reduceIte, Nat.reduceBEq, Nat.reduceAdd, Nat.reduceEqDiff, Nat.reduceLT, Nat.reduceLeDiff, Nat.reduceMul, Nat.reduceSub, BEq.rfl, beq_self_eq_true, Int.reduceToNat]
                  (refine ⟨by (omega), hK _ ?_⟩)
                  clear hK K
                  refine AWP.cond rfl (fun hb => ?_) (fun hb => ?_)
                  · exfalso; simp_all
                  · refine AWP.skip ?_
                    refine AWP.seq ?_
                    refine AWP.regS G_ok laws_FnExactMergeItems_DD hc (by kernel_rfl) (fun K hK => ?_); simp only [ea, absV, absVL, gv, sv, laws_markItemS_sub, laws_markItemS_sub, D_laws_szItemS, D_spec_MergeItems, D_laws_toItemS, D_impl_MergeItems, D_laws_eqItemS, D_laws_markItemS, D_laws_heldItemS, reduceCtorEq, reduceIte, Nat.reduceBEq, Nat.reduceAdd, Nat.reduceEqDiff, Nat.reduceLT, Nat.reduceLeDiff, Nat.reduceMul, Nat.reduceSub, BEq.rfl, beq_self_eq_true, Int.reduceToNat]
                    (refine hK _ ?_)
                    clear hK K
                    refine AWP.seq ?_
                    refine AWP.regS G_ok laws_FnExactMergeItems_DD hc (by kernel_rfl) (fun K hK => ?_); simp only [ea, absV, absVL, gv, sv, laws_markItemS_sub, laws_markItemS_sub, D_laws_szItemS, D_spec_MergeItems, D_laws_toItemS, D_impl_MergeItems, D_laws_eqItemS, D_laws_markItemS, D_laws_heldItemS, reduceCtorEq, reduceIte, Nat.reduceBEq, Nat.reduceAdd, Nat.reduceEqDiff, Nat.reduceLT, Nat.reduceLeDiff, Nat.reduceMul, Nat.reduceSub, BEq.rfl, beq_self_eq_true, Int.reduceToNat]
                    (refine ⟨by (((try clear hK K); (repeat' (apply And.intro)) <;> first | trivial | (simp only [ob, ln, bdv, laws_toItemS_id, laws_markItemS_len, sv] at *; first | done | grind [impl_MergeItems_len, laws_markItemS_len, laws_markItemS_len]))), hK _ ?_⟩)
                    clear hK K
                    refine AWP.seq ?_
                    refine AWP.seq ?_
                    refine AWP.regS G_ok laws_FnExactMergeItems_DD hc (by kernel_rfl) (fun K hK => ?_); simp only [ea, absV, absVL, gv, sv, laws_markItemS_sub, laws_markItemS_sub, D_laws_szItemS, D_spec_MergeItems, D_laws_toItemS, D_impl_MergeItems, D_laws_eqItemS, D_laws_markItemS, D_laws_heldItemS, reduceCtorEq, reduceIte, Nat.reduceBEq, Nat.reduceAdd, Nat.reduceEqDiff, Nat.reduceLT, Nat.reduceLeDiff, Nat.reduceMul, Nat.reduceSub, BEq.rfl, beq_self_eq_true, Int.reduceToNat]
                    (refine hK _ ?_)
                    clear hK K
                    refine AWP.cond rfl (fun hb => ?_) (fun hb => ?_)
                    · exfalso; simp_all
                    · refine AWP.skip ?_
                      refine AWP.seq ?_
                      refine AWP.seq ?_
                      refine AWP.regS G_ok laws_FnExactMergeItems_DD hc (by kernel_rfl) (fun K hK => ?_); simp only [ea, absV, absVL, gv, sv, laws_markItemS_sub, laws_markItemS_sub, D_laws_szItemS, D_spec_MergeItems, D_laws_toItemS, D_impl_MergeItems, D_laws_eqItemS, D_laws_markItemS, D_laws_heldItemS, reduceCtorEq, reduceIte, Nat.reduceBEq, Nat.reduceAdd, Nat.reduceEqDiff, Nat.reduceLT, Nat.reduceLeDiff, Nat.reduceMul, Nat.reduceSub, BEq.rfl, beq_self_eq_true, Int.reduceToNat]
                      (refine hK _ ?_)
                      clear hK K
                      refine AWP.cond rfl (fun hb => ?_) (fun hb => ?_)
                      · exfalso; simp_all
                      · refine AWP.skip ?_
                        refine AWP.seq ?_
                        refine AWP.regS G_ok laws_FnExactMergeItems_DD hc (by kernel_rfl) (fun K hK => ?_); simp only [ea, absV, absVL, gv, sv, laws_markItemS_sub, laws_markItemS_sub, D_laws_szItemS, D_spec_MergeItems, D_laws_toItemS, D_impl_MergeItems, D_laws_eqItemS, D_laws_markItemS, D_laws_heldItemS, reduceCtorEq, reduceIte, Nat.reduceBEq, Nat.reduceAdd, Nat.reduceEqDiff, Nat.reduceLT, Nat.reduceLeDiff, Nat.reduceMul, Nat.reduceSub, BEq.rfl, beq_self_eq_true, Int.reduceToNat]
                        (refine hK _ ?_)
                        clear hK K
                        refine AWP.ret ?_
                        subst hR
                        (simp only [en, si, ea, gv, sv, hk, reduceCtorEq, reduceIte, Nat.reduceBEq, Nat.reduceAdd, Nat.reduceEqDiff, Nat.reduceLT, Nat.reduceLeDiff, Nat.reduceMul, Nat.reduceSub, BEq.rfl, beq_self_eq_true, Int.reduceToNat]; done)

def D_laws_FnExactMergeItems : DF
  | [x0, x1] => some (.bool (laws_FnExactMergeItems (rdL dItem x0) (rdL dItem x1)), false, [wL 2 eItem dItem x0, wL 2 eItem dItem x1])
  | _ => none
theorem D_laws_FnExactMergeItems_ok : OkD Try.prog 4 D_laws_FnExactMergeItems := by
  intro xs r z ob h ho
  unfold D_laws_FnExactMergeItems at h
  split at h
  · simp only [Option.some.injEq, Prod.mk.injEq] at h
    obtain ⟨rfl, rfl, rfl⟩ := h
    obtain ⟨h0, h1, _⟩ := ho
    exact Den.sim (laws_FnExactMergeItems_den _ _ ) (simOL_cons (wL_sim h0).1 <| simOL_cons (wL_sim h1).1 <| trivial) (noIdL_cons (wL_sim h0).2 <| noIdL_cons (wL_sim h1).2 <| rfl) rfl
  · cases h
end Go.Ab

namespace Go.Ab
open Go Go.Proofs
theorem isItem_eq (x : Item) : impl_isItem x = spec_l24One x := by
  unfold impl_isItem spec_l24One
  rw [isName_eq]; rfl
theorem validItems_eq (a : List Item) : impl_ValidItems a = spec_l24Ok a := by
  unfold impl_ValidItems spec_l24Ok
  have : impl_ValidItems_b1 a = spec_l24Ok_b1 a := by
    funext i s
    unfold impl_ValidItems_b1 spec_l24Ok_b1
    rw [isItem_eq]
  rw [this]
  rfl
/-- the keys rise -/
def Rises (a : List Item) : Prop := a.Pairwise (fun x y => Op.bytesLess x.Key y.Key = true)
theorem rises_of_adj (a : List Item) (h : ∀ i, i + 1 < a.length → Op.bytesLess (a.getD i default).Key (a.getD (i + 1) default).Key = true) : Rises a := by
  induction a with
  | nil => exact List.Pairwise.nil
  | cons x t ih =>
    have ht : Rises t := ih fun i hi => by
      have := h (i + 1) (by simpa using hi)
      simpa using this
    refine List.pairwise_cons.2 ⟨?_, ht⟩
    intro y hy
    cases t with
    | nil => simp at hy
    | cons z t =>
      have h0 := h 0 (by simp)
      simp at h0
      rcases List.mem_cons.1 hy with rfl | hy
      · exact h0
      · exact less_trans _ _ _ h0 ((List.pairwise_cons.1 ht).1 y hy)
theorem rises_of_ok (a : List Item) (h : spec_l24Ok a = true) (hl : a.length < 9223372036854775808) : Rises a := by
  unfold spec_l24Ok at h
  split at h
  · rename_i e he
    obtain ⟨j, t, h1, h2, h3⟩ := loopR_error he
    simp only [spec_l24Ok_b1, Bool.cond_eq_ite] at h3
    split at h3
    · simp only [Except.error.injEq] at h3; rw [← h3] at h; cases h
    · cases h3
  · rename_i s hs
    refine rises_of_adj a fun i hi => ?_
    rcases loopR_all (b := spec_l24Ok_b1 a) (fun i => ((!(spec_l24One (a.getD i default))) || (decide (0 < (i : Int)) && !(Op.bytesLess ((a.getD ((IntKind.wrap .i64 ((i : Int) - 1)).toNat) default).Key) ((a.getD i default).Key))))) false a.length (fun j u _ => rfl) with ⟨g, _⟩ | ⟨_, g⟩
    · have := g (i + 1) hi
      simp only [Bool.or_eq_false_iff] at this
      have h2 := this.2
      rw [wrap_pred (by omega) (by omega)] at h2
      simp only [Nat.add_sub_cancel, Bool.and_eq_false_iff, decide_eq_false_iff_not, Bool.not_eq_false'] at h2
      rcases h2 with h2 | h2
      · omega
      · exact h2
    · rw [g] at hs; cases hs
/-- both ways to put an item into rising items -/
def putItem (x : Item) : List Item → List Item
  | [] => [x]
  | y :: t => bif Op.bytesLess y.Key x.Key then y :: putItem x t else (bif y.Key == x.Key then x :: t else x :: y :: t)
theorem rises_put (x : Item) : ∀ a : List Item, Rises a → Rises (putItem x a) ∧ ∀ v, v ∈ putItem x a → v ∈ a ∨ v = x
  | [], _ => by simp [putItem, Rises]
  | y :: t, h => by
    obtain ⟨h1, h2⟩ := List.pairwise_cons.1 h
    obtain ⟨i1, i2⟩ := rises_put x t h2
    simp only [putItem]
    cases hc : Op.bytesLess y.Key x.Key with
    | true =>
      refine ⟨List.pairwise_cons.2 ⟨fun v hv => ?_, i1⟩, fun v hv => ?_⟩
      · rcases i2 v hv with hv | rfl
        · exact h1 v hv
        · exact hc
      · rcases List.mem_cons.1 hv with rfl | hv
        · simp
        · rcases i2 v hv with hv | rfl <;> simp_all
    | false =>
      cases he : y.Key == x.Key with
      | true =>
        have he2 : y.Key = x.Key := by simpa using he
        refine ⟨List.pairwise_cons.2 ⟨fun v hv => ?_, h2⟩, fun v hv => ?_⟩
        · rw [← he2]; exact h1 v hv
        · simp only [cond_false, cond_true] at hv
          rcases List.mem_cons.1 hv with rfl | hv
          · simp
          · simp [hv]
      | false =>
        have hlt := less_total _ _ hc (by simpa using he)
        refine ⟨List.pairwise_cons.2 ⟨fun v hv => ?_, h⟩, fun v hv => ?_⟩
        · rcases List.mem_cons.1 hv with rfl | hv
          · exact hlt
          · exact less_trans _ _ _ hlt (h1 v hv)
        · simp only [cond_false] at hv
          rcases List.mem_cons.1 hv with rfl | hv
          · simp
          · exact .inl hv
def gPut (x : Item) (v : Item) (s : Bool × List Item) : Except (List Item) (Bool × List Item) :=
  (bif ((!s.1) && !(Op.bytesLess (v.Key) x.Key)) then (bif ((v.Key) != x.Key) then .ok (true, (s.2 ++ [x]) ++ [v]) else .ok (true, s.2 ++ [x])) else (bif ((v.Key) != x.Key) then .ok (s.1, s.2 ++ [v]) else .ok (s.1, s.2)))
theorem gPut_after (x : Item) : ∀ (t : List Item) (acc : List Item), (∀ v, v ∈ t → Op.bytesLess x.Key v.Key = true) → loopL (gPut x) t (true, acc) = .ok (true, acc ++ t)
  | [], acc, _ => by simp [loopL]
  | v :: t, acc, h => by
    have hv := h v (by simp)
    have hne : (v.Key != x.Key) = true := by
      simp only [bne_iff_ne, ne_eq]
      intro e; rw [e, less_irrefl] at hv; cases hv
    simp only [loopL, gPut, Bool.not_true, Bool.false_and, cond_false, hne, cond_true]
    rw [gPut_after x t _ (fun v hv => h v (by simp [hv]))]
    simp
theorem gPut_eq (x : Item) : ∀ (t : List Item) (acc : List Item), Rises t → ∃ r, loopL (gPut x) t (false, acc) = .ok r ∧ (bif (!r.1) then r.2 ++ [x] else r.2) = acc ++ putItem x t
  | [], acc, _ => ⟨(false, acc), rfl, by simp [putItem]⟩
  | v :: t, acc, h => by
    obtain ⟨h1, h2⟩ := List.pairwise_cons.1 h
    cases hc : Op.bytesLess v.Key x.Key with
    | true =>
      have hne : (v.Key != x.Key) = true := by
        simp only [bne_iff_ne, ne_eq]
        intro e; rw [e, less_irrefl] at hc; cases hc
      obtain ⟨r, g1, g2⟩ := gPut_eq x t (acc ++ [v]) h2
      refine ⟨r, ?_, ?_⟩
      · simp only [loopL, gPut, hc, Bool.not_true, Bool.and_false, cond_false, hne, cond_true]
        exact g1
      · rw [g2]; simp [putItem, hc]
    | false =>
      cases he : v.Key == x.Key with
      | true =>
        have he2 : v.Key = x.Key := by simpa using he
        have hne : (v.Key != x.Key) = false := by simp [he2]
        refine ⟨(true, (acc ++ [x]) ++ t), ?_, ?_⟩
        · simp only [loopL, gPut, hc, Bool.not_false, Bool.and_true, cond_true, hne, cond_false]
          exact gPut_after x t _ (fun w hw => by rw [← he2]; exact h1 w hw)
        · simp only [putItem, hc, he, cond_false, cond_true]; simp
      | false =>
        have hne : (v.Key != x.Key) = true := by simpa using he
        have hlt := less_total _ _ hc (by simpa using he)
        refine ⟨(true, ((acc ++ [x]) ++ [v]) ++ t), ?_, ?_⟩
        · simp only [loopL, gPut, hc, Bool.not_false, Bool.and_true, cond_true, hne]
          exact gPut_after x t _ (fun w hw => less_trans _ _ _ hlt (h1 w hw))
        · simp [putItem, hc, he]
theorem specPut_eq (a : List Item) (x : Item) (h : Rises a) : spec_l24Put a x = putItem x a := by
  unfold spec_l24Put
  rw [loopR_list0 (b := spec_l24Put_b1 a x) (gPut x) a (false, []) (fun j u hj => rfl)]
  obtain ⟨r, h1, h2⟩ := gPut_eq x a [] h
  rw [h1]
  simpa using h2
theorem putItem_at (x : Item) : ∀ (a : List Item) (j : Nat), j ≤ a.length → (∀ q, q < j → Op.bytesLess (a.getD q default).Key x.Key = true) → (j = a.length ∨ Op.bytesLess (a.getD j default).Key x.Key = false) →
    putItem x a = (bif decide (j < a.length ∧ (a.getD j default).Key = x.Key) then a.set j x else a.take j ++ [x] ++ a.drop j)
  | [], j, h, _, _ => by
    have : j = 0 := by simpa using h
    subst this
    simp [putItem]
  | y :: t, 0, _, _, h => by
    have hy : Op.bytesLess y.Key x.Key = false := by
      rcases h with h | h
      · simp at h
      · simpa using h
    simp only [putItem, hy, cond_false]
    by_cases he : y.Key = x.Key
    · simp [he]
    · have h5 : (y.Key == x.Key) = false := by simpa using he
      simp [he, h5]
  | y :: t, j + 1, h1, h2, h3 => by
    have hy : Op.bytesLess y.Key x.Key = true := by simpa using h2 0 (by omega)
    simp only [putItem, hy, cond_true]
    rw [putItem_at x t j (by simpa using h1) (fun q hq => by simpa using h2 (q + 1) (by omega)) (by simpa using h3)]
    by_cases hd : j < t.length ∧ (t.getD j default).Key = x.Key
    · have hd2 : j + 1 < (y :: t).length ∧ ((y :: t).getD (j + 1) default).Key = x.Key := by simpa using hd
      rw [decide_eq_true hd, decide_eq_true hd2]; simp
    · have hd2 : ¬ (j + 1 < (y :: t).length ∧ ((y :: t).getD (j + 1) default).Key = x.Key) := by simpa using hd
      rw [decide_eq_false hd, decide_eq_false hd2]; simp
theorem implPut_eq (a : List Item) (x : Item) (hl : a.length < 9223372036854775808) : impl_put a x = putItem x a := by
  unfold impl_put
  simp only [impl_clone_Item_id]
  obtain ⟨j, h1, h2, h3, h4⟩ := impl_itemOf_spec a x.Key hl
  rw [h4, putItem_at x a j h1 h2 h3]
  simp only [slices_Insert_Item, Int.toNat_natCast]
  cases decide (j < a.length ∧ (a.getD j default).Key = x.Key) <;> rfl
theorem put_eq (a : List Item) (k t : List UInt8) (hl : a.length < 9223372036854775808) : impl_PutItem a k t = spec_PutItem a k t := by
  unfold impl_PutItem spec_PutItem
  rw [validItems_eq, isItem_eq]
  cases h1 : spec_l24Ok a with
  | false => rfl
  | true =>
    cases h2 : spec_l24One { Key := k, Text := t : Item } with
    | false => rfl
    | true =>
      rw [implPut_eq a _ hl, specPut_eq a _ (rises_of_ok a h1 hl)]
      simp only [Bool.not_true, cond_false, impl_few]
      by_cases h3 : ((putItem { Key := k, Text := t : Item } a).length : Int) ≤ 40
      · rw [decide_eq_true h3, decide_eq_false (show ¬ (40 < ((putItem { Key := k, Text := t : Item } a).length : Int)) by omega)]; rfl
      · rw [decide_eq_false h3, decide_eq_true (show (40 < ((putItem { Key := k, Text := t : Item } a).length : Int)) by omega)]; rfl
theorem law_PutItem (a : List Item) (k t : List UInt8) (ha : a.length < 9223372036854775808) (hv : ∀ v ∈ a, bwItem v) (hk : k.length < 9223372036854775808) (ht : t.length < 9223372036854775808) : laws_FnExactPutItem a k t = true := by
  unfold laws_FnExactPutItem
  have hf := laws_szItemS_facts a 1048576 (by omega) (by omega) ha hv
  simp only [laws_toItemS_id, laws_eqItemS_dec, put_eq a k t ha]
  by_cases h : laws_szItemS a 1048576 < 0
  · simp [h]
  · have hb := (hf.2.2 h).1
    have hl := impl_PutItem_len a k t
    rw [put_eq a k t ha] at hl
    have hm := laws_heldItemS_mark (spec_PutItem a k t).1 1 (by omega) (by omega) (by omega)
    have hn : ¬ (laws_markItemS a 1).1 < 0 := by
      rw [laws_markItemS_k _ _ (by omega) (by omega) (by omega)]
      omega
    simp [h, hm.1, hm.2, hn]
end Go.Ab

namespace Go.Ab
open Go Go.Proofs Go.Deep Go.ChangeShapes Go.WideShapes Go.ChangeAt Go.RowKit
set_option maxRecDepth 100000
theorem rdT72 : Rd Try.prog 72 eEntry := by
  intro H enc W base sp hd fuel cs x h
  obtain ⟨hl, hf⟩ := rd_fields Try.underlying72 h
  have e0 : Try.prog.cellsOf 72 = 3 := by kernel_rfl
  rw [e0] at hl
  obtain ⟨n0, y0, g0⟩ := hf 0 _ rfl
  have c0 : Try.prog.cellsOf 2 = 1 := by kernel_rfl
  obtain ⟨v0, r0, o0⟩ := (rd_int (k := .i64) Try.underlying2) g0
  replace r0 : RepL W (fun _ => False) ([.int .i64 v0]) noMap ((cs.drop 0).take (Try.prog.cellsOf 2)) [] := r0
  replace o0 : ∀ u ∈ (cs.drop 0).take (Try.prog.cellsOf 2), u.oneCell' = true := o0
  rw [c0] at r0 o0
  obtain ⟨n1, y1, g1⟩ := hf 1 _ rfl
  have c1 : Try.prog.cellsOf 9 = 1 := by kernel_rfl
  obtain ⟨v1, r1, o1⟩ := (rd_str Try.underlying9) g1
  replace r1 : RepL W (fun _ => False) ([.str v1]) noMap ((cs.drop 1).take (Try.prog.cellsOf 9)) [] := r1
  replace o1 : ∀ u ∈ (cs.drop 1).take (Try.prog.cellsOf 9), u.oneCell' = true := o1
  rw [c1] at r1 o1
  obtain ⟨n2, y2, g2⟩ := hf 2 _ rfl
  have c2 : Try.prog.cellsOf 2 = 1 := by kernel_rfl
  obtain ⟨v2, r2, o2⟩ := (rd_int (k := .i64) Try.underlying2) g2
  replace r2 : RepL W (fun _ => False) ([.int .i64 v2]) noMap ((cs.drop 2).take (Try.prog.cellsOf 2)) [] := r2
  replace o2 : ∀ u ∈ (cs.drop 2).take (Try.prog.cellsOf 2), u.oneCell' = true := o2
  rw [c2] at r2 o2
  refine ⟨⟨v0, v1, v2⟩, ?_, ?_⟩
  · exact split_rep (o := 0) (k := 1) r0 (split_rep (o := 1) (k := 1) r1 (split_rep (o := 2) (k := 1) r2 (end_rep (o := 3) (by omega))))
  · exact split_one (o := 0) (k := 1) o0 (split_one (o := 1) (k := 1) o1 (split_one (o := 2) (k := 1) o2 (end_one (o := 3) (by omega))))
theorem rdT23 : Rd Try.prog 23 (fun l : List Entry => [encL 3 eEntry l]) := rd_slice Try.underlying23 (by kernel_rfl) (by decide) rdT72
theorem rdT67 : Rd Try.prog 67 eSpare := by
  intro H enc W base sp hd fuel cs x h
  obtain ⟨hl, hf⟩ := rd_fields Try.underlying67 h
  have e0 : Try.prog.cellsOf 67 = 3 := by kernel_rfl
  rw [e0] at hl
  obtain ⟨n0, y0, g0⟩ := hf 0 _ rfl
  have c0 : Try.prog.cellsOf 9 = 1 := by kernel_rfl
  obtain ⟨v0, r0, o0⟩ := (rd_str Try.underlying9) g0
  replace r0 : RepL W (fun _ => False) ([.str v0]) noMap ((cs.drop 0).take (Try.prog.cellsOf 9)) [] := r0
  replace o0 : ∀ u ∈ (cs.drop 0).take (Try.prog.cellsOf 9), u.oneCell' = true := o0
  rw [c0] at r0 o0
  obtain ⟨n1, y1, g1⟩ := hf 1 _ rfl
  have c1 : Try.prog.cellsOf 2 = 1 := by kernel_rfl
  obtain ⟨v1, r1, o1⟩ := (rd_int (k := .i64) Try.underlying2) g1
  replace r1 : RepL W (fun _ => False) ([.int .i64 v1]) noMap ((cs.drop 1).take (Try.prog.cellsOf 2)) [] := r1
  replace o1 : ∀ u ∈ (cs.drop 1).take (Try.prog.cellsOf 2), u.oneCell' = true := o1
  rw [c1] at r1 o1
  obtain ⟨n2, y2, g2⟩ := hf 2 _ rfl
  have c2 : Try.prog.cellsOf 2 = 1 := by kernel_rfl
  obtain ⟨v2, r2, o2⟩ := (rd_int (k := .i64) Try.underlying2) g2
  replace r2 : RepL W (fun _ => False) ([.int .i64 v2]) noMap ((cs.drop 2).take (Try.prog.cellsOf 2)) [] := r2
  replace o2 : ∀ u ∈ (cs.drop 2).take (Try.prog.cellsOf 2), u.oneCell' = true := o2
  rw [c2] at r2 o2
  refine ⟨⟨v0, v1, v2⟩, ?_, ?_⟩
  · exact split_rep (o := 0) (k := 1) r0 (split_rep (o := 1) (k := 1) r1 (split_rep (o := 2) (k := 1) r2 (end_rep (o := 3) (by omega))))
  · exact split_one (o := 0) (k := 1) o0 (split_one (o := 1) (k := 1) o1 (split_one (o := 2) (k := 1) o2 (end_one (o := 3) (by omega))))
theorem rdT22 : Rd Try.prog 22 (fun l : List Spare => [encL 3 eSpare l]) := rd_slice Try.underlying22 (by kernel_rfl) (by decide) rdT67
theorem rdT25 : Rd Try.prog 25 eStore := by
  intro H enc W base sp hd fuel cs x h
  obtain ⟨hl, hf⟩ := rd_fields Try.underlying25 h
  have e0 : Try.prog.cellsOf 25 = 2 := by kernel_rfl
  rw [e0] at hl
  obtain ⟨n0, y0, g0⟩ := hf 0 _ rfl
  have c0 : Try.prog.cellsOf 22 = 1 := by kernel_rfl
  obtain ⟨v0, r0, o0⟩ := rdT22 g0
  replace r0 : RepL W (fun _ => False) ([encL 3 eSpare v0]) noMap ((cs.drop 0).take (Try.prog.cellsOf 22)) [] := r0
  replace o0 : ∀ u ∈ (cs.drop 0).take (Try.prog.cellsOf 22), u.oneCell' = true := o0
  rw [c0] at r0 o0
  obtain ⟨n1, y1, g1⟩ := hf 1 _ rfl
  have c1 : Try.prog.cellsOf 23 = 1 := by kernel_rfl
  obtain ⟨v1, r1, o1⟩ := rdT23 g1
  replace r1 : RepL W (fun _ => False) ([encL 3 eEntry v1]) noMap ((cs.drop 1).take (Try.prog.cellsOf 23)) [] := r1
  replace o1 : ∀ u ∈ (cs.drop 1).take (Try.prog.cellsOf 23), u.oneCell' = true := o1
  rw [c1] at r1 o1
  refine ⟨⟨v0, v1⟩, ?_, ?_⟩
  · exact split_rep (o := 0) (k := 1) r0 (split_rep (o := 1) (k := 1) r1 (end_rep (o := 2) (by omega)))
  · exact split_one (o := 0) (k := 1) o0 (split_one (o := 1) (k := 1) o1 (end_one (o := 2) (by omega)))
theorem rdT100 : Rd Try.prog 100 eItem := by
  intro H enc W base sp hd fuel cs x h
  obtain ⟨hl, hf⟩ := rd_fields Try.underlying100 h
  have e0 : Try.prog.cellsOf 100 = 2 := by kernel_rfl
  rw [e0] at hl
  obtain ⟨n0, y0, g0⟩ := hf 0 _ rfl
  have c0 : Try.prog.cellsOf 9 = 1 := by kernel_rfl
  obtain ⟨v0, r0, o0⟩ := (rd_str Try.underlying9) g0
  replace r0 : RepL W (fun _ => False) ([.str v0]) noMap ((cs.drop 0).take (Try.prog.cellsOf 9)) [] := r0
  replace o0 : ∀ u ∈ (cs.drop 0).take (Try.prog.cellsOf 9), u.oneCell' = true := o0
  rw [c0] at r0 o0
  obtain ⟨n1, y1, g1⟩ := hf 1 _ rfl
  have c1 : Try.prog.cellsOf 9 = 1 := by kernel_rfl
  obtain ⟨v1, r1, o1⟩ := (rd_str Try.underlying9) g1
  replace r1 : RepL W (fun _ => False) ([.str v1]) noMap ((cs.drop 1).take (Try.prog.cellsOf 9)) [] := r1
  replace o1 : ∀ u ∈ (cs.drop 1).take (Try.prog.cellsOf 9), u.oneCell' = true := o1
  rw [c1] at r1 o1
  refine ⟨⟨v0, v1⟩, ?_, ?_⟩
  · exact split_rep (o := 0) (k := 1) r0 (split_rep (o := 1) (k := 1) r1 (end_rep (o := 2) (by omega)))
  · exact split_one (o := 0) (k := 1) o0 (split_one (o := 1) (k := 1) o1 (end_one (o := 2) (by omega)))
theorem rdT35 : Rd Try.prog 35 (fun l : List Item => [encL 2 eItem l]) := rd_slice Try.underlying35 (by kernel_rfl) (by decide) rdT100
theorem rdT58 : Rd Try.prog 58 (fun l : List Int => [encL 1 eIu8 l]) := rd_slice Try.underlying58 (by kernel_rfl) (by decide) (rd_int (k := .u8) Try.underlying5)
end Go.Ab
