/- A part of a proof: walks of functions and lemmas of our own. No conditions. -/
import Derived.Test.YtpakbdamggpneaaGreatDoorTAk
import Derived.Test.YtpakbdamggpneaaGreatDoorTAp
import Derived.Handy
import Derived.Test.YtpakbdamggpneaaGreatDoorTAo
import Derived.Test.YtpakbdamggpneaaGreatDoorTAn
import Derived.Test.YtpakbdamggpneaaGreatDoorTAi
import Derived.Test.YtpakbdamggpneaaGreatDoorTAm
import Derived.Test.YtpakbdamggpneaaGreatDoorTAl
import Derived.Lib.ParseIntBTie
import Derived.Lib.ItoaNum
import Derived.Lib.Strings
set_option linter.unusedSectionVars false
set_option linter.unusedVariables false
set_option linter.unusedSimpArgs false
namespace Go.Ab
open Go Go.Proofs Go.RowKit Go.Lib Go.Shelf
theorem slices_Insert_Entry_DD : DOk Tryz.prog (DD []) := DD_nil _
set_option maxHeartbeats 4000000 in
set_option maxRecDepth 100000 in
theorem slices_Insert_Entry_raw : InsRaw Tryz.prog 78 33 3 32 := by
  intro w v y n i m A B news hin hm hA hB hN oA oB oN hv hy hne hby hbig
  obtain ⟨i0, z, ET⟩ := ElT.mk' (tS := 25) (tE := 33) G_ok rfl rfl rfl (by decide)
  obtain ⟨u0, inf0, zero0, size0, byt0, zs0, pos0, zone0⟩ := ET
  have u3 : Tryz.prog.underlying 3 = some (.int .i64) := by kernel_rfl
  rcases hy with ⟨_, h⟩ | ⟨vb, vc, vcur, rfl, hvh, hvs, hvm, hvc, hvn⟩
  · omega
  have hz1 : ¬ ((m : Int) = 0) := by omega
  have hsrc : ∀ (j : Nat) (u : Value), news[j]? = some u → w.cell? ((⟨vb, 0, none⟩ : Addr).add j) = some u := by
    intro j u hu
    have hj : j < m * 3 := by rw [← hN]; exact (List.getElem?_eq_some_iff.1 hu).1
    rw [Addr.add_lit, Nat.zero_add, cell_of_row w vb j vcur 33 (0, 0) hvh, hvn j hj]
    exact hu
  by_cases hend : i = n
  · subst hend
    have hB0 : B = [] := List.eq_nil_of_length_eq_zero (by simpa using hB)
    subst hB0
    obtain ⟨v', w', hr, ho⟩ := append_run (P := Tryz.prog) (w := w) (ty := 25) (y := .slice (some ⟨vb, 0, none⟩) m vc) u0 inf0 zero0 size0 byt0 zs0 hA hN oN (by
      rcases hv with h | ⟨b, c, cur, h1, h2, h3, h4, h5, h6⟩
      · exact .inl h
      · exact .inr ⟨b, c, cur, h1, h2, h3, h4, h5, fun j hj => by rw [h6 j hj, List.append_nil]⟩) (.inr ⟨_, _, rfl, hsrc⟩) hby hbig
    rcases ho with ⟨_, h, _⟩ | ⟨b', cap', cur', rfl, ho⟩
    · omega
    have fin : AppOut w w' 33 3 (i + m) 0 v.ownBlock (A ++ news ++ []) [] b' cap' cur' := by
      refine ⟨ho.os, ho.tape, ho.output, ho.size, ho.other, ho.row, ho.len, by have := ho.fit; omega, ho.big, ?_, fun j hj => by omega, ho.place⟩
      intro j hj
      rw [List.append_nil]
      by_cases h : j < i * 3
      · rw [List.getElem?_append_left (by omega)]; exact ho.olds j h
      · have := ho.adds (j - i * 3) (by omega)
        rw [List.getElem?_append_right (by omega), hA, ← this]
        congr 1; omega
    rw [List.append_nil] at fin
    have hsh : (v = .slice none 0 0 ∧ i = 0) ∨ ∃ b c, v = .slice (some ⟨b, 0, none⟩) i c ∧ i ≤ c ∧ c ≤ 9223372036854775807 := by
      rcases hv with h | ⟨b, c, cur, h1, h2, h3, h4, h5, h6⟩
      · exact .inl h
      · exact .inr ⟨b, c, h1, h4, h5⟩
    clear hne ho hv hvh hvs hvn hsrc hA hB hN oA oB oN
    rcases hsh with ⟨rfl, rfl⟩ | ⟨b, c, rfl, hic, hcm⟩
    · go_enter Tryz.func78, Tryz.ntmps78
      go_wp2_with (at_builtin; refine wpList_appendE _ rfl _ _ _ _ rfl _ _ rfl rfl hr ?_)
      go_ret
      rw [Nat.zero_add] at fin ⊢
      (exact ⟨b', cap', cur', rfl, by (rw [List.append_nil]; exact fin)⟩)
    · go_enter Tryz.func78, Tryz.ntmps78
      go_wp2_with (at_builtin; refine wpList_appendE _ rfl _ _ _ _ rfl _ _ rfl rfl hr ?_)
      all_goals go_ret
      all_goals (exact ⟨b', cap', rfl, cur', by exact fin⟩)
  · have hlt : i < n := by omega
    rcases hv with ⟨_, h⟩ | ⟨b, c, cur, rfl, hb, hcs, hnc, hcm, hold⟩
    · omega
    have hvb : vb ≠ b := fun h => hne b rfl (by rw [h]; rfl)
    have mixed : Tryz.prog.follows .mixedOrders = true := by kernel_rfl
    have hz2 : ¬ ((i : Int) = (n : Int)) := by omega
    have hcSX : c ≤ 9223372036854775807 := hcm
    have hw1 : IntKind.i64.wrap ((i : Int) + (m : Int)) = (i : Int) + (m : Int) := by rw [IntKind.wrap_i64]; omega
    have hb1 : (0 : Int) ≤ (i : Int) + (m : Int) := by omega
    have hin : i ≤ n := by omega
    have htn : ((i : Int) + (m : Int)).toNat = i + m := by omega
    have hb4 : ¬ (c = i) := by omega
    have hAn : A.length + B.length = n * 3 := by omega
    have hgA : ∀ (j : Nat) (u : Value), A[j]? = some u → cur[j]? = some u := by
      intro j u hu
      have hj : j < A.length := (List.getElem?_eq_some_iff.1 hu).1
      rw [hold j (by omega), List.getElem?_append_left hj, hu]
    have hgB : ∀ (j : Nat) (u : Value), B[j]? = some u → cur[i * 3 + j]? = some u := by
      intro j u hu
      have hj : j < B.length := (List.getElem?_eq_some_iff.1 hu).1
      rw [hold _ (by omega), List.getElem?_append_right (by omega), hA, Nat.add_sub_cancel_left, hu]
    by_cases hroom : n + m ≤ c
    · have hb2 : ¬ (c = i + m) := by omega
      have hb3 : (i : Int) ≤ (n : Int) + (m : Int) := by omega
      have hmin : Nat.min (n + m - i) (n + m - (i + m)) = n - i := by simp only [Nat.min_def]; split <;> omega
      have hmin2 : Nat.min m (n + m - i) = m := by simp only [Nat.min_def]; split <;> omega
      obtain ⟨cur1, hcur1⟩ : ∃ cur1, cur1 = (putV ((i + m) * 3) B cur.toList).toArray := ⟨_, rfl⟩
      have hl1 : cur1.size = cur.size := by rw [hcur1]; simp [putV_length]
      have hov : ∀ lb cb, (callFunc 118 #[.slice (some ⟨vb, 0, none⟩) m vc, .slice (some ⟨b, (i + m) * 3, none⟩) lb cb]).run Tryz.prog w = .ok (.value (.bool false)) w := fun lb cb => by
        rw [run_callFunc_extern Tryz.func118 (by kernel_rfl) (by kernel_rfl) (by kernel_rfl) (e := Extern.SlicesOverlaps.overlaps #[25, 25] #[4]) (by kernel_rfl),
          run_overlapsE w 25 4 33 i0 u0 inf0 vb b 0 ((i + m) * 3) m vc lb cb hvb vcur cur 33 33 hvh hb (by omega)]
        rfl
      have hcp1 : ∀ ty dc sc, (Builtin.copy_ #[25, 25] ty #[.slice (some ⟨b, (i + m) * 3, none⟩) (n + m - (i + m)) dc, .slice (some ⟨b, i * 3, none⟩) (n + m - i) sc]).run Tryz.prog w.drew = .ok (goInt ((n - i : Nat) : Int)) (w.drew.setRow b cur1) := fun ty dc sc => by
        rw [hcur1]
        exact run_copyE w.drew 25 25 ty 33 i0 b ((i + m) * 3) _ dc ⟨b, i * 3, none⟩ _ sc (n - i) cur 33 B u0 inf0 hb hmin (by rw [size0]; exact hB)
          (fun j u hj => by rw [Addr.add_lit, cell_of_row w.drew b _ cur 33 (0, 0) hb]; exact hgB j u hj) (by omega) oB
      have hr1 : ∀ W : World, W.heap = (w.drew.setRow b cur1).heap → W.heap[b]? = some (.cells cur1 33 (0, 0)) := fun W h => by rw [h]; exact setRow_heap w.drew b cur cur1 33 (0, 0) hb
      have hcp2 : ∀ (W : World), W.heap = (w.drew.setRow b cur1).heap → ∀ ty dc, (Builtin.copy_ #[25, 25] ty #[.slice (some ⟨b, i * 3, none⟩) (n + m - i) dc, .slice (some ⟨vb, 0, none⟩) m vc]).run Tryz.prog W = .ok (goInt m) (W.setRow b (putV (i * 3) news cur1.toList).toArray) := fun W hW ty dc =>
        run_copyE W 25 25 ty 33 i0 b (i * 3) _ dc ⟨vb, 0, none⟩ m vc m cur1 33 news u0 inf0 (hr1 W hW) hmin2 (by rw [size0]; exact hN)
          (fun j u hj => by
            have hj2 : j < m * 3 := by rw [← hN]; exact (List.getElem?_eq_some_iff.1 hj).1
            have hvh2 : W.heap[vb]? = some (.cells vcur 33 (0, 0)) := by rw [hW, setRow_other w.drew b vb cur1 hvb]; exact hvh
            rw [Addr.add_lit, Nat.zero_add, cell_of_row W vb j vcur 33 (0, 0) hvh2, hvn j hj2]; exact hj) (by omega) oN
      have fin : ∀ W : World, W.heap = (w.drew.setRow b cur1).heap → W.os = w.os → W.tape = w.tape → W.output = w.output →
          AppOut w (W.setRow b (putV (i * 3) news cur1.toList).toArray) 33 3 (n + m) 0 (Value.ownBlock (.slice (some ⟨b, 0, none⟩) n c)) (A ++ news ++ B) [] b c (putV (i * 3) news cur1.toList).toArray := by
        intro W hW h1 h2 h3
        refine ⟨h1, h2, h3, ?_, ?_, setRow_heap W b cur1 _ 33 (0, 0) (hr1 W hW), by simp [putV_length, hl1, hcs], by omega, hcm, ?_, fun j hj => by omega, .inl rfl⟩
        · simp [hW]
        · intro k hk hkb
          rw [setRow_other W b k _ hkb, hW, setRow_other w.drew b k _ hkb]; rfl
        · intro j hj
          simp only [List.getElem?_toArray, putV_get]
          have hcl : cur1.toList.length = c * 3 := by simp [hl1, hcs]
          by_cases h1 : j < i * 3
          · rw [if_neg (by omega), List.append_assoc, List.getElem?_append_left (by omega), hcur1]
            simp only [putV_get]
            rw [if_neg (by omega)]
            have : A[j]? = some A[j] := List.getElem?_eq_getElem (by omega)
            rw [this]; simpa using hgA j _ this
          · by_cases h2 : j < (i + m) * 3
            · rw [if_pos (by rw [hcl, hN]; omega), List.append_assoc, List.getElem?_append_right (by omega), List.getElem?_append_left (by omega), hA]
            · rw [if_neg (by omega), List.getElem?_append_right (by simp only [List.length_append]; omega), hcur1]
              simp only [putV_get]
              rw [if_pos (by simp only [Array.length_toList]; omega)]
              congr 1; simp only [List.length_append]; omega
      clear hold hgA hgB hcs hb hvh hvs hvn hsrc hA hB hN oA oB oN hne hby hAn hr1 zero0 byt0 zs0 zone0 size0 hcur1 hl1 hmin hmin2
      go_enter Tryz.func78, Tryz.ntmps78
      go_wp2_with (simp only [hov])
      go_region_law_o (refine step_copyE rfl _ _ 25 25 rfl _ _ (by simp [Act.eval, Act.put]) (by simp [Act.eval, Act.put]) (hcp1 _ _ _) ?_)
      go_wp2_with (at_builtin; refine wpList_copyE _ rfl _ _ 25 25 rfl _ _ rfl rfl (hcp2 _ rfl _ _) ?_)
      go_ret
      exact ⟨b, c, _, rfl, fin _ rfl rfl rfl rfl⟩
    · have hz3 : (c : Int) < (n : Int) + (m : Int) := by omega
      have hbw : b < w.heap.size := (Array.getElem?_eq_some_iff.1 hb).1
      have hvw : vb < w.heap.size := (Array.getElem?_eq_some_iff.1 hvh).1
      have hik : i + (n + m - i) = n + m := by omega
      have hrz : ∀ ty, (Builtin.append_ #[25, 3] ty #[.slice (some ⟨b, 0, none⟩) i c, .int .i64 ((n : Int) + (m : Int) - (i : Int))]).run Tryz.prog w = .ok (.slice (some ⟨w.heap.size, 0, none⟩) (n + m) (grownCap w (n + m) c 33)) (w.drew.alloc (.cells (A.toArray ++ Builtin.zeroCells z.cells (n + m - i) ++ Builtin.zeroCells z.cells (grownCap w (n + m) c 33 - (n + m))) 33)) := fun ty => by
        have h := run_append_makeE (P := Tryz.prog) w 25 3 ty 33 i0 z u0 u3 inf0 zero0 ⟨b, 0, none⟩ i c A (by rw [size0]; exact hA)
          (fun j u hj => by rw [Addr.add_lit, Nat.zero_add, cell_of_row w b _ cur 33 (0, 0) hb]; exact hgA j u hj) (n + m - i) (by omega) (by rw [size0]; decide) (by omega) (by omega) (by rw [byt0, hik]; exact hby)
        rw [hik, show ((n + m - i : Nat) : Int) = (n : Int) + (m : Int) - (i : Int) by omega] at h
        exact h
      obtain ⟨N, hN0⟩ : ∃ N, N = w.heap.size := ⟨_, rfl⟩
      obtain ⟨G9, hG⟩ : ∃ G9, G9 = grownCap w (n + m) c 33 := ⟨_, rfl⟩
      have hGn : n + m ≤ G9 := by rw [hG]; exact grownCap_ge w _ _ _
      have hGSX : G9 ≤ 9223372036854775807 := by
        have := grownCap_le_maxLen w (n + m) c 33 (by unfold maxLen; omega)
        rw [← hG] at this
        unfold maxLen at this
        omega
      obtain ⟨row, hrow⟩ : ∃ row : Array Value, row = A.toArray ++ Builtin.zeroCells z.cells (n + m - i) ++ Builtin.zeroCells z.cells (G9 - (n + m)) := ⟨_, rfl⟩
      rw [← hG, ← hrow, ← hN0] at hrz
      have hrl : row.size = G9 * 3 := by
        rw [hrow]; simp only [Array.size_append, List.size_toArray, size_zeroCells, zs0, hA]; omega
      have hGi : ¬ (G9 = i) := by omega
      have hGim : ¬ (G9 = i + m) := by omega
      have hbN : b ≠ N := by omega
      have hvN : vb ≠ N := by omega
      have hmin1 : Nat.min m (n + m - i) = m := by simp only [Nat.min_def]; split <;> omega
      have hmin2 : Nat.min (n - i) (n + m - (i + m)) = n - i := by simp only [Nat.min_def]; split <;> omega
      have hW1 : ∀ W : World, W.heap = w.heap.push (.cells row 33) → W.heap[N]? = some (.cells row 33 (0, 0)) ∧ W.heap[b]? = some (.cells cur 33 (0, 0)) ∧ W.heap[vb]? = some (.cells vcur 33 (0, 0)) := by
        intro W h
        rw [h]
        refine ⟨by rw [hN0]; simp, ?_, ?_⟩
        · rw [Array.getElem?_push, if_neg (by omega)]; exact hb
        · rw [Array.getElem?_push, if_neg (by omega)]; exact hvh
      obtain ⟨row2, hrow2⟩ : ∃ row2, row2 = (putV (i * 3) news row.toList).toArray := ⟨_, rfl⟩
      have hl2 : row2.size = G9 * 3 := by rw [hrow2]; simp [putV_length, hrl]
      have hcpA : ∀ (W : World), W.heap = w.heap.push (.cells row 33) → ∀ ty dc, (Builtin.copy_ #[25, 25] ty #[.slice (some ⟨N, i * 3, none⟩) (n + m - i) dc, .slice (some ⟨vb, 0, none⟩) m vc]).run Tryz.prog W = .ok (goInt m) (W.setRow N row2) := fun W hW ty dc => by
        rw [hrow2]
        exact run_copyE W 25 25 ty 33 i0 N (i * 3) _ dc ⟨vb, 0, none⟩ m vc m row 33 news u0 inf0 (hW1 W hW).1 hmin1 (by rw [size0]; exact hN)
          (fun j u hj => by
            have hj2 : j < m * 3 := by rw [← hN]; exact (List.getElem?_eq_some_iff.1 hj).1
            rw [Addr.add_lit, Nat.zero_add, cell_of_row W vb j vcur 33 (0, 0) (hW1 W hW).2.2, hvn j hj2]; exact hj) (by omega) oN
      have hW2 : ∀ W W0 : World, W0.heap = w.heap.push (.cells row 33) → W.heap = (W0.setRow N row2).heap → W.heap[N]? = some (.cells row2 33 (0, 0)) ∧ W.heap[b]? = some (.cells cur 33 (0, 0)) := by
        intro W W0 h0 h
        rw [h]
        exact ⟨setRow_heap W0 N row row2 33 (0, 0) (hW1 W0 h0).1, by rw [setRow_other W0 N b row2 hbN]; exact (hW1 W0 h0).2.1⟩
      have hcpB : ∀ (W W0 : World), W0.heap = w.heap.push (.cells row 33) → W.heap = (W0.setRow N row2).heap → ∀ ty dc sc, (Builtin.copy_ #[25, 25] ty #[.slice (some ⟨N, (i + m) * 3, none⟩) (n + m - (i + m)) dc, .slice (some ⟨b, i * 3, none⟩) (n - i) sc]).run Tryz.prog W = .ok (goInt ((n - i : Nat) : Int)) (W.setRow N (putV ((i + m) * 3) B row2.toList).toArray) := fun W W0 h0 hW ty dc sc =>
        run_copyE W 25 25 ty 33 i0 N ((i + m) * 3) _ dc ⟨b, i * 3, none⟩ _ sc (n - i) row2 33 B u0 inf0 (hW2 W W0 h0 hW).1 hmin2 (by rw [size0]; exact hB)
          (fun j u hj => by rw [Addr.add_lit, cell_of_row W b _ cur 33 (0, 0) (hW2 W W0 h0 hW).2]; exact hgB j u hj) (by omega) oB
      have fin : ∀ W W0 : World, W0.heap = w.heap.push (.cells row 33) → W.heap = (W0.setRow N row2).heap → W.os = w.os → W.tape = w.tape → W.output = w.output →
          AppOut w (W.setRow N (putV ((i + m) * 3) B row2.toList).toArray) 33 3 (n + m) 0 (Value.ownBlock (.slice (some ⟨b, 0, none⟩) n c)) (A ++ news ++ B) [] N G9 (putV ((i + m) * 3) B row2.toList).toArray := by
        intro W W0 h0 hW h1 h2 h3
        refine ⟨h1, h2, h3, ?_, ?_, setRow_heap W N row2 _ 33 (0, 0) (hW2 W W0 h0 hW).1, by simp [putV_length, hl2], by omega, hGSX, ?_, fun j hj => by omega, .inr hN0⟩
        · simp [hW, h0]
        · intro k hk hkb
          rw [setRow_other W N k _ hkb, hW, setRow_other W0 N k _ hkb, h0, Array.getElem?_push, if_neg (by omega)]
        · intro j hj
          simp only [List.getElem?_toArray, putV_get]
          have hcl : row2.toList.length = G9 * 3 := by simp [hl2]
          have hcl1 : row.toList.length = G9 * 3 := by simp [hrl]
          by_cases h1 : (i + m) * 3 ≤ j
          · rw [if_pos (by omega), List.getElem?_append_right (by simp only [List.length_append]; omega)]
            congr 1; simp only [List.length_append]; omega
          · rw [if_neg (by omega), hrow2, List.getElem?_append_left (by simp only [List.length_append]; omega)]
            simp only [putV_get]
            by_cases h2 : i * 3 ≤ j
            · rw [if_pos (by omega), List.getElem?_append_right (by omega), hA]
            · rw [if_neg (by omega), List.getElem?_append_left (by omega), hrow]
              rw [Array.toList_append, Array.toList_append, List.append_assoc, List.getElem?_append_left (by simp; omega)]
      clear hold hgA hgB hcs hb hvh hvs hvn hsrc hA hB hN oA oB oN hne hby hAn zero0 byt0 zs0 zone0 size0 hW1 hW2 hrl hl2 hik hrow hrow2 hG hmin1 hmin2 hbw hvw
      subst hN0
      have hcpA1 := hcpA (w.alloc (.cells row 33)).drew rfl
      have hcpB1 := hcpB ((w.alloc (.cells row 33)).drew.setRow w.heap.size row2).drew (w.alloc (.cells row 33)).drew rfl rfl
      go_enter Tryz.func78, Tryz.ntmps78
      go_wp2_with (at_builtin; refine wpList_appendE _ rfl _ _ _ _ rfl _ _ rfl rfl (hrz _) ?_)
      go_region_law_o (refine step_copyE rfl _ _ 25 25 rfl _ _ (by simp [Act.eval, Act.put]) (by simp [Act.eval, Act.put]) (hcpB1 _ _ _) ?_)
      go_wp2
      go_ret
      (exact ⟨_, _, _, rfl, fin _ (w.alloc (.cells row 33)).drew rfl rfl rfl rfl rfl⟩)
def slices_Insert_Entry (a0 : (List Entry)) (a1 : Int) (a2 : (List Entry)) : List Entry := a0.take a1.toNat ++ a2 ++ a0.drop a1.toNat
theorem slices_Insert_Entry_den (a0 : (List Entry)) (a1 : Int) (a2 : (List Entry)) (hp0 : 0 ≤ a1) (hp1 : a1 ≤ a0.length) (hp2 : 0 < a2.length) (hp3 : a0.length < 1099511627776) (hp4 : a2.length < 1099511627776) : DenM Tryz.prog 78 [ownL 33 3 eEntry a0, .int .i64 a1, ownL 33 3 eEntry a2] (ownL 33 3 eEntry (slices_Insert_Entry a0 a1 a2)) [.any, .any, .any] :=
  ins_den ⟨_, Tryz.func78, rfl, rfl⟩ slices_Insert_Entry_raw (fun v => by simp [eEntry, ownL, NoBorL, NoBor]) a0 a2 a1 hp0 hp1 hp2 (by omega) (by omega)
def D_slices_Insert_Entry : List AV → Option (AV × List AV × List Prop)
  | [x0, x1, x2] => some (ownL 33 3 eEntry (slices_Insert_Entry (rdL dEntry x0) (rdI x1) (rdL dEntry x2)), [.any, .any, .any], [wO 33 3 eEntry dEntry x0, wI .i64 x1, wO 33 3 eEntry dEntry x2, 0 ≤ (rdI x1), (rdI x1) ≤ (rdL dEntry x0).length, 0 < (rdL dEntry x2).length, (rdL dEntry x0).length < 1099511627776, (rdL dEntry x2).length < 1099511627776])
  | _ => none
theorem D_slices_Insert_Entry_ok : OkM Tryz.prog 78 D_slices_Insert_Entry := by
  intro xs r outs ob h ho
  unfold D_slices_Insert_Entry at h
  split at h
  · simp only [Option.some.injEq, Prod.mk.injEq] at h
    obtain ⟨rfl, rfl, rfl⟩ := h
    obtain ⟨h0, h1, h2, hp0, hp1, hp2, hp3, hp4, _⟩ := ho
    exact DenM.sim (slices_Insert_Entry_den _ _ _ hp0 hp1 hp2 hp3 hp4) (simOL_cons (wO_sim h0) <| simOL_cons (wI_sim h1).1 <| simOL_cons (wO_sim h2) <| trivial)
  · cases h
end Go.Ab

namespace Go.Ab
open Go Go.Proofs
theorem impl_ValidStore_len (a : Store) (h : impl_ValidStore a = true) : a.Spares.length ≤ 16 ∧ a.Entries.length ≤ 48 := by
  unfold impl_ValidStore at h
  split at h
  · rename_i e he
    obtain ⟨j, t, h1, h2, h3⟩ := loopR_error he
    simp only [impl_ValidStore_b1] at h3
    revert h3
    generalize (((!(impl_isSpare _)) || _) || _ : Bool) = q
    cases q <;> simp
    rintro rfl; simp at h
  · split at h
    · rename_i e he
      obtain ⟨j, t, h1, h2, h3⟩ := loopR_error he
      simp only [impl_ValidStore_b2] at h3
      revert h3
      generalize (((!(impl_isEntry _)) || _) || _ : Bool) = q
      cases q <;> simp
      rintro rfl; simp at h
    · simp only [impl_few, Bool.and_eq_true, decide_eq_true_eq] at h
      omega
end Go.Ab

namespace Go.Ab
open Go Go.Proofs
theorem impl_clone_Spare_id (a : List Spare) : impl_clone_Spare a = a := by simp [impl_clone_Spare]
end Go.Ab

namespace Go.Ab
open Go Go.Proofs
theorem impl_clone_Entry_id (a : List Entry) : impl_clone_Entry a = a := by simp [impl_clone_Entry]
end Go.Ab

namespace Go.Ab
open Go Go.Proofs
theorem slices_Insert_Entry_len (l : List Entry) (i : Int) (x : List Entry) : (slices_Insert_Entry l i x).length = l.length + x.length := by
  simp [slices_Insert_Entry]; omega
theorem slices_Insert_Entry_mem (l : List Entry) (i : Int) (x : List Entry) (v : Entry) (h : v ∈ slices_Insert_Entry l i x) : v ∈ l ∨ v ∈ x := by
  simp only [slices_Insert_Entry, List.mem_append] at h
  rcases h with (h | h) | h
  · exact .inl (List.mem_of_mem_take h)
  · exact .inr h
  · exact .inl (List.mem_of_mem_drop h)
end Go.Ab

namespace Go.Ab
open Go Go.Proofs
theorem impl_Store_put_DD : DOk Tryz.prog (DD [(34, dP D_impl_ValidStore), (37, dP D_impl_clone_Spare), (39, dP D_impl_clone_Entry), (76, dP D_impl_Store_spareOf), (78, dM [true, false, true] D_slices_Insert_Entry)]) := DD_cons D_impl_ValidStore_ok.e <| DD_cons D_impl_clone_Spare_ok.e <| DD_cons D_impl_clone_Entry_ok.e <| DD_cons D_impl_Store_spareOf_ok.e <| DD_cons D_slices_Insert_Entry_ok.e <| DD_nil _
def impl_Store_put_b1 (a0 : Store) (a1 : Entry) (s1 : Int) : Except (Sum ((Store × Int)) (Int)) (Int) :=
  (bif (decide (s1 < (a0.Entries.length : Int)) && decide (((a0.Entries.getD ((s1).toNat) default).Day) ≤ a1.Day)) then .ok (IntKind.wrap .i64 (s1 + 1)) else .error (.inr s1))
def impl_Store_put (a0 : Store) (a1 : Entry) : (Store × Int) :=
  (bif (!((impl_Store_spareOf a0 a1.Item).2)) then ({ Spares := [], Entries := [] : Store }, 3) else (bif ((a0.Entries.length : Int) == 48) then ({ Spares := [], Entries := [] : Store }, 5) else (match loopW (impl_Store_put_b1 a0 a1) ((a0.Entries.length - ((0 : Int)).toNat) + 1) 0 with | .error (.inl e) => e | .error (.inr s1) => (bif (!(impl_ValidStore ({ Spares := (impl_clone_Spare a0.Spares), Entries := ((slices_Insert_Entry (impl_clone_Entry a0.Entries) s1 [a1])) : Store }))) then ({ Spares := [], Entries := [] : Store }, 6) else ({ Spares := (impl_clone_Spare a0.Spares), Entries := ((slices_Insert_Entry (impl_clone_Entry a0.Entries) s1 [a1])) : Store }, 0)) | .ok _ => default)))
set_option maxHeartbeats 1000000 in
theorem impl_Store_put_den (a0 : Store) (a1 : Entry) (hb0 : bdStore a0) (hb1 : bdEntry a1) (hp0 : a0.Entries.length ≤ 1048576) : Den Tryz.prog 35 [.agg (eStore a0), .agg (eEntry a1)] (.tup [.agg (eStoreO ((impl_Store_put a0 a1).1)), .int .i64 ((impl_Store_put a0 a1).2)]) := by
  generalize hR : impl_Store_put a0 a1 = r
  unfold impl_Store_put at hR
  refine den_intro G_ok Tryz.func35 (by kernel_rfl) rfl Tryz.ntmps35 (by rw [Tryz.results35]) (by simp) rfl ?_
  intro c hL hc hk
  obtain ⟨hL0, hL1, _⟩ := hL
  have hw0 : bwStore a0 := Store_lens a0 hL0
  have hw1 : bwEntry a1 := Entry_lens a1 hL1
  clear hL0 hL1
  simp only [pars, Nat.zero_add]
  have hin : ∀ i v, v ∈ slices_Insert_Entry a0.Entries i [a1] → v.Item.length < 1099511627776 := fun i v h => (slices_Insert_Entry_mem _ _ _ v h).elim (fun h => hb0.2.2 v h) (fun h => by simp at h; subst h; exact hb1)
  refine AWP.seq ?_
  refine AWP.regS G_ok impl_Store_put_DD hc (by kernel_rfl) (fun K hK => ?_); simp only [ea, absV, absVL, gv, sv, D_impl_ValidStore, D_impl_clone_Spare, D_impl_clone_Entry, D_impl_Store_spareOf, D_slices_Insert_Entry, reduceCtorEq, reduceIte, Nat.reduceBEq, Nat.reduceAdd, Nat.reduceEqDiff, Nat.reduceLT, Nat.reduceLeDiff, Nat.reduceMul, Nat.reduceSub, BEq.rfl, beq_self_eq_true, Int.reduceToNat]
  (refine hK _ ?_)
  clear hK K
  refine AWP.seq ?_
  refine AWP.seq ?_
  refine AWP.regS G_ok impl_Store_put_DD hc (by kernel_rfl) (fun K hK => ?_); simp only [ea, absV, absVL, gv, sv, D_impl_ValidStore, D_impl_clone_Spare, D_impl_clone_Entry, D_impl_Store_spareOf, D_slices_Insert_Entry, reduceCtorEq, reduceIte, Nat.reduceBEq, Nat.reduceAdd, Nat.reduceEqDiff, Nat.reduceLT, Nat.reduceLeDiff, Nat.reduceMul, Nat.reduceSub, BEq.rfl, beq_self_eq_true, Int.reduceToNat]
  (refine hK _ ?_)
  clear hK K
  refine AWP.seq ?_
  refine AWP.regS G_ok impl_Store_put_DD hc (by kernel_rfl) (fun K hK => ?_); simp only [ea, absV, absVL, gv, sv, D_impl_ValidStore, D_impl_clone_Spare, D_impl_clone_Entry, D_impl_Store_spareOf, D_slices_Insert_Entry, reduceCtorEq, reduceIte, Nat.reduceBEq, Nat.reduceAdd, Nat.reduceEqDiff, Nat.reduceLT, Nat.reduceLeDiff, Nat.reduceMul, Nat.reduceSub, BEq.rfl, beq_self_eq_true, Int.reduceToNat]
  (refine hK _ ?_)
  clear hK K
  refine AWP.cond rfl (fun hb => ?_) (fun hb => ?_)
  · (simp only [hb, cond_true] at hR)
    refine AWP.seq ?_
    refine AWP.regS G_ok impl_Store_put_DD hc (by kernel_rfl) (fun K hK => ?_); simp only [ea, absV, absVL, gv, sv, D_impl_ValidStore, D_impl_clone_Spare, D_impl_clone_Entry, D_impl_Store_spareOf, D_slices_Insert_Entry, reduceCtorEq, reduceIte, Nat.reduceBEq, Nat.reduceAdd, Nat.reduceEqDiff, Nat.reduceLT, Nat.reduceLeDiff, Nat.reduceMul, Nat.reduceSub, BEq.rfl, beq_self_eq_true, Int.reduceToNat]
    (refine hK _ ?_)
    clear hK K
    refine AWP.ret ?_
    subst hR
    (simp only [en, si, ea, gv, sv, hk, reduceCtorEq, reduceIte, Nat.reduceBEq, Nat.reduceAdd, Nat.reduceEqDiff, Nat.reduceLT, Nat.reduceLeDiff, Nat.reduceMul, Nat.reduceSub, BEq.rfl, beq_self_eq_true, Int.reduceToNat]; done)
  · (simp only [hb, cond_false] at hR)
    refine AWP.skip ?_
    refine AWP.seq ?_
    refine AWP.seq ?_
    refine AWP.regS G_ok impl_Store_put_DD hc (by kernel_rfl) (fun K hK => ?_); simp only [ea, absV, absVL, gv, sv, D_impl_ValidStore, D_impl_clone_Spare, D_impl_clone_Entry, D_impl_Store_spareOf, D_slices_Insert_Entry, reduceCtorEq, reduceIte, Nat.reduceBEq, Nat.reduceAdd, Nat.reduceEqDiff, Nat.reduceLT, Nat.reduceLeDiff, Nat.reduceMul, Nat.reduceSub, BEq.rfl, beq_self_eq_true, Int.reduceToNat]
    (refine hK _ ?_)
    clear hK K
    refine AWP.cond rfl (fun hb => ?_) (fun hb => ?_)
    · (simp only [hb, cond_true] at hR)
      refine AWP.seq ?_
      refine AWP.regS G_ok impl_Store_put_DD hc (by kernel_rfl) (fun K hK => ?_); simp only [ea, absV, absVL, gv, sv, D_impl_ValidStore, D_impl_clone_Spare, D_impl_clone_Entry, D_impl_Store_spareOf, D_slices_Insert_Entry, reduceCtorEq, reduceIte, Nat.reduceBEq, Nat.reduceAdd, Nat.reduceEqDiff, Nat.reduceLT, Nat.reduceLeDiff, Nat.reduceMul, Nat.reduceSub, BEq.rfl, beq_self_eq_true, Int.reduceToNat]
      (refine hK _ ?_)
      clear hK K
      refine AWP.ret ?_
      subst hR
      (simp only [en, si, ea, gv, sv, hk, reduceCtorEq, reduceIte, Nat.reduceBEq, Nat.reduceAdd, Nat.reduceEqDiff, Nat.reduceLT, Nat.reduceLeDiff, Nat.reduceMul, Nat.reduceSub, BEq.rfl, beq_self_eq_true, Int.reduceToNat]; done)
    · (simp only [hb, cond_false] at hR)
      refine AWP.skip ?_
      refine AWP.seq ?_
      refine AWP.regS G_ok impl_Store_put_DD hc (by kernel_rfl) (fun K hK => ?_); simp only [ea, absV, absVL, gv, sv, D_impl_ValidStore, D_impl_clone_Spare, D_impl_clone_Entry, D_impl_Store_spareOf, D_slices_Insert_Entry, reduceCtorEq, reduceIte, Nat.reduceBEq, Nat.reduceAdd, Nat.reduceEqDiff, Nat.reduceLT, Nat.reduceLeDiff, Nat.reduceMul, Nat.reduceSub, BEq.rfl, beq_self_eq_true, Int.reduceToNat]
      (refine hK _ ?_)
      clear hK K
      refine AWP.seq ?_
      refine AWP.block ?_
      generalize hz1 : loopW (impl_Store_put_b1 a0 a1) ((a0.Entries.length - ((0 : Int)).toNat) + 1) 0 = z1 at hR
      refine AWP.whileW (impl_Store_put_b1 a0 a1) (fun s1 => ⟨[(2, .ptr 0 0), (3, .ptr 1 0), (4, .ptr 2 0), (8, .int .i64 s1)], [.box [encL 3 eSpare a0.Spares, encL 3 eEntry a0.Entries], .box [.int .i64 a1.Day, .str a1.Item, .int .i64 a1.Amount], .box [.nils, .nils]]⟩) (fun s1 => 0 ≤ s1 ∧ s1 ≤ a0.Entries.length) (fun s1 => a0.Entries.length - (s1).toNat) ((a0.Entries.length - ((0 : Int)).toNat) + 1) 0 [0, 1, 2] hz1 (by omega) (by ((and_intros <;> simp only [ob, ln, impl_clone_Spare_id, impl_clone_Entry_id] at * <;> omega))) (by (simp only [si, ea, gv, sv, hk, reduceCtorEq, reduceIte, Nat.reduceBEq, Nat.reduceAdd, Nat.reduceEqDiff, Nat.reduceLT, Nat.reduceLeDiff, Nat.reduceMul, Nat.reduceSub, BEq.rfl, beq_self_eq_true, Int.reduceToNat]; trivial)) ?_
      clear hz1
      intro s1 k1 hW1 hm1 hz1
      simp only [impl_Store_put_b1] at hz1
      refine AWP.seq ?_
      refine AWP.seq ?_
      refine AWP.regD mixed G_ok impl_Store_put_DD hc 16 (by kernel_rfl) (by kernel_rfl) (fun K hK => ?_); simp only [ea, absV, absVL, gv, sv, D_impl_ValidStore, D_impl_clone_Spare, D_impl_clone_Entry, D_impl_Store_spareOf, D_slices_Insert_Entry, reduceCtorEq, reduceIte, Nat.reduceBEq, Nat.reduceAdd, Nat.reduceEqDiff, Nat.reduceLT, Nat.reduceLeDiff, Nat.reduceMul, Nat.reduceSub, BEq.rfl, beq_self_eq_true, Int.reduceToNat]
      (refine ⟨by ((simp only [ob, ln, bdv, impl_clone_Spare_id, impl_clone_Entry_id, sv] at *; omega)), hK _ ?_⟩)
      clear hK K
      refine AWP.cond rfl (fun hb => ?_) (fun hb => ?_)
      · (simp only [hb, cond_true] at hz1)
        refine AWP.skip ?_
        refine AWP.block ?_
        refine AWP.regS G_ok impl_Store_put_DD hc (by kernel_rfl) (fun K hK => ?_); simp only [ea, absV, absVL, gv, sv, D_impl_ValidStore, D_impl_clone_Spare, D_impl_clone_Entry, D_impl_Store_spareOf, D_slices_Insert_Entry, reduceCtorEq, reduceIte, Nat.reduceBEq, Nat.reduceAdd, Nat.reduceEqDiff, Nat.reduceLT, Nat.reduceLeDiff, Nat.reduceMul, Nat.reduceSub, BEq.rfl, beq_self_eq_true, Int.reduceToNat]
        (refine hK _ ?_)
        clear hK K
        exact ⟨_, [0, 1, 2], by ((simp only [ob, ln, impl_clone_Spare_id, impl_clone_Entry_id] at *; omega)), by ((and_intros <;> simp only [ob, ln, impl_clone_Spare_id, impl_clone_Entry_id] at * <;> omega)), hz1, by (simp only [si, ea, gv, sv, hk, reduceCtorEq, reduceIte, Nat.reduceBEq, Nat.reduceAdd, Nat.reduceEqDiff, Nat.reduceLT, Nat.reduceLeDiff, Nat.reduceMul, Nat.reduceSub, BEq.rfl, beq_self_eq_true, Int.reduceToNat]; trivial)⟩
      · (simp only [hb, cond_false] at hz1)
        refine AWP.exit ?_
        refine exitTo_here ?_
        subst hz1; dsimp only at hR
        refine AWP.seq ?_
        refine AWP.regP mixed G_ok impl_Store_put_DD hc 12 [0, 1, 3, 4, 6, 7] (.alt 2 [] [3, 4, 6, 7] (.alt 5 [] [6, 7] (.alt 8 [] [6] (.alt 9 [10] [10] (.alt 11 [] [10] .leaf .stop) (.alt 11 [] [6] (.alt 9 [10] [10] .leaf .stop) .stop)) (.alt 11 [] [6, 7] (.alt 8 [] [6] (.alt 9 [10] [10] .leaf .stop) .stop) .stop)) (.alt 8 [] [3, 4, 6] (.alt 5 [] [6] (.alt 9 [10] [10] (.alt 11 [] [10] .leaf .stop) (.alt 11 [] [6] (.alt 9 [10] [10] .leaf .stop) .stop)) (.alt 11 [] [3, 4, 6] (.alt 5 [] [6] (.alt 9 [10] [10] .leaf .stop) .stop) .stop)) (.alt 11 [] [3, 4, 6, 7] (.alt 5 [] [6, 7] (.alt 8 [] [6] (.alt 9 [10] [10] .leaf .stop) .stop) (.alt 8 [] [3, 4, 6] (.alt 5 [] [6] (.alt 9 [10] [10] .leaf .stop) .stop) .stop)) .stop))) (.alt 8 [] [0, 1, 3, 4, 6] (.alt 2 [] [3, 4, 6] (.alt 5 [] [6] (.alt 9 [10] [10] (.alt 11 [] [10] .leaf .stop) (.alt 11 [] [6] (.alt 9 [10] [10] .leaf .stop) .stop)) (.alt 11 [] [3, 4, 6] (.alt 5 [] [6] (.alt 9 [10] [10] .leaf .stop) .stop) .stop)) (.alt 11 [] [0, 1, 3, 4, 6] (.alt 2 [] [3, 4, 6] (.alt 5 [] [6] (.alt 9 [10] [10] .leaf .stop) .stop) .stop) .stop)) (.alt 11 [] [0, 1, 3, 4, 6, 7] (.alt 2 [] [3, 4, 6, 7] (.alt 5 [] [6, 7] (.alt 8 [] [6] (.alt 9 [10] [10] .leaf .stop) .stop) (.alt 8 [] [3, 4, 6] (.alt 5 [] [6] (.alt 9 [10] [10] .leaf .stop) .stop) .stop)) (.alt 8 [] [0, 1, 3, 4, 6] (.alt 2 [] [3, 4, 6] (.alt 5 [] [6] (.alt 9 [10] [10] .leaf .stop) .stop) .stop) .stop)) .stop))) (by kernel_rfl) (by kernel_rfl) (by kernel_rfl) (fun K hK => ?_)
        refine join_sim ⟨[(4, .ptr 0 0), (9, .ptr 1 0)], [.box [.nils, .nils], .box [.ref 2 3 0 ((impl_clone_Spare a0.Spares).length), .ref 3 3 0 (((slices_Insert_Entry (impl_clone_Entry a0.Entries) s1 [a1])).length)], .arr 30 3 (impl_clone_Spare a0.Spares).length (fun j => eSpare ((impl_clone_Spare a0.Spares).getD j default)), .arr 33 3 ((slices_Insert_Entry (impl_clone_Entry a0.Entries) s1 [a1])).length (fun j => eEntry (((slices_Insert_Entry (impl_clone_Entry a0.Entries) s1 [a1])).getD j default))]⟩ hK ?_ (fun hJ => ?_)
        rotate_left
        · simp only [rootP, runN, runP, recheck, nthO, ea, absV, absVL, gv, sv, D_impl_ValidStore, D_impl_clone_Spare, D_impl_clone_Entry, D_impl_Store_spareOf, D_slices_Insert_Entry, reduceCtorEq, reduceIte, Nat.reduceBEq, Nat.reduceAdd, Nat.reduceEqDiff, Nat.reduceLT, Nat.reduceLeDiff, Nat.reduceMul, Nat.reduceSub, BEq.rfl, beq_self_eq_true, Int.reduceToNat]
          repeat' apply And.intro
          all_goals first | (refine hJ _ [2, 7, 3, 6] ?_; (simp only [si, ea, gv, sv, hk, reduceCtorEq, reduceIte, Nat.reduceBEq, Nat.reduceAdd, Nat.reduceEqDiff, Nat.reduceLT, Nat.reduceLeDiff, Nat.reduceMul, Nat.reduceSub, BEq.rfl, beq_self_eq_true, Int.reduceToNat]; trivial)) | (refine hJ _ [2, 6, 3, 7] ?_; (simp only [si, ea, gv, sv, hk, reduceCtorEq, reduceIte, Nat.reduceBEq, Nat.reduceAdd, Nat.reduceEqDiff, Nat.reduceLT, Nat.reduceLeDiff, Nat.reduceMul, Nat.reduceSub, BEq.rfl, beq_self_eq_true, Int.reduceToNat]; trivial)) | (refine hJ _ [2, 5, 3, 7] ?_; (simp only [si, ea, gv, sv, hk, reduceCtorEq, reduceIte, Nat.reduceBEq, Nat.reduceAdd, Nat.reduceEqDiff, Nat.reduceLT, Nat.reduceLeDiff, Nat.reduceMul, Nat.reduceSub, BEq.rfl, beq_self_eq_true, Int.reduceToNat]; trivial)) | (refine hJ _ [2, 4, 3, 7] ?_; (simp only [si, ea, gv, sv, hk, reduceCtorEq, reduceIte, Nat.reduceBEq, Nat.reduceAdd, Nat.reduceEqDiff, Nat.reduceLT, Nat.reduceLeDiff, Nat.reduceMul, Nat.reduceSub, BEq.rfl, beq_self_eq_true, Int.reduceToNat]; trivial)) | (refine hJ _ [2, 7, 4, 6] ?_; (simp only [si, ea, gv, sv, hk, reduceCtorEq, reduceIte, Nat.reduceBEq, Nat.reduceAdd, Nat.reduceEqDiff, Nat.reduceLT, Nat.reduceLeDiff, Nat.reduceMul, Nat.reduceSub, BEq.rfl, beq_self_eq_true, Int.reduceToNat]; trivial)) | (refine hJ _ [2, 6, 4, 7] ?_; (simp only [si, ea, gv, sv, hk, reduceCtorEq, reduceIte, Nat.reduceBEq, Nat.reduceAdd, Nat.reduceEqDiff, Nat.reduceLT, Nat.reduceLeDiff, Nat.reduceMul, Nat.reduceSub, BEq.rfl, beq_self_eq_true, Int.reduceToNat]; trivial)) | (refine hJ _ [2, 5, 4, 7] ?_; (simp only [si, ea, gv, sv, hk, reduceCtorEq, reduceIte, Nat.reduceBEq, Nat.reduceAdd, Nat.reduceEqDiff, Nat.reduceLT, Nat.reduceLeDiff, Nat.reduceMul, Nat.reduceSub, BEq.rfl, beq_self_eq_true, Int.reduceToNat]; trivial)) | (refine hJ _ [2, 4, 5, 7] ?_; (simp only [si, ea, gv, sv, hk, reduceCtorEq, reduceIte, Nat.reduceBEq, Nat.reduceAdd, Nat.reduceEqDiff, Nat.reduceLT, Nat.reduceLeDiff, Nat.reduceMul, Nat.reduceSub, BEq.rfl, beq_self_eq_true, Int.reduceToNat]; trivial)) | (refine hJ _ [2, 3, 4, 7] ?_; (simp only [si, ea, gv, sv, hk, reduceCtorEq, reduceIte, Nat.reduceBEq, Nat.reduceAdd, Nat.reduceEqDiff, Nat.reduceLT, Nat.reduceLeDiff, Nat.reduceMul, Nat.reduceSub, BEq.rfl, beq_self_eq_true, Int.reduceToNat]; trivial)) | (refine hJ _ [2, 3, 5, 7] ?_; (simp only [si, ea, gv, sv, hk, reduceCtorEq, reduceIte, Nat.reduceBEq, Nat.reduceAdd, Nat.reduceEqDiff, Nat.reduceLT, Nat.reduceLeDiff, Nat.reduceMul, Nat.reduceSub, BEq.rfl, beq_self_eq_true, Int.reduceToNat]; trivial)) | (first | trivial | omega | (simp only [ob, ln, bdv, impl_clone_Spare_id, impl_clone_Entry_id, sv] at *; omega) | ((try clear hK K); (repeat' (intro _)) <;> (simp only [ob, ln, bdv, impl_clone_Spare_id, impl_clone_Entry_id, sv] at *; (simp_all; done))))
        clear hK K
        refine AWP.seq ?_
        refine AWP.seq ?_
        refine AWP.regS G_ok impl_Store_put_DD hc (by kernel_rfl) (fun K hK => ?_); simp only [ea, absV, absVL, gv, sv, D_impl_ValidStore, D_impl_clone_Spare, D_impl_clone_Entry, D_impl_Store_spareOf, D_slices_Insert_Entry, reduceCtorEq, reduceIte, Nat.reduceBEq, Nat.reduceAdd, Nat.reduceEqDiff, Nat.reduceLT, Nat.reduceLeDiff, Nat.reduceMul, Nat.reduceSub, BEq.rfl, beq_self_eq_true, Int.reduceToNat]
        (refine ⟨by (((try clear hK K); (repeat' first | apply And.intro | intro _) <;> first | omega | solve_by_elim | (right; (simp only [si, ea, gv, sv, hk, reduceCtorEq, reduceIte, Nat.reduceBEq, Nat.reduceAdd, Nat.reduceEqDiff, Nat.reduceLT, Nat.reduceLeDiff, Nat.reduceMul, Nat.reduceSub, BEq.rfl, beq_self_eq_true, Int.reduceToNat]; (and_intros <;> (simp only [ob, ln, bdv, impl_clone_Spare_id, impl_clone_Entry_id, sv] at *; (grind [impl_ValidStore_len, impl_Store_spareOf_le, slices_Insert_Entry_len, slices_Insert_Entry_mem]))))) | (simp only [ob, ln, bdv, impl_clone_Spare_id, impl_clone_Entry_id, sv] at *; first | omega | (simp_all; done)))), hK _ ?_⟩)
        clear hK K
        refine AWP.cond rfl (fun hb => ?_) (fun hb => ?_)
        · (simp only [hb, cond_true] at hR)
          refine AWP.seq ?_
          refine AWP.regS G_ok impl_Store_put_DD hc (by kernel_rfl) (fun K hK => ?_); simp only [ea, absV, absVL, gv, sv, D_impl_ValidStore, D_impl_clone_Spare, D_impl_clone_Entry, D_impl_Store_spareOf, D_slices_Insert_Entry, reduceCtorEq, reduceIte, Nat.reduceBEq, Nat.reduceAdd, Nat.reduceEqDiff, Nat.reduceLT, Nat.reduceLeDiff, Nat.reduceMul, Nat.reduceSub, BEq.rfl, beq_self_eq_true, Int.reduceToNat]
          (refine hK _ ?_)
          clear hK K
          refine AWP.ret ?_
          subst hR
          (simp only [en, si, ea, gv, sv, hk, reduceCtorEq, reduceIte, Nat.reduceBEq, Nat.reduceAdd, Nat.reduceEqDiff, Nat.reduceLT, Nat.reduceLeDiff, Nat.reduceMul, Nat.reduceSub, BEq.rfl, beq_self_eq_true, Int.reduceToNat]; done)
        · (simp only [hb, cond_false] at hR)
          refine AWP.skip ?_
          refine AWP.seq ?_
          refine AWP.regS G_ok impl_Store_put_DD hc (by kernel_rfl) (fun K hK => ?_); simp only [ea, absV, absVL, gv, sv, D_impl_ValidStore, D_impl_clone_Spare, D_impl_clone_Entry, D_impl_Store_spareOf, D_slices_Insert_Entry, reduceCtorEq, reduceIte, Nat.reduceBEq, Nat.reduceAdd, Nat.reduceEqDiff, Nat.reduceLT, Nat.reduceLeDiff, Nat.reduceMul, Nat.reduceSub, BEq.rfl, beq_self_eq_true, Int.reduceToNat]
          (refine hK _ ?_)
          clear hK K
          refine AWP.ret ?_
          subst hR
          (simp only [en, si, ea, gv, sv, hk, reduceCtorEq, reduceIte, Nat.reduceBEq, Nat.reduceAdd, Nat.reduceEqDiff, Nat.reduceLT, Nat.reduceLeDiff, Nat.reduceMul, Nat.reduceSub, BEq.rfl, beq_self_eq_true, Int.reduceToNat]; (and_intros <;> omega))
def D_impl_Store_put : DF
  | [x0, x1] => some (.tup [.agg (eStoreO ((impl_Store_put (rdG dStore x0) (rdG dEntry x1)).1)), .int .i64 ((impl_Store_put (rdG dStore x0) (rdG dEntry x1)).2)], false, [wG eStore dStore x0, wG eEntry dEntry x1, bdStore (rdG dStore x0), bdEntry (rdG dEntry x1), (rdG dStore x0).Entries.length ≤ 1048576])
  | _ => none
def Dz_impl_Store_put : DF
  | [x0, x1] => some (.tup [.agg (eStoreO ((impl_Store_put (rdG dStore x0) (rdG dEntry x1)).1)), .int .i64 ((impl_Store_put (rdG dStore x0) (rdG dEntry x1)).2)], true, [wG eStore dStore x0, wG eEntry dEntry x1, bdStore (rdG dStore x0), bdEntry (rdG dEntry x1), (rdG dStore x0).Entries.length ≤ 1048576])
  | _ => none
theorem D_impl_Store_put_ok : OkD Tryz.prog 35 D_impl_Store_put := by
  intro xs r z ob h ho
  unfold D_impl_Store_put at h
  split at h
  · simp only [Option.some.injEq, Prod.mk.injEq] at h
    obtain ⟨rfl, rfl, rfl⟩ := h
    obtain ⟨h0, h1, hb0, hb1, hp0, _⟩ := ho
    exact Den.sim (impl_Store_put_den _ _ hb0 hb1 hp0) (simOL_cons (wG_sim h0).1 <| simOL_cons (wG_sim h1).1 <| trivial) (noIdL_cons (wG_sim h0).2 <| noIdL_cons (wG_sim h1).2 <| rfl) rfl
  · cases h
theorem Dz_impl_Store_put_ok : OkD Tryz.prog 35 Dz_impl_Store_put := by
  intro xs r z ob h ho
  unfold Dz_impl_Store_put at h
  split at h
  · simp only [Option.some.injEq, Prod.mk.injEq] at h
    obtain ⟨rfl, rfl, rfl⟩ := h
    obtain ⟨h0, h1, hb0, hb1, hp0, _⟩ := ho
    exact Den.sim (impl_Store_put_den _ _ hb0 hb1 hp0) (simOL_cons (wG_sim h0).1 <| simOL_cons (wG_sim h1).1 <| trivial) (noIdL_cons (wG_sim h0).2 <| noIdL_cons (wG_sim h1).2 <| rfl) rfl
  · cases h
end Go.Ab

namespace Go.Ab
open Go Go.Proofs
theorem impl_Store_put_spec (a : Store) (e : Entry) (hl : a.Entries.length < 9223372036854775808) : ∃ j : Nat, j ≤ a.Entries.length ∧ (∀ q, q < j → (a.Entries.getD q default).Day ≤ e.Day) ∧ (j = a.Entries.length ∨ ¬ (a.Entries.getD j default).Day ≤ e.Day) ∧
    impl_Store_put a e = (bif (!((impl_Store_spareOf a e.Item).2)) then ({ Spares := [], Entries := [] : Store }, 3) else (bif ((a.Entries.length : Int) == 48) then ({ Spares := [], Entries := [] : Store }, 5) else (bif (!(impl_ValidStore { Spares := a.Spares, Entries := a.Entries.take j ++ [e] ++ a.Entries.drop j : Store })) then ({ Spares := [], Entries := [] : Store }, 6) else ({ Spares := a.Spares, Entries := a.Entries.take j ++ [e] ++ a.Entries.drop j : Store }, 0)))) := by
  unfold impl_Store_put
  obtain ⟨j, h1, h2, h3, h4, h5⟩ := loopW_upto (ρ := Store × Int) (b := impl_Store_put_b1 a e) (fun j => decide ((a.Entries.getD j default).Day ≤ e.Day)) a.Entries.length (fun j hj => by
    simp only [impl_Store_put_b1, Int.toNat_natCast]
    have hw : j < a.Entries.length → IntKind.wrap .i64 ((j : Int) + 1) = ((j + 1 : Nat) : Int) := fun h => wrap_nat h hl
    by_cases hj' : j < a.Entries.length
    · rw [hw hj']
      simp [hj']
    · simp [hj']) ((a.Entries.length - ((0 : Int)).toNat) + 1) 0 (by omega) (by simp)
  rw [show ((0 : Nat) : Int) = 0 from rfl] at h5
  refine ⟨j, h2, fun q hq => by simpa using h3 q (by omega) hq, by simpa using h4, ?_⟩
  rw [h5]
  simp only [impl_clone_Spare_id, impl_clone_Entry_id, slices_Insert_Entry, Int.toNat_natCast]
theorem impl_Store_put_keep (a : Store) (e : Entry) (hl : a.Entries.length < 9223372036854775808) (h : (impl_Store_put a e).2 = 0) :
    (impl_Store_put a e).1.Spares = a.Spares ∧ (impl_Store_put a e).1.Entries.length ≤ 48 ∧ (∀ v, v ∈ (impl_Store_put a e).1.Entries → v ∈ a.Entries ∨ v = e) ∧ impl_ValidStore (impl_Store_put a e).1 = true := by
  obtain ⟨j, h1, h2, h3, h4⟩ := impl_Store_put_spec a e hl
  rw [h4] at h ⊢
  cases hf : (impl_Store_spareOf a e.Item).2 with
  | false => rw [hf] at h; simp at h
  | true =>
    cases h48 : ((a.Entries.length : Int) == 48) with
    | true => rw [hf, h48] at h; simp at h
    | false =>
      cases hv : impl_ValidStore { Spares := a.Spares, Entries := a.Entries.take j ++ [e] ++ a.Entries.drop j : Store } with
      | false => rw [hf, h48, hv] at h; simp at h
      | true =>
        simp only [Bool.not_true, cond_false]
        refine ⟨trivial, (impl_ValidStore_len _ hv).2, ?_, hv⟩
        intro v hv
        simp only [List.mem_append, List.mem_singleton] at hv
        rcases hv with (h | h) | h
        · exact .inl (List.mem_of_mem_take h)
        · exact .inr h
        · exact .inl (List.mem_of_mem_drop h)
end Go.Ab

namespace Go.Ab
open Go Go.Proofs
theorem all_getD {α : Type} [Inhabited α] (l : List α) (P : α → Prop) : (∀ i, i < l.length → P (l.getD i default)) ↔ ∀ x ∈ l, P x := by
  constructor
  · intro h x hx
    obtain ⟨i, hi, rfl⟩ := List.getElem_of_mem hx
    have := h i hi
    rwa [List.getD_eq_getElem?_getD, List.getElem?_eq_getElem hi, Option.getD_some] at this
  · intro h i hi
    rw [List.getD_eq_getElem?_getD, List.getElem?_eq_getElem hi, Option.getD_some]
    exact h _ (List.getElem_mem hi)
theorem place_eq (a : Store) (e : Entry) (hok : OkS a) (j j' : Nat) (h1 : j ≤ a.Entries.length) (h2 : ∀ q, q < j → (a.Entries.getD q default).Day ≤ e.Day) (h3 : j = a.Entries.length ∨ ¬ (a.Entries.getD j default).Day ≤ e.Day)
    (g1 : j' ≤ a.Entries.length) (g2 : ∀ q, j' ≤ q → q < a.Entries.length → e.Day < (a.Entries.getD q default).Day) (g3 : j' = 0 ∨ (a.Entries.getD (j' - 1) default).Day ≤ e.Day) : j = j' := by
  have hs : ∀ (n i : Nat), i + n < a.Entries.length → (a.Entries.getD i default).Day ≤ (a.Entries.getD (i + n) default).Day := by
    intro n
    induction n with
    | zero => intro i _; exact Int.le_refl _
    | succ n ih =>
      intro i hi
      have k1 := ih i (by omega)
      have k2 := hok.e3 (i + (n + 1)) hi (by omega)
      rw [show i + (n + 1) - 1 = i + n by omega] at k2
      omega
  rcases Nat.lt_trichotomy j j' with h | h | h
  · have k := hs (j' - 1 - j) j (by omega)
    rw [show j + (j' - 1 - j) = j' - 1 by omega] at k
    rcases h3 with h3 | h3
    · omega
    · rcases g3 with g3 | g3 <;> omega
  · exact h
  · have := h2 j' h
    have := g2 j' (Nat.le_refl _) (by omega)
    omega
theorem find_sp (s : List Spare) (e e' : List Entry) (k : List UInt8) : spec_l29Find ⟨s, e⟩ k = spec_l29Find ⟨s, e'⟩ k := rfl
theorem ps_skip (k : List UInt8) (e : Entry) (h : e.Item ≠ k) : ∀ (l t : List Entry) (acc : Int), ps k (l ++ e :: t) acc = ps k (l ++ t) acc
  | [], t, acc => by
    have : (e.Item == k) = false := by simpa using h
    simp [ps, this]
  | x :: l, t, acc => by
    simp only [List.cons_append, ps]
    cases x.Item == k with
    | true => simp only [cond_true]; rw [ps_skip k e h l t]
    | false => simp only [cond_false]; rw [ps_skip k e h l t]
theorem ok_put (a : Store) (e : Entry) (hok : OkS a) (he : spec_l29Entry e = true) (j : Nat) (hj : j ≤ a.Entries.length) (h48 : a.Entries.length ≠ 48)
    (h2 : ∀ q, q < j → (a.Entries.getD q default).Day ≤ e.Day) (g2 : ∀ q, j ≤ q → q < a.Entries.length → e.Day < (a.Entries.getD q default).Day) (hf : 0 ≤ spec_l29Find a e.Item) :
    OkS ⟨a.Spares, a.Entries.take j ++ e :: a.Entries.drop j⟩ ↔ spec_l29Flow ⟨a.Spares, a.Entries.take j ++ e :: a.Entries.drop j⟩ (spec_l29Find a e.Item) = true := by
  have hlen : (a.Entries.take j ++ e :: a.Entries.drop j).length = a.Entries.length + 1 := by simp; omega
  rcases spec_l29Find_spec a e.Item with ⟨k, k1, k2, k3, k4⟩ | ⟨_, k1⟩
  · rw [k4]
    constructor
    · intro h; exact h.f k k1
    · intro h
      have hp := days_le a hok
      have hp2 : (a.Entries.take j ++ e :: a.Entries.drop j).Pairwise (fun x y => x.Day ≤ y.Day) := by
        rw [List.pairwise_append]
        refine ⟨hp.sublist (List.take_sublist _ _), List.pairwise_cons.2 ⟨?_, hp.sublist (List.drop_sublist _ _)⟩, ?_⟩
        · intro y hy
          obtain ⟨i, hi, rfl⟩ := List.getElem_of_mem hy
          have := g2 (j + i) (by omega) (by simp at hi; omega)
          rw [List.getElem_drop]
          rw [List.getD_eq_getElem?_getD, List.getElem?_eq_getElem (by simp at hi; omega), Option.getD_some] at this
          omega
        · intro x hx y hy
          have hxd : x.Day ≤ e.Day := by
            obtain ⟨i, hi, rfl⟩ := List.getElem_of_mem hx
            have hij : i < j := by simp at hi; omega
            have := h2 i hij
            rw [List.getElem_take]
            rwa [List.getD_eq_getElem?_getD, List.getElem?_eq_getElem (by omega), Option.getD_some] at this
          rcases List.mem_cons.1 hy with rfl | hy
          · exact hxd
          · obtain ⟨i, hi, rfl⟩ := List.getElem_of_mem hy
            have := g2 (j + i) (by omega) (by simp at hi; omega)
            rw [List.getElem_drop]
            rw [List.getD_eq_getElem?_getD, List.getElem?_eq_getElem (by simp at hi; omega), Option.getD_some] at this
            omega
      have hmem : ∀ x, x ∈ a.Entries.take j ++ e :: a.Entries.drop j → x ∈ a.Entries ∨ x = e := by
        intro x hx
        simp only [List.mem_append, List.mem_cons] at hx
        rcases hx with h | h | h
        · exact .inl (List.mem_of_mem_take h)
        · exact .inr h
        · exact .inl (List.mem_of_mem_drop h)
      refine ⟨hok.l1, by simp only; have := hok.l2; omega, hok.s1, hok.s2, ?_, ?_, ?_, ?_⟩
      · refine (all_getD (a.Entries.take j ++ e :: a.Entries.drop j) (fun x => spec_l29Entry x = true)).2 fun x hx => ?_
        rcases hmem x hx with h | rfl
        · exact (all_getD a.Entries (fun x => spec_l29Entry x = true)).1 hok.e1 x h
        · exact he
      · refine (all_getD (a.Entries.take j ++ e :: a.Entries.drop j) (fun x => 0 ≤ spec_l29Find ⟨a.Spares, a.Entries.take j ++ e :: a.Entries.drop j⟩ x.Item)).2 fun x hx => ?_
        rw [find_sp a.Spares _ a.Entries]
        rcases hmem x hx with h | rfl
        · exact (all_getD a.Entries (fun x => 0 ≤ spec_l29Find a x.Item)).1 hok.e2 x h
        · exact hf
      · intro i hi h0
        have := List.pairwise_iff_getElem.1 hp2 (i - 1) i (by simp only at hi; omega) hi (by omega)
        simp only
        rw [List.getD_eq_getElem?_getD, List.getD_eq_getElem?_getD, List.getElem?_eq_getElem hi, List.getElem?_eq_getElem (by simp only at hi; omega), Option.getD_some, Option.getD_some]
        exact this
      · intro i hi
        by_cases hik : i = k
        · rw [hik]; exact h
        · have hne : e.Item ≠ (a.Spares.getD i default).Name := by
            rw [← k2]
            rcases Nat.lt_or_ge i k with h | h
            · have := names_lt a hok.s2 (k - i - 1) i (by omega)
              rw [show i + (k - i - 1) + 1 = k by omega] at this
              intro hh; rw [hh, less_irrefl] at this; cases this
            · have := names_lt a hok.s2 (i - k - 1) k (by simp only at hi; omega)
              rw [show k + (i - k - 1) + 1 = i by omega] at this
              intro hh; rw [hh, less_irrefl] at this; cases this
          have := hok.f i hi
          rw [flow_eq] at this ⊢
          simp only at this ⊢
          rw [ps_skip _ e hne, List.take_append_drop]
          exact this
  · rw [k1] at hf; simp at hf
theorem put_add (a : Store) (e : Entry) (hok : OkS a) (he : spec_l29Entry e = true) : impl_Store_put a e = spec_l29Add a e ∧ ((spec_l29Add a e).2 = 0 → OkS (spec_l29Add a e).1) := by
  have l1 := hok.l1
  have l2 := hok.l2
  obtain ⟨j, h1, h2, h3, h4⟩ := impl_Store_put_spec a e (by omega)
  obtain ⟨j', g1, g2, g3, g4⟩ := spec_l29Put_spec a e (by omega)
  obtain rfl := place_eq a e hok j j' h1 h2 h3 g1 g2 g3
  rw [h4]
  unfold spec_l29Add
  rw [g4, (found_eq a e.Item (by omega) hok.s2).1]
  by_cases hf : 0 ≤ spec_l29Find a e.Item
  · rw [decide_eq_true hf, decide_eq_false (show ¬ spec_l29Find a e.Item < 0 by omega)]
    cases h48 : ((a.Entries.length : Int) == 48) with
    | true => simp
    | false =>
      have h48' : a.Entries.length ≠ 48 := by intro h; rw [h] at h48; simp at h48
      have hiff := ok_put a e hok he j h1 h48' h2 g2 hf
      have hlen : (a.Entries.take j ++ e :: a.Entries.drop j).length = a.Entries.length + 1 := by simp; omega
      have hv : impl_ValidStore ⟨a.Spares, a.Entries.take j ++ e :: a.Entries.drop j⟩ = spec_l29Flow ⟨a.Spares, a.Entries.take j ++ e :: a.Entries.drop j⟩ (spec_l29Find a e.Item) := by
        apply Bool.eq_iff_iff.2
        rw [implOk_iff _ (by simp only; omega) (by simp only; omega)]
        exact hiff
      have ha : a.Entries.take j ++ [e] ++ a.Entries.drop j = a.Entries.take j ++ e :: a.Entries.drop j := by simp
      simp only [Bool.not_true, cond_false, ha]
      rw [hv]
      refine ⟨rfl, ?_⟩
      cases hq : spec_l29Flow ⟨a.Spares, a.Entries.take j ++ e :: a.Entries.drop j⟩ (spec_l29Find a e.Item) with
      | false => simp
      | true => simp only [Bool.not_true, cond_false]; intro _; exact hiff.2 hq
  · rw [decide_eq_false hf, decide_eq_true (show spec_l29Find a e.Item < 0 by omega)]
    simp
end Go.Ab

namespace Go.Ab
open Go Go.Proofs
theorem draw_loopN (Q : Nat → Store → Prop) (hup : ∀ n st, Q n st → Q (n + 1) st) (hQ : ∀ n st s, Q n st → (spec_AddEntry st (spec_l29DrawEntry s).1).2 = 0 → Q (n + 1) (spec_AddEntry st (spec_l29DrawEntry s).1).1) (a0 : l00Src) :
    ∀ (k : Nat) (s : Int × l00Src × List Spare × List Entry) (n : Nat), s.1.toNat < k → 0 ≤ s.1 → s.1 + n ≤ 9 → Q n { Spares := s.2.2.1, Entries := s.2.2.2 } →
      ∃ t m, m ≤ 9 ∧ loopW (spec_l29Draw_b1 a0) k s = .error (.inr t) ∧ Q m { Spares := t.2.2.1, Entries := t.2.2.2 } := by
  intro k
  induction k with
  | zero => intro s n h; omega
  | succ k ih =>
    intro s n hk h0 h1 hq
    unfold loopW
    cases hb : decide (0 < s.1) with
    | false =>
      refine ⟨(s.1, s.2.1, s.2.2.1, s.2.2.2), n, by omega, ?_, hq⟩
      simp only [spec_l29Draw_b1, hb, cond_false]
    | true =>
      have hp : 0 < s.1 := of_decide_eq_true hb
      have hw : IntKind.wrap .i64 (s.1 - 1) = s.1 - 1 := by rw [IntKind.wrap_i64]; omega
      cases hc : ((spec_AddEntry ({ Spares := s.2.2.1, Entries := s.2.2.2 : Store }) ((spec_l29DrawEntry s.2.1).1)).2 == 0) with
      | true =>
        simp only [spec_l29Draw_b1, hb, hc, cond_true, hw]
        refine ih _ (n + 1) ?_ ?_ ?_ ?_
        · show (s.1 - 1).toNat < k; omega
        · show 0 ≤ s.1 - 1; omega
        · show s.1 - 1 + ((n + 1 : Nat) : Int) ≤ _; omega
        · exact hQ _ _ _ hq (by simpa using hc)
      | false =>
        simp only [spec_l29Draw_b1, hb, hc, cond_true, cond_false, hw]
        refine ih _ (n + 1) ?_ ?_ ?_ (hup _ _ hq)
        · show (s.1 - 1).toNat < k; omega
        · show 0 ≤ s.1 - 1; omega
        · show s.1 - 1 + ((n + 1 : Nat) : Int) ≤ _; omega
theorem specAdd_ok (st : Store) (e : Entry) (h : (spec_AddEntry st e).2 = 0) : OkS (spec_AddEntry st e).1 := by
  unfold spec_AddEntry at h ⊢
  cases h1 : spec_l29Ok st with
  | false => rw [h1] at h; simp at h
  | true =>
    cases h2 : spec_l29Entry e with
    | false => rw [h1, h2] at h; simp at h
    | true =>
      rw [h1, h2] at h
      simp only [Bool.not_true, Bool.or_false, cond_false] at h ⊢
      exact (put_add st e ((specOk_iff st).1 h1) h2).2 h
theorem specAdd_len (st : Store) (e : Entry) (hl : st.Entries.length ≤ 48) (h : (spec_AddEntry st e).2 = 0) : (spec_AddEntry st e).1.Entries.length = st.Entries.length + 1 := by
  obtain ⟨j, h1, h2, h3, h4⟩ := spec_l29Put_spec st e (by omega)
  unfold spec_AddEntry spec_l29Add at h ⊢
  rw [h4] at h ⊢
  simp only [Bool.cond_eq_ite] at h ⊢
  repeat' split at h
  all_goals first
    | (simp at h; done)
    | (simp only [*, if_true, if_false, Bool.false_eq_true, List.length_append, List.length_take, List.length_cons, List.length_drop]; omega)
theorem base_ok (s : l00Src) (h : 0 ≤ (spec_l00Src_pick s 10).1 ∧ (spec_l00Src_pick s 10).1 < 10) : OkS (spec_l29Base s).1 := by
  unfold spec_l29Base
  generalize spec_l00Src_pick s 10 = q at h
  obtain ⟨q1, q2⟩ := q
  obtain ⟨h1, h2⟩ := h
  simp only at h1 h2 ⊢
  have hq : q1 = 0 ∨ q1 = 1 ∨ q1 = 2 ∨ q1 = 3 ∨ q1 = 4 ∨ q1 = 5 ∨ q1 = 6 ∨ q1 = 7 ∨ q1 = 8 ∨ q1 = 9 := by omega
  rcases hq with h | h | h | h | h | h | h | h | h | h <;> subst h <;> exact (specOk_iff _).1 (by kernel_rfl)
theorem r8_ok (a0 : List Int) (h : ∀ v ∈ a0, 0 ≤ v ∧ v ≤ 255) : OkS (spec_R8Store a0) ∧ (spec_R8Store a0).Entries.length ≤ 9 := by
  have hs := r8_from a0 h
  have hp := pick_range 10 hs (by omega)
  have h1 := hs.base (by omega)
  have h2 := pick_range 10 h1 (by omega)
  have h3 := h2.2 (by omega)
  obtain ⟨t, m, hm, ht, hqt⟩ := draw_loopN (fun n st => OkS st ∧ st.Entries.length ≤ n) (fun n st hq => ⟨hq.1, Nat.le_succ_of_le hq.2⟩)
    (fun n st s hq hz => ⟨specAdd_ok _ _ hz, by rw [specAdd_len _ _ hq.1.l2 hz]; exact Nat.succ_le_succ hq.2⟩) (spec_l00From a0)
    (((((spec_l00Src_pick ((spec_l29Base (spec_l00From a0)).2) 10).1)).toNat) + 1) (((spec_l00Src_pick ((spec_l29Base (spec_l00From a0)).2) 10).1), (spec_l00Src_pick ((spec_l29Base (spec_l00From a0)).2) 10).2, ((spec_l29Base (spec_l00From a0)).1).Spares, ((spec_l29Base (spec_l00From a0)).1).Entries) 0
    (Nat.lt_succ_self _) h2.1 (by show (spec_l00Src_pick ((spec_l29Base (spec_l00From a0)).2) 10).1 + ((0 : Nat) : Int) ≤ 9; omega) ⟨base_ok _ ⟨hp.1, hp.2 (by omega)⟩, by simp [spec_l29Base]⟩
  have he : spec_R8Store a0 = { Spares := t.2.2.1, Entries := t.2.2.2 : Store } := by
    unfold spec_R8Store spec_l29Draw
    rw [ht]
  rw [he]
  exact ⟨hqt.1, Nat.le_trans hqt.2 hm⟩
end Go.Ab

namespace Go.Ab
open Go Go.Proofs
end Go.Ab

namespace Go.Ab
open Go Go.Proofs
theorem split_at (a : Store) (hok : OkS a) (e : Entry) : ∃ pre post, a.Entries = pre ++ post ∧ (∀ x ∈ pre, x.Day ≤ e.Day) ∧ (∀ x ∈ post, e.Day < x.Day) ∧ spec_l29Put a e = ⟨a.Spares, pre ++ e :: post⟩ := by
  have l2 := hok.l2
  obtain ⟨j, h1, h2, h3, h4⟩ := impl_Store_put_spec a e (by omega)
  obtain ⟨j', g1, g2, g3, g4⟩ := spec_l29Put_spec a e (by omega)
  obtain rfl := place_eq a e hok j j' h1 h2 h3 g1 g2 g3
  refine ⟨a.Entries.take j, a.Entries.drop j, (List.take_append_drop j _).symm, fun x hx => ?_, fun x hx => ?_, by rw [g4]⟩
  · obtain ⟨q, hq, rfl⟩ := List.getElem_of_mem hx
    rw [List.length_take] at hq
    have := h2 q (by omega)
    rw [List.getD_eq_getElem?_getD, List.getElem?_eq_getElem (by omega), Option.getD_some] at this
    rwa [List.getElem_take]
  · obtain ⟨q, hq, rfl⟩ := List.getElem_of_mem hx
    rw [List.length_drop] at hq
    have := g2 (j + q) (by omega) (by omega)
    rw [List.getD_eq_getElem?_getD, List.getElem?_eq_getElem (by omega), Option.getD_some] at this
    rwa [List.getElem_drop]
end Go.Ab

namespace Go.Ab
open Go Go.Proofs
theorem find_at (a : Store) (hok : OkS a) (i : Nat) (hi : i < a.Spares.length) : spec_l29Find a (a.Spares.getD i default).Name = (i : Int) := by
  rcases spec_l29Find_spec a (a.Spares.getD i default).Name with ⟨j, g1, g2, g3, g4⟩ | ⟨g1, g2⟩
  · rw [g4]
    rcases Nat.lt_trichotomy j i with h | h | h
    · have := names_lt a hok.s2 (i - j - 1) j (by omega)
      rw [show j + (i - j - 1) + 1 = i by omega, g2, less_irrefl] at this
      cases this
    · rw [h]
    · have := names_lt a hok.s2 (j - i - 1) i (by omega)
      rw [show i + (j - i - 1) + 1 = j by omega, g2, less_irrefl] at this
      cases this
  · exact absurd rfl (g1 i hi)
end Go.Ab

namespace Go.Ab
open Go Go.Proofs
theorem impl_AddEntry_DD : DOk Tryz.prog (DD [(31, dP D_impl_isEntry), (34, dP D_impl_ValidStore), (35, dP D_impl_Store_put)]) := DD_cons D_impl_isEntry_ok.e <| DD_cons D_impl_ValidStore_ok.e <| DD_cons D_impl_Store_put_ok.e <| DD_nil _
def impl_AddEntry (a0 : Store) (a1 : Entry) : (Store × Int) :=
  (bif ((!(impl_ValidStore a0)) || (!(impl_isEntry a1))) then ({ Spares := [], Entries := [] : Store }, 1) else ({ Spares := ((impl_Store_put a0 a1).1).Spares, Entries := ((impl_Store_put a0 a1).1).Entries : Store }, (impl_Store_put a0 a1).2))
theorem impl_AddEntry_den (a0 : Store) (a1 : Entry) (hb0 : bdStore a0) (hb1 : bdEntry a1) : Den Tryz.prog 13 [.agg (eStore a0), .agg (eEntry a1)] (.tup [.agg (eStoreO ((impl_AddEntry a0 a1).1)), .int .i64 ((impl_AddEntry a0 a1).2)]) := by
  generalize hR : impl_AddEntry a0 a1 = r
  unfold impl_AddEntry at hR
  refine den_intro G_ok Tryz.func13 (by kernel_rfl) rfl Tryz.ntmps13 (by rw [Tryz.results13]) (by simp) rfl ?_
  intro c hL hc hk
  obtain ⟨hL0, hL1, _⟩ := hL
  have hw0 : bwStore a0 := Store_lens a0 hL0
  have hw1 : bwEntry a1 := Entry_lens a1 hL1
  clear hL0 hL1
  simp only [pars, Nat.zero_add]
  refine AWP.seq ?_
  refine AWP.regS G_ok impl_AddEntry_DD hc (by kernel_rfl) (fun K hK => ?_); simp only [ea, gv, sv, D_impl_isEntry, D_impl_ValidStore, D_impl_Store_put, reduceCtorEq, reduceIte, Nat.reduceBEq, Nat.reduceAdd, Nat.reduceEqDiff, Nat.reduceLT, Nat.reduceLeDiff, Nat.reduceMul, Nat.reduceSub, BEq.rfl, beq_self_eq_true, Int.reduceToNat]
  (refine hK _ ?_)
  clear hK K
  refine AWP.seq ?_
  refine AWP.seq ?_
  refine AWP.regS G_ok impl_AddEntry_DD hc (by kernel_rfl) (fun K hK => ?_); simp only [ea, gv, sv, D_impl_isEntry, D_impl_ValidStore, D_impl_Store_put, reduceCtorEq, reduceIte, Nat.reduceBEq, Nat.reduceAdd, Nat.reduceEqDiff, Nat.reduceLT, Nat.reduceLeDiff, Nat.reduceMul, Nat.reduceSub, BEq.rfl, beq_self_eq_true, Int.reduceToNat]
  (refine ⟨by (trivial), hK _ ?_⟩)
  clear hK K
  refine AWP.cond rfl (fun hb => ?_) (fun hb => ?_)
  · (simp only [hb, cond_true] at hR)
    refine AWP.seq ?_
    refine AWP.regS G_ok impl_AddEntry_DD hc (by kernel_rfl) (fun K hK => ?_); simp only [ea, gv, sv, D_impl_isEntry, D_impl_ValidStore, D_impl_Store_put, reduceCtorEq, reduceIte, Nat.reduceBEq, Nat.reduceAdd, Nat.reduceEqDiff, Nat.reduceLT, Nat.reduceLeDiff, Nat.reduceMul, Nat.reduceSub, BEq.rfl, beq_self_eq_true, Int.reduceToNat]
    (refine hK _ ?_)
    clear hK K
    refine AWP.ret ?_
    subst hR
    (simp only [en, si, ea, gv, sv, hk, reduceCtorEq, reduceIte, Nat.reduceBEq, Nat.reduceAdd, Nat.reduceEqDiff, Nat.reduceLT, Nat.reduceLeDiff, Nat.reduceMul, Nat.reduceSub, BEq.rfl, beq_self_eq_true, Int.reduceToNat]; done)
  · (simp only [hb, cond_false] at hR)
    refine AWP.skip ?_
    refine AWP.seq ?_
    refine AWP.regS G_ok impl_AddEntry_DD hc (by kernel_rfl) (fun K hK => ?_); simp only [ea, gv, sv, D_impl_isEntry, D_impl_ValidStore, D_impl_Store_put, reduceCtorEq, reduceIte, Nat.reduceBEq, Nat.reduceAdd, Nat.reduceEqDiff, Nat.reduceLT, Nat.reduceLeDiff, Nat.reduceMul, Nat.reduceSub, BEq.rfl, beq_self_eq_true, Int.reduceToNat]
    (refine ⟨by (((try clear hK K); (repeat' first | apply And.intro | intro _) <;> first | trivial | (simp only [ob, ln, bdv, sv] at *; first | omega | (simp_all; done) | grind [impl_ValidStore_len]))), hK _ ?_⟩)
    clear hK K
    refine AWP.ret ?_
    subst hR
    (simp only [en, si, ea, gv, sv, hk, reduceCtorEq, reduceIte, Nat.reduceBEq, Nat.reduceAdd, Nat.reduceEqDiff, Nat.reduceLT, Nat.reduceLeDiff, Nat.reduceMul, Nat.reduceSub, BEq.rfl, beq_self_eq_true, Int.reduceToNat]; (and_intros <;> omega))
def D_impl_AddEntry : DF
  | [x0, x1] => some (.tup [.agg (eStoreO ((impl_AddEntry (rdG dStore x0) (rdG dEntry x1)).1)), .int .i64 ((impl_AddEntry (rdG dStore x0) (rdG dEntry x1)).2)], false, [wG eStore dStore x0, wG eEntry dEntry x1, bdStore (rdG dStore x0), bdEntry (rdG dEntry x1)])
  | _ => none
def Dz_impl_AddEntry : DF
  | [x0, x1] => some (.tup [.agg (eStoreO ((impl_AddEntry (rdG dStore x0) (rdG dEntry x1)).1)), .int .i64 ((impl_AddEntry (rdG dStore x0) (rdG dEntry x1)).2)], true, [wG eStore dStore x0, wG eEntry dEntry x1, bdStore (rdG dStore x0), bdEntry (rdG dEntry x1)])
  | _ => none
theorem D_impl_AddEntry_ok : OkD Tryz.prog 13 D_impl_AddEntry := by
  intro xs r z ob h ho
  unfold D_impl_AddEntry at h
  split at h
  · simp only [Option.some.injEq, Prod.mk.injEq] at h
    obtain ⟨rfl, rfl, rfl⟩ := h
    obtain ⟨h0, h1, hb0, hb1, _⟩ := ho
    exact Den.sim (impl_AddEntry_den _ _ hb0 hb1) (simOL_cons (wG_sim h0).1 <| simOL_cons (wG_sim h1).1 <| trivial) (noIdL_cons (wG_sim h0).2 <| noIdL_cons (wG_sim h1).2 <| rfl) rfl
  · cases h
theorem Dz_impl_AddEntry_ok : OkD Tryz.prog 13 Dz_impl_AddEntry := by
  intro xs r z ob h ho
  unfold Dz_impl_AddEntry at h
  split at h
  · simp only [Option.some.injEq, Prod.mk.injEq] at h
    obtain ⟨rfl, rfl, rfl⟩ := h
    obtain ⟨h0, h1, hb0, hb1, _⟩ := ho
    exact Den.sim (impl_AddEntry_den _ _ hb0 hb1) (simOL_cons (wG_sim h0).1 <| simOL_cons (wG_sim h1).1 <| trivial) (noIdL_cons (wG_sim h0).2 <| noIdL_cons (wG_sim h1).2 <| rfl) rfl
  · cases h
end Go.Ab

namespace Go.Ab
open Go Go.Proofs
theorem addE_eq (a : Store) (e : Entry) (ha : bwStore a) : impl_AddEntry a e = spec_AddEntry a e := by
  unfold impl_AddEntry spec_AddEntry
  rw [validStore_eq a ha, isEntry_eq]
  cases h1 : spec_l29Ok a with
  | false => rfl
  | true =>
    cases h2 : spec_l29Entry e with
    | false => rfl
    | true => rw [(put_add a e ((specOk_iff a).1 h1) h2).1]
theorem add_at (a : Store) (hok : OkS a) (ha : bwStore a) (hl : a.Entries.length ≠ 48) (i : Nat) (hi : i < a.Spares.length) (e : Entry) (he : e.Item = (a.Spares.getD i default).Name) (hd : spec_l03Day e.Day = true)
    (h0 : e.Amount ≠ 0) (h1 : -1000 ≤ e.Amount) (h2 : e.Amount ≤ 1000) :
    impl_AddEntry a e = bif spec_l29Flow (spec_l29Put a e) (i : Int) then (spec_l29Put a e, 0) else ({ Spares := [], Entries := [] : Store }, 6) := by
  rw [addE_eq a e ha]
  have hI := hok.s1 i hi
  unfold spec_l29Item at hI
  simp only [Bool.and_eq_true] at hI
  have hE : spec_l29Entry e = true := by
    unfold spec_l29Entry spec_l00In
    rw [hd, he, hI.1.1]
    simp only [Bool.true_and, Bool.and_eq_true, decide_eq_true_eq, bne_iff_ne]
    exact ⟨⟨h1, h2⟩, h0⟩
  have hf : spec_l29Find a e.Item = (i : Int) := by rw [he]; exact find_at a hok i hi
  have hf2 : decide ((i : Int) < 0) = false := decide_eq_false (by omega)
  have h48 : ((a.Entries.length : Int) == 48) = false := by rw [beq_eq_false_iff_ne]; omega
  unfold spec_AddEntry
  rw [(specOk_iff a).2 hok, hE]
  simp only [Bool.not_true, Bool.or_false, cond_false]
  unfold spec_l29Add
  rw [hf, hf2, h48]
  simp only [cond_false]
  cases spec_l29Flow (spec_l29Put a e) (i : Int) <;> rfl
end Go.Ab

namespace Go.Ab
open Go Go.Proofs
theorem impl_at_DD : DOk Tryz.prog (DD []) := DD_nil _
def impl_at (a0 : Int) (a1 : Int) : Bool :=
  (decide (0 ≤ a0) && decide (a0 < a1))
theorem impl_at_den (a0 : Int) (a1 : Int)  : Den Tryz.prog 36 [.int .i64 a0, .int .i64 a1] (.bool (impl_at a0 a1)) := by
  generalize hR : impl_at a0 a1 = r
  unfold impl_at at hR
  refine den_intro G_ok Tryz.func36 (by kernel_rfl) rfl Tryz.ntmps36 (by rw [Tryz.results36]) (by simp) rfl ?_
  intro c hL hc hk
  clear hL
  simp only [pars, Nat.zero_add]
  refine AWP.seq ?_
  refine AWP.regS G_ok impl_at_DD hc (by kernel_rfl) (fun K hK => ?_); simp only [ea, gv, sv, reduceCtorEq, reduceIte, Nat.reduceBEq, Nat.reduceAdd, Nat.reduceEqDiff, Nat.reduceLT, Nat.reduceLeDiff, Nat.reduceMul, Nat.reduceSub, BEq.rfl, beq_self_eq_true, Int.reduceToNat]
  (refine hK _ ?_)
  clear hK K
  refine AWP.seq ?_
  refine AWP.regS G_ok impl_at_DD hc (by kernel_rfl) (fun K hK => ?_); simp only [ea, gv, sv, reduceCtorEq, reduceIte, Nat.reduceBEq, Nat.reduceAdd, Nat.reduceEqDiff, Nat.reduceLT, Nat.reduceLeDiff, Nat.reduceMul, Nat.reduceSub, BEq.rfl, beq_self_eq_true, Int.reduceToNat]
  (refine hK _ ?_)
  clear hK K
  refine AWP.ret ?_
  subst hR
  (simp only [en, si, ea, gv, sv, hk, reduceCtorEq, reduceIte, Nat.reduceBEq, Nat.reduceAdd, Nat.reduceEqDiff, Nat.reduceLT, Nat.reduceLeDiff, Nat.reduceMul, Nat.reduceSub, BEq.rfl, beq_self_eq_true, Int.reduceToNat]; done)
def D_impl_at : DF
  | [x0, x1] => some (.bool (impl_at (rdI x0) (rdI x1)), false, [wI .i64 x0, wI .i64 x1])
  | _ => none
theorem D_impl_at_ok : OkD Tryz.prog 36 D_impl_at := by
  intro xs r z ob h ho
  unfold D_impl_at at h
  split at h
  · simp only [Option.some.injEq, Prod.mk.injEq] at h
    obtain ⟨rfl, rfl, rfl⟩ := h
    obtain ⟨h0, h1, _⟩ := ho
    exact Den.sim (impl_at_den _ _ ) (simOL_cons (wI_sim h0).1 <| simOL_cons (wI_sim h1).1 <| trivial) (noIdL_cons (wI_sim h0).2 <| noIdL_cons (wI_sim h1).2 <| rfl) rfl
  · cases h
end Go.Ab

namespace Go.Ab
open Go Go.Proofs Go.RowKit Go.Lib Go.Shelf
theorem slices_Delete_Entry_DD : DOk Tryz.prog (DD []) := DD_nil _
set_option maxHeartbeats 4000000 in
set_option maxRecDepth 100000 in
theorem slices_Delete_Entry_raw : DelRaw Tryz.prog 38 33 3 := by
  intro w b cap n i j cur A C B hij hjn hA hC hB oB hb hcs hnc hcm hold
  obtain ⟨i0, z, ET⟩ := ElT.mk' (tS := 25) (tE := 33) G_ok rfl rfl rfl (by decide)
  obtain ⟨u0, inf0, zero0, size0, byt0, zs0, pos0, zone0⟩ := ET
  have mixed : Tryz.prog.follows .mixedOrders = true := by kernel_rfl
  have hz2 : ¬ ((i : Int) = (j : Int)) := by omega
  have hcSX : cap ≤ 9223372036854775807 := hcm
  have hic : i ≤ cap := by omega
  have hjc : j ≤ cap := by omega
  have hin : i ≤ n := by omega
  have hnn : i + (n - j) = n - (j - i) := by omega
  have hgA : ∀ (k : Nat) (u : Value), A[k]? = some u → cur[k]? = some u := by
    intro k u hu
    have hj : k < A.length := (List.getElem?_eq_some_iff.1 hu).1
    rw [hold k (by omega), List.append_assoc, List.getElem?_append_left hj, hu]
  have hgB : ∀ (k : Nat) (u : Value), B[k]? = some u → cur[j * 3 + k]? = some u := by
    intro k u hu
    have hj : k < B.length := (List.getElem?_eq_some_iff.1 hu).1
    rw [hold _ (by omega), List.getElem?_append_right (by simp only [List.length_append]; omega), show j * 3 + k - (A ++ C).length = k by simp only [List.length_append]; omega, hu]
  obtain ⟨src, hsrc⟩ : ∃ src : Addr, (if cap = j then (⟨b, 0, none⟩ : Addr) else ⟨b, j * 3, none⟩) = src := ⟨_, rfl⟩
  have hsc : ∀ (k : Nat) (u : Value), B[k]? = some u → w.drew.cell? (src.add k) = some u := by
    intro k u hu
    have hj : k < B.length := (List.getElem?_eq_some_iff.1 hu).1
    rw [← hsrc, if_neg (by omega), Addr.add_lit, cell_of_row w.drew b _ cur 33 (0, 0) hb]
    exact hgB k u hu
  obtain ⟨cur1, hcur1⟩ : ∃ cur1, cur1 = (putV (i * 3) B cur.toList).toArray := ⟨_, rfl⟩
  have hl1 : cur1.size = cap * 3 := by rw [hcur1]; simp [putV_length, hcs]
  have hap : ∀ ty, (Builtin.append_ #[25, 25] ty #[.slice (some ⟨b, 0, none⟩) i cap, .slice (some src) (n - j) (cap - j)]).run Tryz.prog w.drew = .ok (.slice (some ⟨b, 0, none⟩) (n - (j - i)) cap) (w.drew.setRow b cur1) := fun ty => by
    have h := run_append_room (P := Tryz.prog) w.drew 25 ty 33 i0 u0 inf0 b i cap cur hb src (n - j) (cap - j) B (by rw [size0]; exact hB) hsc oB (by omega) (by rw [size0]; omega)
    rw [size0, seg_putV (i * 3) B cur.toList (by simp; omega), ← hcur1, hnn] at h
    exact h
  have hr1 : (w.drew.setRow b cur1).heap[b]? = some (.cells cur1 33 (0, 0)) := setRow_heap w.drew b cur cur1 33 (0, 0) hb
  obtain ⟨cur2, hcur2⟩ : ∃ cur2, cur2 = (putV ((n - (j - i)) * 3) ((List.range (j - i)).flatMap fun _ => z.cells.toList) cur1.toList).toArray := ⟨_, rfl⟩
  have hcl : ∀ ty c, (Builtin.clear_ #[25] ty #[.slice (some ⟨b, (n - (j - i)) * 3, none⟩) (n - (n - (j - i))) c]).run Tryz.prog (w.drew.setRow b cur1) = .ok (.tuple #[]) ((w.drew.setRow b cur1).setRow b cur2) := fun ty c => by
    rw [show n - (n - (j - i)) = j - i by omega, hcur2]
    exact run_clearE _ 25 ty 33 i0 z u0 inf0 zero0 (by rw [size0]; exact zs0) zone0 b _ (j - i) c 33 cur1 hr1 (by rw [size0, hl1]; omega) (by omega)
  have hvl := flat_len (vs := fun _ => z.cells.toList) (e := 3) (j - i) (fun _ _ => by simpa using zs0)
  have fin : AppOut w ((w.drew.setRow b cur1).setRow b cur2) 33 3 (n - (j - i)) 0 (some b) (A ++ B) [] b cap cur2 := by
    refine ⟨rfl, rfl, rfl, by simp, ?_, setRow_heap _ b cur1 _ 33 (0, 0) hr1, by rw [hcur2]; simp [putV_length, hl1], by omega, hcm, ?_, fun j hj => by omega, .inl rfl⟩
    · intro k hk hkb
      rw [setRow_other _ b k _ hkb, setRow_other w.drew b k _ hkb]; rfl
    · intro k hk
      rw [hcur2]
      simp only [List.getElem?_toArray, putV_get]
      rw [if_neg (by omega), hcur1]
      simp only [putV_get]
      by_cases h1 : k < i * 3
      · rw [if_neg (by omega), List.getElem?_append_left (by omega)]
        have : A[k]? = some A[k] := List.getElem?_eq_getElem (by omega)
        rw [this]; simpa using hgA k _ this
      · rw [if_pos (by simp only [Array.length_toList]; omega), List.getElem?_append_right (by omega), hA]
  have hile : i ≤ j := by omega
  have hne1 : ¬ (cap = n - (j - i)) := by omega
  have hle1 : n - (j - i) ≤ n := by omega
  by_cases hcj : cap = j
  all_goals
    first | rw [if_pos hcj] at hsrc | rw [if_neg hcj] at hsrc
    subst hsrc
    try subst hcj
    clear hold hgA hgB hcs hb hA hC hB oB zero0 byt0 zs0 zone0 size0 hr1 hcur1 hcur2 hl1 hvl hsc hnn
    go_enter Tryz.func38, Tryz.ntmps38
    go_wp2
    go_region_law_o (refine step_appendE rfl _ _ 25 25 rfl _ _ (by simp [Act.eval, Act.put] <;> omega) (by simp [Act.eval, Act.put] <;> omega) (hap _) ?_)
    go_wp2
    go_ret
    (exact ⟨_, rfl, fin⟩)
def slices_Delete_Entry (a0 : (List Entry)) (a1 : Int) (a2 : Int) : List Entry := a0.take a1.toNat ++ a0.drop a2.toNat
theorem slices_Delete_Entry_den (a0 : (List Entry)) (a1 : Int) (a2 : Int) (hp0 : 0 ≤ a1) (hp1 : a1 < a2) (hp2 : a2 ≤ a0.length) : DenM Tryz.prog 38 [ownL 33 3 eEntry a0, .int .i64 a1, .int .i64 a2] (ownL 33 3 eEntry (slices_Delete_Entry a0 a1 a2)) [.any, .any, .any] :=
  del_den ⟨_, Tryz.func38, rfl, rfl⟩ slices_Delete_Entry_raw (fun v => by simp [eEntry, ownL, NoBorL, NoBor]) a0 a1 a2 hp0 hp1 hp2
def D_slices_Delete_Entry : List AV → Option (AV × List AV × List Prop)
  | [x0, x1, x2] => some (ownL 33 3 eEntry (slices_Delete_Entry (rdL dEntry x0) (rdI x1) (rdI x2)), [.any, .any, .any], [wO 33 3 eEntry dEntry x0, wI .i64 x1, wI .i64 x2, 0 ≤ (rdI x1), (rdI x1) < (rdI x2), (rdI x2) ≤ (rdL dEntry x0).length])
  | _ => none
theorem D_slices_Delete_Entry_ok : OkM Tryz.prog 38 D_slices_Delete_Entry := by
  intro xs r outs ob h ho
  unfold D_slices_Delete_Entry at h
  split at h
  · simp only [Option.some.injEq, Prod.mk.injEq] at h
    obtain ⟨rfl, rfl, rfl⟩ := h
    obtain ⟨h0, h1, h2, hp0, hp1, hp2, _⟩ := ho
    exact DenM.sim (slices_Delete_Entry_den _ _ _ hp0 hp1 hp2) (simOL_cons (wO_sim h0) <| simOL_cons (wI_sim h1).1 <| simOL_cons (wI_sim h2).1 <| trivial)
  · cases h
end Go.Ab

namespace Go.Ab
open Go Go.Proofs
theorem slices_Delete_Entry_len (l : List Entry) (i j : Int) (h0 : i ≤ j) : (slices_Delete_Entry l i j).length ≤ l.length := by
  simp [slices_Delete_Entry]; omega
theorem slices_Delete_Entry_mem (l : List Entry) (i j : Int) (v : Entry) (h : v ∈ slices_Delete_Entry l i j) : v ∈ l := by
  simp only [slices_Delete_Entry, List.mem_append] at h
  rcases h with h | h
  · exact List.mem_of_mem_take h
  · exact List.mem_of_mem_drop h
end Go.Ab

namespace Go.Ab
open Go Go.Proofs
theorem impl_DropEntry_DD : DOk Tryz.prog (DD [(34, dP D_impl_ValidStore), (36, dP D_impl_at), (37, dP D_impl_clone_Spare), (38, dM [true, false, false] D_slices_Delete_Entry), (39, dP D_impl_clone_Entry)]) := DD_cons D_impl_ValidStore_ok.e <| DD_cons D_impl_at_ok.e <| DD_cons D_impl_clone_Spare_ok.e <| DD_cons D_slices_Delete_Entry_ok.e <| DD_cons D_impl_clone_Entry_ok.e <| DD_nil _
def impl_DropEntry (a0 : Store) (a1 : Int) : (Store × Int) :=
  (bif (!(impl_ValidStore a0)) then ({ Spares := [], Entries := [] : Store }, 1) else (bif (!(impl_at a1 (a0.Entries.length : Int))) then ({ Spares := [], Entries := [] : Store }, 2) else (bif (!(impl_ValidStore ({ Spares := (impl_clone_Spare a0.Spares), Entries := ((slices_Delete_Entry (impl_clone_Entry a0.Entries) a1 (IntKind.wrap .i64 (a1 + 1)))) : Store }))) then ({ Spares := [], Entries := [] : Store }, 6) else ({ Spares := (impl_clone_Spare a0.Spares), Entries := ((slices_Delete_Entry (impl_clone_Entry a0.Entries) a1 (IntKind.wrap .i64 (a1 + 1)))) : Store }, 0))))
theorem impl_DropEntry_den (a0 : Store) (a1 : Int) (hb0 : bdStore a0) : Den Tryz.prog 14 [.agg (eStore a0), .int .i64 a1] (.tup [.agg (eStoreO ((impl_DropEntry a0 a1).1)), .int .i64 ((impl_DropEntry a0 a1).2)]) := by
  generalize hR : impl_DropEntry a0 a1 = r
  unfold impl_DropEntry at hR
  refine den_intro G_ok Tryz.func14 (by kernel_rfl) rfl Tryz.ntmps14 (by rw [Tryz.results14]) (by simp) rfl ?_
  intro c hL hc hk
  obtain ⟨hL0, hL1, _⟩ := hL
  have hw0 : bwStore a0 := Store_lens a0 hL0
  clear hL0 hL1
  simp only [pars, Nat.zero_add]
  refine AWP.seq ?_
  refine AWP.regS G_ok impl_DropEntry_DD hc (by kernel_rfl) (fun K hK => ?_); simp only [ea, absV, absVL, gv, sv, D_impl_ValidStore, D_impl_at, D_impl_clone_Spare, D_slices_Delete_Entry, D_impl_clone_Entry, reduceCtorEq, reduceIte, Nat.reduceBEq, Nat.reduceAdd, Nat.reduceEqDiff, Nat.reduceLT, Nat.reduceLeDiff, Nat.reduceMul, Nat.reduceSub, BEq.rfl, beq_self_eq_true, Int.reduceToNat]
  (refine hK _ ?_)
  clear hK K
  refine AWP.seq ?_
  refine AWP.seq ?_
  refine AWP.regS G_ok impl_DropEntry_DD hc (by kernel_rfl) (fun K hK => ?_); simp only [ea, absV, absVL, gv, sv, D_impl_ValidStore, D_impl_at, D_impl_clone_Spare, D_slices_Delete_Entry, D_impl_clone_Entry, reduceCtorEq, reduceIte, Nat.reduceBEq, Nat.reduceAdd, Nat.reduceEqDiff, Nat.reduceLT, Nat.reduceLeDiff, Nat.reduceMul, Nat.reduceSub, BEq.rfl, beq_self_eq_true, Int.reduceToNat]
  (refine ⟨by (trivial), hK _ ?_⟩)
  clear hK K
  refine AWP.cond rfl (fun hb => ?_) (fun hb => ?_)
  · (simp only [hb, cond_true] at hR)
    refine AWP.seq ?_
    refine AWP.regS G_ok impl_DropEntry_DD hc (by kernel_rfl) (fun K hK => ?_); simp only [ea, absV, absVL, gv, sv, D_impl_ValidStore, D_impl_at, D_impl_clone_Spare, D_slices_Delete_Entry, D_impl_clone_Entry, reduceCtorEq, reduceIte, Nat.reduceBEq, Nat.reduceAdd, Nat.reduceEqDiff, Nat.reduceLT, Nat.reduceLeDiff, Nat.reduceMul, Nat.reduceSub, BEq.rfl, beq_self_eq_true, Int.reduceToNat]
    (refine hK _ ?_)
    clear hK K
    refine AWP.ret ?_
    subst hR
    (simp only [en, si, ea, gv, sv, hk, reduceCtorEq, reduceIte, Nat.reduceBEq, Nat.reduceAdd, Nat.reduceEqDiff, Nat.reduceLT, Nat.reduceLeDiff, Nat.reduceMul, Nat.reduceSub, BEq.rfl, beq_self_eq_true, Int.reduceToNat]; done)
  · (simp only [hb, cond_false] at hR)
    refine AWP.skip ?_
    refine AWP.seq ?_
    refine AWP.seq ?_
    refine AWP.regS G_ok impl_DropEntry_DD hc (by kernel_rfl) (fun K hK => ?_); simp only [ea, absV, absVL, gv, sv, D_impl_ValidStore, D_impl_at, D_impl_clone_Spare, D_slices_Delete_Entry, D_impl_clone_Entry, reduceCtorEq, reduceIte, Nat.reduceBEq, Nat.reduceAdd, Nat.reduceEqDiff, Nat.reduceLT, Nat.reduceLeDiff, Nat.reduceMul, Nat.reduceSub, BEq.rfl, beq_self_eq_true, Int.reduceToNat]
    (refine hK _ ?_)
    clear hK K
    refine AWP.cond rfl (fun hb => ?_) (fun hb => ?_)
    · (simp only [hb, cond_true] at hR)
      refine AWP.seq ?_
      refine AWP.regS G_ok impl_DropEntry_DD hc (by kernel_rfl) (fun K hK => ?_); simp only [ea, absV, absVL, gv, sv, D_impl_ValidStore, D_impl_at, D_impl_clone_Spare, D_slices_Delete_Entry, D_impl_clone_Entry, reduceCtorEq, reduceIte, Nat.reduceBEq, Nat.reduceAdd, Nat.reduceEqDiff, Nat.reduceLT, Nat.reduceLeDiff, Nat.reduceMul, Nat.reduceSub, BEq.rfl, beq_self_eq_true, Int.reduceToNat]
      (refine hK _ ?_)
      clear hK K
      refine AWP.ret ?_
      subst hR
      (simp only [en, si, ea, gv, sv, hk, reduceCtorEq, reduceIte, Nat.reduceBEq, Nat.reduceAdd, Nat.reduceEqDiff, Nat.reduceLT, Nat.reduceLeDiff, Nat.reduceMul, Nat.reduceSub, BEq.rfl, beq_self_eq_true, Int.reduceToNat]; done)
    · (simp only [hb, cond_false] at hR)
      refine AWP.skip ?_
      refine AWP.seq ?_
      refine AWP.regP mixed G_ok impl_DropEntry_DD hc 12 [0, 1, 3, 4, 6, 7, 8] (.alt 2 [] [3, 4, 6, 7, 8] (.alt 5 [] [6, 7, 8] (.alt 9 [10] [10] (.alt 11 [] [10] .leaf .stop) (.alt 11 [] [6, 7, 8] (.alt 9 [10] [10] .leaf .stop) .stop)) (.alt 11 [] [3, 4, 6, 7, 8] (.alt 5 [] [6, 7, 8] (.alt 9 [10] [10] .leaf .stop) .stop) .stop)) (.alt 11 [] [0, 1, 3, 4, 6, 7, 8] (.alt 2 [] [3, 4, 6, 7, 8] (.alt 5 [] [6, 7, 8] (.alt 9 [10] [10] .leaf .stop) .stop) .stop) .stop)) (by kernel_rfl) (by kernel_rfl) (by kernel_rfl) (fun K hK => ?_)
      refine join_sim ⟨[(4, .ptr 0 0), (6, .ptr 1 0)], [.box [.nils, .nils], .box [.ref 2 3 0 ((impl_clone_Spare a0.Spares).length), .ref 3 3 0 (((slices_Delete_Entry (impl_clone_Entry a0.Entries) a1 (IntKind.wrap .i64 (a1 + 1)))).length)], .arr 30 3 (impl_clone_Spare a0.Spares).length (fun j => eSpare ((impl_clone_Spare a0.Spares).getD j default)), .arr 33 3 ((slices_Delete_Entry (impl_clone_Entry a0.Entries) a1 (IntKind.wrap .i64 (a1 + 1)))).length (fun j => eEntry (((slices_Delete_Entry (impl_clone_Entry a0.Entries) a1 (IntKind.wrap .i64 (a1 + 1)))).getD j default))]⟩ hK ?_ (fun hJ => ?_)
      rotate_left
      · simp only [rootP, runN, runP, recheck, nthO, ea, absV, absVL, gv, sv, D_impl_ValidStore, D_impl_at, D_impl_clone_Spare, D_slices_Delete_Entry, D_impl_clone_Entry, reduceCtorEq, reduceIte, Nat.reduceBEq, Nat.reduceAdd, Nat.reduceEqDiff, Nat.reduceLT, Nat.reduceLeDiff, Nat.reduceMul, Nat.reduceSub, BEq.rfl, beq_self_eq_true, Int.reduceToNat]
        repeat' apply And.intro
        all_goals first | (refine hJ _ [1, 5, 2, 4] ?_; (simp only [si, ea, gv, sv, hk, reduceCtorEq, reduceIte, Nat.reduceBEq, Nat.reduceAdd, Nat.reduceEqDiff, Nat.reduceLT, Nat.reduceLeDiff, Nat.reduceMul, Nat.reduceSub, BEq.rfl, beq_self_eq_true, Int.reduceToNat]; trivial)) | (refine hJ _ [1, 4, 2, 5] ?_; (simp only [si, ea, gv, sv, hk, reduceCtorEq, reduceIte, Nat.reduceBEq, Nat.reduceAdd, Nat.reduceEqDiff, Nat.reduceLT, Nat.reduceLeDiff, Nat.reduceMul, Nat.reduceSub, BEq.rfl, beq_self_eq_true, Int.reduceToNat]; trivial)) | (refine hJ _ [1, 3, 2, 5] ?_; (simp only [si, ea, gv, sv, hk, reduceCtorEq, reduceIte, Nat.reduceBEq, Nat.reduceAdd, Nat.reduceEqDiff, Nat.reduceLT, Nat.reduceLeDiff, Nat.reduceMul, Nat.reduceSub, BEq.rfl, beq_self_eq_true, Int.reduceToNat]; trivial)) | (refine hJ _ [1, 2, 3, 5] ?_; (simp only [si, ea, gv, sv, hk, reduceCtorEq, reduceIte, Nat.reduceBEq, Nat.reduceAdd, Nat.reduceEqDiff, Nat.reduceLT, Nat.reduceLeDiff, Nat.reduceMul, Nat.reduceSub, BEq.rfl, beq_self_eq_true, Int.reduceToNat]; trivial)) | (first | trivial | omega | (simp only [ob, ln, bdv, impl_at, impl_clone_Spare_id, impl_clone_Entry_id, sv] at *; omega) | ((try clear hK K); (repeat' (intro _)) <;> (simp only [ob, ln, bdv, impl_at, impl_clone_Spare_id, impl_clone_Entry_id, sv] at *; (simp_all; done))))
      clear hK K
      refine AWP.seq ?_
      refine AWP.seq ?_
      refine AWP.regS G_ok impl_DropEntry_DD hc (by kernel_rfl) (fun K hK => ?_); simp only [ea, absV, absVL, gv, sv, D_impl_ValidStore, D_impl_at, D_impl_clone_Spare, D_slices_Delete_Entry, D_impl_clone_Entry, reduceCtorEq, reduceIte, Nat.reduceBEq, Nat.reduceAdd, Nat.reduceEqDiff, Nat.reduceLT, Nat.reduceLeDiff, Nat.reduceMul, Nat.reduceSub, BEq.rfl, beq_self_eq_true, Int.reduceToNat]
      (refine ⟨by (((try clear hK K); (repeat' first | apply And.intro | intro _) <;> first | omega | (right; (simp only [si, ea, gv, sv, hk, reduceCtorEq, reduceIte, Nat.reduceBEq, Nat.reduceAdd, Nat.reduceEqDiff, Nat.reduceLT, Nat.reduceLeDiff, Nat.reduceMul, Nat.reduceSub, BEq.rfl, beq_self_eq_true, Int.reduceToNat]; (and_intros <;> (simp only [ob, ln, bdv, impl_at, impl_clone_Spare_id, impl_clone_Entry_id, sv] at *; (grind [impl_ValidStore_len, slices_Delete_Entry_len, slices_Delete_Entry_mem]))))) | (simp only [ob, ln, bdv, impl_at, impl_clone_Spare_id, impl_clone_Entry_id, sv] at *; first | (simp_all; done) | grind [impl_ValidStore_len, slices_Delete_Entry_len, slices_Delete_Entry_mem]))), hK _ ?_⟩)
      clear hK K
      refine AWP.cond rfl (fun hb => ?_) (fun hb => ?_)
      · (simp only [hb, cond_true] at hR)
        refine AWP.seq ?_
        refine AWP.regS G_ok impl_DropEntry_DD hc (by kernel_rfl) (fun K hK => ?_); simp only [ea, absV, absVL, gv, sv, D_impl_ValidStore, D_impl_at, D_impl_clone_Spare, D_slices_Delete_Entry, D_impl_clone_Entry, reduceCtorEq, reduceIte, Nat.reduceBEq, Nat.reduceAdd, Nat.reduceEqDiff, Nat.reduceLT, Nat.reduceLeDiff, Nat.reduceMul, Nat.reduceSub, BEq.rfl, beq_self_eq_true, Int.reduceToNat]
        (refine hK _ ?_)
        clear hK K
        refine AWP.ret ?_
        subst hR
        (simp only [en, si, ea, gv, sv, hk, reduceCtorEq, reduceIte, Nat.reduceBEq, Nat.reduceAdd, Nat.reduceEqDiff, Nat.reduceLT, Nat.reduceLeDiff, Nat.reduceMul, Nat.reduceSub, BEq.rfl, beq_self_eq_true, Int.reduceToNat]; done)
      · (simp only [hb, cond_false] at hR)
        refine AWP.skip ?_
        refine AWP.seq ?_
        refine AWP.regS G_ok impl_DropEntry_DD hc (by kernel_rfl) (fun K hK => ?_); simp only [ea, absV, absVL, gv, sv, D_impl_ValidStore, D_impl_at, D_impl_clone_Spare, D_slices_Delete_Entry, D_impl_clone_Entry, reduceCtorEq, reduceIte, Nat.reduceBEq, Nat.reduceAdd, Nat.reduceEqDiff, Nat.reduceLT, Nat.reduceLeDiff, Nat.reduceMul, Nat.reduceSub, BEq.rfl, beq_self_eq_true, Int.reduceToNat]
        (refine hK _ ?_)
        clear hK K
        refine AWP.ret ?_
        subst hR
        (simp only [en, si, ea, gv, sv, hk, reduceCtorEq, reduceIte, Nat.reduceBEq, Nat.reduceAdd, Nat.reduceEqDiff, Nat.reduceLT, Nat.reduceLeDiff, Nat.reduceMul, Nat.reduceSub, BEq.rfl, beq_self_eq_true, Int.reduceToNat]; (and_intros <;> omega))
def D_impl_DropEntry : DF
  | [x0, x1] => some (.tup [.agg (eStoreO ((impl_DropEntry (rdG dStore x0) (rdI x1)).1)), .int .i64 ((impl_DropEntry (rdG dStore x0) (rdI x1)).2)], false, [wG eStore dStore x0, wI .i64 x1, bdStore (rdG dStore x0)])
  | _ => none
def Dz_impl_DropEntry : DF
  | [x0, x1] => some (.tup [.agg (eStoreO ((impl_DropEntry (rdG dStore x0) (rdI x1)).1)), .int .i64 ((impl_DropEntry (rdG dStore x0) (rdI x1)).2)], true, [wG eStore dStore x0, wI .i64 x1, bdStore (rdG dStore x0)])
  | _ => none
theorem D_impl_DropEntry_ok : OkD Tryz.prog 14 D_impl_DropEntry := by
  intro xs r z ob h ho
  unfold D_impl_DropEntry at h
  split at h
  · simp only [Option.some.injEq, Prod.mk.injEq] at h
    obtain ⟨rfl, rfl, rfl⟩ := h
    obtain ⟨h0, h1, hb0, _⟩ := ho
    exact Den.sim (impl_DropEntry_den _ _ hb0) (simOL_cons (wG_sim h0).1 <| simOL_cons (wI_sim h1).1 <| trivial) (noIdL_cons (wG_sim h0).2 <| noIdL_cons (wI_sim h1).2 <| rfl) rfl
  · cases h
theorem Dz_impl_DropEntry_ok : OkD Tryz.prog 14 Dz_impl_DropEntry := by
  intro xs r z ob h ho
  unfold Dz_impl_DropEntry at h
  split at h
  · simp only [Option.some.injEq, Prod.mk.injEq] at h
    obtain ⟨rfl, rfl, rfl⟩ := h
    obtain ⟨h0, h1, hb0, _⟩ := ho
    exact Den.sim (impl_DropEntry_den _ _ hb0) (simOL_cons (wG_sim h0).1 <| simOL_cons (wI_sim h1).1 <| trivial) (noIdL_cons (wG_sim h0).2 <| noIdL_cons (wI_sim h1).2 <| rfl) rfl
  · cases h
end Go.Ab

namespace Go.Ab
open Go Go.Proofs
theorem impl_Store_put_len (a : Store) (e : Entry) (hl : a.Entries.length < 9223372036854775808) : (impl_Store_put a e).1.Spares.length ≤ a.Spares.length ∧ (impl_Store_put a e).1.Entries.length ≤ 48 := by
  obtain ⟨j, h1, h2, h3, h4⟩ := impl_Store_put_spec a e hl
  rw [h4]
  cases (impl_Store_spareOf a e.Item).2 with
  | false => simp
  | true =>
    cases ((a.Entries.length : Int) == 48) with
    | true => simp
    | false =>
      cases hv : impl_ValidStore { Spares := a.Spares, Entries := a.Entries.take j ++ [e] ++ a.Entries.drop j : Store } with
      | false => simp
      | true =>
        simp only [Bool.not_true, cond_false]
        exact ⟨Nat.le_refl _, (impl_ValidStore_len _ hv).2⟩
theorem impl_AddEntry_len (a : Store) (e : Entry) : (impl_AddEntry a e).1.Spares.length ≤ 16 ∧ (impl_AddEntry a e).1.Entries.length ≤ 48 := by
  unfold impl_AddEntry
  cases hv : impl_ValidStore a with
  | false => simp
  | true =>
    cases impl_isEntry e with
    | false => simp
    | true =>
      have := impl_ValidStore_len a hv
      have h2 := impl_Store_put_len a e (by omega)
      simp only [Bool.not_true, Bool.or_self, cond_false]
      omega
theorem impl_DropEntry_len (a : Store) (k : Int) : (impl_DropEntry a k).1.Spares.length ≤ 16 ∧ (impl_DropEntry a k).1.Entries.length ≤ 48 := by
  unfold impl_DropEntry
  cases hv : impl_ValidStore a with
  | false => simp
  | true =>
    cases impl_at k (a.Entries.length : Int) with
    | false => simp
    | true =>
      cases hv2 : impl_ValidStore ({ Spares := (impl_clone_Spare a.Spares), Entries := ((slices_Delete_Entry (impl_clone_Entry a.Entries) k (IntKind.wrap .i64 (k + 1)))) : Store }) with
      | false => simp
      | true =>
        have := impl_ValidStore_len _ hv2
        simpa using this
end Go.Ab

namespace Go.Ab
open Go
def allDig (l : List UInt8) : Prop := ∀ b ∈ l, 48 ≤ b.toNat ∧ b.toNat ≤ 57
instance (l : List UInt8) : Decidable (allDig l) := by unfold allDig; infer_instance
def digV (n : Nat) (l : List UInt8) : Nat := l.foldl (fun k b => 10 * k + (b.toNat - 48)) n
theorem digV_nil (n : Nat) : digV n [] = n := List.foldl_nil
theorem digV_cons (n : Nat) (c : UInt8) (l : List UInt8) : digV n (c :: l) = digV (10 * n + (c.toNat - 48)) l := List.foldl_cons ..
theorem digV_snoc (b : UInt8) (l : List UInt8) (n : Nat) : digV n (l ++ [b]) = 10 * digV n l + (b.toNat - 48) := by
  unfold digV
  rw [List.foldl_append, List.foldl_cons, List.foldl_nil]
theorem digV_lt (l : List UInt8) : ∀ (n : Nat), allDig l → digV n l < (n + 1) * 10 ^ l.length := by
  induction l with
  | nil => intro n _; rw [digV_nil, List.length_nil, Nat.pow_zero]; omega
  | cons c l ih =>
    intro n h
    have hc := h c (by simp)
    have h1 := ih (10 * n + (c.toNat - 48)) (fun b hb => h b (by simp [hb]))
    rw [digV_cons, List.length_cons, Nat.pow_succ]
    have h2 : (10 * n + (c.toNat - 48) + 1) * 10 ^ l.length ≤ ((n + 1) * 10) * 10 ^ l.length := Nat.mul_le_mul_right _ (by omega)
    have h3 : ((n + 1) * 10) * 10 ^ l.length = (n + 1) * (10 ^ l.length * 10) := by rw [Nat.mul_assoc, Nat.mul_comm 10]
    omega
theorem digV_ge (l : List UInt8) : ∀ (n : Nat), n * 10 ^ l.length ≤ digV n l := by
  induction l with
  | nil => intro n; rw [digV_nil, List.length_nil, Nat.pow_zero]; omega
  | cons c l ih =>
    intro n
    have h1 := ih (10 * n + (c.toNat - 48))
    rw [digV_cons, List.length_cons, Nat.pow_succ]
    have h2 : (n * 10) * 10 ^ l.length ≤ (10 * n + (c.toNat - 48)) * 10 ^ l.length := Nat.mul_le_mul_right _ (by omega)
    have h3 : (n * 10) * 10 ^ l.length = n * (10 ^ l.length * 10) := by rw [Nat.mul_assoc, Nat.mul_comm 10]
    omega
theorem u8_of {b : UInt8} (h1 : 48 ≤ b.toNat) (h2 : b.toNat ≤ 57) : UInt8.ofNat (48 + (b.toNat - 48)) = b := by
  apply UInt8.toNat_inj.1
  rw [UInt8.toNat_ofNat']
  omega
theorem decDigits_snoc (m : Nat) (h : ¬ m < 10) : Lib.decDigits m = Lib.decDigits (m / 10) ++ [UInt8.ofNat (48 + m % 10)] := by
  rw [Lib.decDigits, dif_neg h]
theorem dec_of_digV : ∀ (n : Nat) (l : List UInt8), l.length = n → allDig l → l ≠ [] → (l.getD 0 0 ≠ 48 ∨ l.length = 1) → Lib.decDigits (digV 0 l) = l := by
  intro n
  induction n using Nat.strongRecOn with
  | ind n ih =>
    intro l hl hd hne hh
    rcases List.eq_nil_or_concat l with rfl | ⟨r, b, he⟩
    · exact absurd rfl hne
    · rw [List.concat_eq_append] at he
      subst he
      have hb := hd b (by simp)
      have hdr : allDig r := fun c hc => hd c (by simp [hc])
      rw [digV_snoc]
      by_cases hr : r = []
      · subst hr
        simp only [digV_nil, Nat.mul_zero, Nat.zero_add, List.nil_append]
        rw [Lib.decDigits_one (by omega), u8_of hb.1 hb.2]
      · obtain ⟨c, t, rfl⟩ := List.exists_cons_of_ne_nil hr
        have hc := hdr c (by simp)
        have hne48 : c ≠ 48 := by
          rcases hh with h | h
          · simpa using h
          · simp at h
        have hc1 : 49 ≤ c.toNat := by
          have : c.toNat ≠ 48 := fun e => hne48 (UInt8.toNat_inj.1 (by rw [e]; rfl))
          omega
        have hpos : 1 ≤ digV 0 (c :: t) := by
          have h1 := digV_ge t (10 * 0 + (c.toNat - 48))
          have h2 : 1 ≤ 10 ^ t.length := Nat.one_le_pow _ _ (by decide)
          have h3 : 1 * 1 ≤ (10 * 0 + (c.toNat - 48)) * 10 ^ t.length := Nat.mul_le_mul (by omega) h2
          rw [digV_cons]
          omega
        have hI := ih (c :: t).length (by simp at hl ⊢; omega) (c :: t) rfl hdr (by simp) (.inl (by simpa using hne48))
        rw [decDigits_snoc _ (by omega), show (10 * digV 0 (c :: t) + (b.toNat - 48)) / 10 = digV 0 (c :: t) by omega, hI, show (10 * digV 0 (c :: t) + (b.toNat - 48)) % 10 = b.toNat - 48 by omega, u8_of hb.1 hb.2]
theorem u8_dig (d : Nat) (h : d < 10) : (UInt8.ofNat (48 + d)).toNat = 48 + d := by
  rw [UInt8.toNat_ofNat']; omega
theorem decDigits_all (m : Nat) : allDig (Lib.decDigits m) ∧ digV 0 (Lib.decDigits m) = m ∧ Lib.decDigits m ≠ [] ∧ (1 ≤ m → (Lib.decDigits m).getD 0 0 ≠ 48) := by
  induction m using Nat.strongRecOn with
  | ind m ih =>
    by_cases h : m < 10
    · rw [Lib.decDigits_one h]
      refine ⟨fun b hb => ?_, ?_, by simp, fun h1 => ?_⟩
      · simp only [List.mem_singleton] at hb
        subst hb
        rw [u8_dig m h]; omega
      · rw [digV_cons, digV_nil, u8_dig m h]; omega
      · intro e
        have e2 : (UInt8.ofNat (48 + m)).toNat = 48 := by
          have : (UInt8.ofNat (48 + m)) = 48 := by simpa using e
          rw [this]; rfl
        rw [u8_dig m h] at e2
        omega
    · obtain ⟨i1, i2, i3, i4⟩ := ih (m / 10) (by omega)
      rw [decDigits_snoc m h]
      refine ⟨fun b hb => ?_, ?_, by simp, fun _ => ?_⟩
      · rcases List.mem_append.1 hb with hb | hb
        · exact i1 b hb
        · simp only [List.mem_singleton] at hb
          subst hb
          rw [u8_dig _ (by omega)]; omega
      · rw [digV_snoc, i2, u8_dig _ (by omega)]; omega
      · obtain ⟨c, t, e⟩ := List.exists_cons_of_ne_nil i3
        have := i4 (by omega)
        rw [e] at this ⊢
        simpa using this
theorem decDigits_len18 (m : Nat) : (Lib.decDigits m).length ≤ 18 ↔ m < 1000000000000000000 := by
  obtain ⟨h1, h2, h3, h4⟩ := decDigits_all m
  constructor
  · intro h
    have := digV_lt (Lib.decDigits m) 0 h1
    rw [h2] at this
    have h5 : 10 ^ (Lib.decDigits m).length ≤ 10 ^ 18 := Nat.pow_le_pow_right (by decide) h
    have h6 : (10 : Nat) ^ 18 = 1000000000000000000 := by decide
    omega
  · intro h
    by_cases hl : (Lib.decDigits m).length ≤ 18
    · exact hl
    · exfalso
      obtain ⟨c, t, e⟩ := List.exists_cons_of_ne_nil h3
      have hm : 1 ≤ m := by
        by_cases h0 : m = 0
        · subst h0; rw [Lib.decDigits_one (by decide)] at hl; simp at hl
        · omega
      have h48 := h4 hm
      rw [e] at h48 h1 h2 hl
      have hc := h1 c (by simp)
      have hc1 : 49 ≤ c.toNat := by
        have : c.toNat ≠ 48 := fun e2 => h48 (by
          have : c = 48 := UInt8.toNat_inj.1 (by rw [e2]; rfl)
          simp [this])
        omega
      have h5 := digV_ge t (10 * 0 + (c.toNat - 48))
      have h6 : digV 0 (c :: t) = digV (10 * 0 + (c.toNat - 48)) t := digV_cons ..
      have h7 : 10 ^ 18 ≤ 10 ^ t.length := Nat.pow_le_pow_right (by decide) (by simp at hl; omega)
      have h8 : (10 : Nat) ^ 18 = 1000000000000000000 := by decide
      have h9 : 1 * 10 ^ t.length ≤ (10 * 0 + (c.toNat - 48)) * 10 ^ t.length := Nat.mul_le_mul_right _ (by omega)
      omega
theorem parseUintM_dig (M : Nat) (l : List UInt8) : ∀ (n : Nat), allDig l → digV n l ≤ M → M < 18446744073709551616 → Lib.parseUintM M n l = .ok (digV n l) := by
  induction l with
  | nil => intro n _ _ _; rw [digV_nil, Lib.parseUintM]
  | cons c l ih =>
    intro n h hM h64
    have hc := h c (by simp)
    have h1 := digV_ge l (10 * n + (c.toNat - 48))
    have h2 : 1 ≤ 10 ^ l.length := Nat.one_le_pow _ _ (by decide)
    have h3 : (10 * n + (c.toNat - 48)) * 1 ≤ (10 * n + (c.toNat - 48)) * 10 ^ l.length := Nat.mul_le_mul_left _ h2
    rw [digV_cons] at hM ⊢
    rw [Lib.parseUintM, if_pos hc, if_neg (by omega), if_neg (by omega), Nat.mul_comm n 10]
    exact ih _ (fun b hb => h b (by simp [hb])) hM h64
end Go.Ab
