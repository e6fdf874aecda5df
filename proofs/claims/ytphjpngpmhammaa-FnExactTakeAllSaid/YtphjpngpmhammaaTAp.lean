/- A part of a proof: walks of functions and lemmas of our own. No conditions. -/
import Derived.Test.YtphjpngpmhammaaTAj
import Derived.Test.YtphjpngpmhammaaTAo
import Derived.Handy
import Derived.Test.YtphjpngpmhammaaTAh
import Derived.Test.YtphjpngpmhammaaTAl
import Derived.Test.YtphjpngpmhammaaTAm
import Derived.Test.YtphjpngpmhammaaTAk
import Derived.Test.YtphjpngpmhammaaTAn
set_option linter.unusedSectionVars false
set_option linter.unusedVariables false
set_option linter.unusedSimpArgs false
namespace Go.Ab
open Go Go.Proofs Go.RowKit Go.Lib Go.Shelf
theorem slices_Insert_Entry_DD : DOk Try.prog (DD []) := DD_nil _
set_option maxHeartbeats 4000000 in
set_option maxRecDepth 100000 in
theorem slices_Insert_Entry_raw : InsRaw Try.prog 125 66 3 32 := by
  intro w v y n i m A B news hin hm hA hB hN oA oB oN hv hy hne hby hbig
  obtain ⟨i0, z, ET⟩ := ElT.mk' (tS := 29) (tE := 66) G_ok rfl rfl rfl (by decide)
  obtain ⟨u0, inf0, zero0, size0, byt0, zs0, pos0, zone0⟩ := ET
  have u3 : Try.prog.underlying 3 = some (.int .i64) := by kernel_rfl
  rcases hy with ⟨_, h⟩ | ⟨vb, vc, vcur, rfl, hvh, hvs, hvm, hvc, hvn⟩
  · omega
  have hz1 : ¬ ((m : Int) = 0) := by omega
  have hsrc : ∀ (j : Nat) (u : Value), news[j]? = some u → w.cell? ((⟨vb, 0, none⟩ : Addr).add j) = some u := by
    intro j u hu
    have hj : j < m * 3 := by rw [← hN]; exact (List.getElem?_eq_some_iff.1 hu).1
    rw [Addr.add_lit, Nat.zero_add, cell_of_row w vb j vcur 66 (0, 0) hvh, hvn j hj]
    exact hu
  by_cases hend : i = n
  · subst hend
    have hB0 : B = [] := List.eq_nil_of_length_eq_zero (by simpa using hB)
    subst hB0
    obtain ⟨v', w', hr, ho⟩ := append_run (P := Try.prog) (w := w) (ty := 29) (y := .slice (some ⟨vb, 0, none⟩) m vc) u0 inf0 zero0 size0 byt0 zs0 hA hN oN (by
      rcases hv with h | ⟨b, c, cur, h1, h2, h3, h4, h5, h6⟩
      · exact .inl h
      · exact .inr ⟨b, c, cur, h1, h2, h3, h4, h5, fun j hj => by rw [h6 j hj, List.append_nil]⟩) (.inr ⟨_, _, rfl, hsrc⟩) hby hbig
    rcases ho with ⟨_, h, _⟩ | ⟨b', cap', cur', rfl, ho⟩
    · omega
    have fin : AppOut w w' 66 3 (i + m) 0 v.ownBlock (A ++ news ++ []) [] b' cap' cur' := by
      refine ⟨ho.os, ho.tape, ho.output, ho.size, ho.other, ho.row, ho.len, by have := ho.fit; omega, ho.big, ?_, fun j hj => by omega, ho.place⟩
      intro j hj
      rw [List.append_nil]
      by_cases h : j < i * 3
      · rw [List.getElem?_append_left (by omega)]; exact ho.olds j h
      · have := ho.adds (j - i * 3) (by omega)
        rw [List.getElem?_append_right (by omega), hA, ← this]
        congr 1; omega
    rw [List.append_nil] at fin
    have hsh : (v = .slice none 0 0 ∧ i = 0) ∨ ∃ b c, v = .slice (some ⟨b, 0, none⟩) i c ∧ i ≤ c ∧ c ≤ 9223372036854775807 := by
      rcases hv with h | ⟨b, c, cur, h1, h2, h3, h4, h5, h6⟩
      · exact .inl h
      · exact .inr ⟨b, c, h1, h4, h5⟩
    clear hne ho hv hvh hvs hvn hsrc hA hB hN oA oB oN
    rcases hsh with ⟨rfl, rfl⟩ | ⟨b, c, rfl, hic, hcm⟩
    · go_enter Try.func125, Try.ntmps125
      go_wp2_with (at_builtin; refine wpList_appendE _ rfl _ _ _ _ rfl _ _ rfl rfl hr ?_)
      go_ret
      rw [Nat.zero_add] at fin ⊢
      (exact ⟨b', cap', cur', rfl, by (rw [List.append_nil]; exact fin)⟩)
    · go_enter Try.func125, Try.ntmps125
      go_wp2_with (at_builtin; refine wpList_appendE _ rfl _ _ _ _ rfl _ _ rfl rfl hr ?_)
      all_goals go_ret
      all_goals (exact ⟨b', cap', rfl, cur', by exact fin⟩)
  · have hlt : i < n := by omega
    rcases hv with ⟨_, h⟩ | ⟨b, c, cur, rfl, hb, hcs, hnc, hcm, hold⟩
    · omega
    have hvb : vb ≠ b := fun h => hne b rfl (by rw [h]; rfl)
    have mixed : Try.prog.follows .mixedOrders = true := by kernel_rfl
    have hz2 : ¬ ((i : Int) = (n : Int)) := by omega
    have hcSX : c ≤ 9223372036854775807 := hcm
    have hw1 : IntKind.i64.wrap ((i : Int) + (m : Int)) = (i : Int) + (m : Int) := by rw [IntKind.wrap_i64]; omega
    have hb1 : (0 : Int) ≤ (i : Int) + (m : Int) := by omega
    have hin : i ≤ n := by omega
    have htn : ((i : Int) + (m : Int)).toNat = i + m := by omega
    have hb4 : ¬ (c = i) := by omega
    have hAn : A.length + B.length = n * 3 := by omega
    have hgA : ∀ (j : Nat) (u : Value), A[j]? = some u → cur[j]? = some u := by
      intro j u hu
      have hj : j < A.length := (List.getElem?_eq_some_iff.1 hu).1
      rw [hold j (by omega), List.getElem?_append_left hj, hu]
    have hgB : ∀ (j : Nat) (u : Value), B[j]? = some u → cur[i * 3 + j]? = some u := by
      intro j u hu
      have hj : j < B.length := (List.getElem?_eq_some_iff.1 hu).1
      rw [hold _ (by omega), List.getElem?_append_right (by omega), hA, Nat.add_sub_cancel_left, hu]
    by_cases hroom : n + m ≤ c
    · have hb2 : ¬ (c = i + m) := by omega
      have hb3 : (i : Int) ≤ (n : Int) + (m : Int) := by omega
      have hmin : Nat.min (n + m - i) (n + m - (i + m)) = n - i := by simp only [Nat.min_def]; split <;> omega
      have hmin2 : Nat.min m (n + m - i) = m := by simp only [Nat.min_def]; split <;> omega
      obtain ⟨cur1, hcur1⟩ : ∃ cur1, cur1 = (putV ((i + m) * 3) B cur.toList).toArray := ⟨_, rfl⟩
      have hl1 : cur1.size = cur.size := by rw [hcur1]; simp [putV_length]
      have hov : ∀ lb cb, (callFunc 139 #[.slice (some ⟨vb, 0, none⟩) m vc, .slice (some ⟨b, (i + m) * 3, none⟩) lb cb]).run Try.prog w = .ok (.value (.bool false)) w := fun lb cb => by
        rw [run_callFunc_extern Try.func139 (by kernel_rfl) (by kernel_rfl) (by kernel_rfl) (e := Extern.SlicesOverlaps.overlaps #[29, 29] #[4]) (by kernel_rfl),
          run_overlapsE w 29 4 66 i0 u0 inf0 vb b 0 ((i + m) * 3) m vc lb cb hvb vcur cur 66 66 hvh hb (by omega)]
        rfl
      have hcp1 : ∀ ty dc sc, (Builtin.copy_ #[29, 29] ty #[.slice (some ⟨b, (i + m) * 3, none⟩) (n + m - (i + m)) dc, .slice (some ⟨b, i * 3, none⟩) (n + m - i) sc]).run Try.prog w.drew = .ok (goInt ((n - i : Nat) : Int)) (w.drew.setRow b cur1) := fun ty dc sc => by
        rw [hcur1]
        exact run_copyE w.drew 29 29 ty 66 i0 b ((i + m) * 3) _ dc ⟨b, i * 3, none⟩ _ sc (n - i) cur 66 B u0 inf0 hb hmin (by rw [size0]; exact hB)
          (fun j u hj => by rw [Addr.add_lit, cell_of_row w.drew b _ cur 66 (0, 0) hb]; exact hgB j u hj) (by omega) oB
      have hr1 : ∀ W : World, W.heap = (w.drew.setRow b cur1).heap → W.heap[b]? = some (.cells cur1 66 (0, 0)) := fun W h => by rw [h]; exact setRow_heap w.drew b cur cur1 66 (0, 0) hb
      have hcp2 : ∀ (W : World), W.heap = (w.drew.setRow b cur1).heap → ∀ ty dc, (Builtin.copy_ #[29, 29] ty #[.slice (some ⟨b, i * 3, none⟩) (n + m - i) dc, .slice (some ⟨vb, 0, none⟩) m vc]).run Try.prog W = .ok (goInt m) (W.setRow b (putV (i * 3) news cur1.toList).toArray) := fun W hW ty dc =>
        run_copyE W 29 29 ty 66 i0 b (i * 3) _ dc ⟨vb, 0, none⟩ m vc m cur1 66 news u0 inf0 (hr1 W hW) hmin2 (by rw [size0]; exact hN)
          (fun j u hj => by
            have hj2 : j < m * 3 := by rw [← hN]; exact (List.getElem?_eq_some_iff.1 hj).1
            have hvh2 : W.heap[vb]? = some (.cells vcur 66 (0, 0)) := by rw [hW, setRow_other w.drew b vb cur1 hvb]; exact hvh
            rw [Addr.add_lit, Nat.zero_add, cell_of_row W vb j vcur 66 (0, 0) hvh2, hvn j hj2]; exact hj) (by omega) oN
      have fin : ∀ W : World, W.heap = (w.drew.setRow b cur1).heap → W.os = w.os → W.tape = w.tape → W.output = w.output →
          AppOut w (W.setRow b (putV (i * 3) news cur1.toList).toArray) 66 3 (n + m) 0 (Value.ownBlock (.slice (some ⟨b, 0, none⟩) n c)) (A ++ news ++ B) [] b c (putV (i * 3) news cur1.toList).toArray := by
        intro W hW h1 h2 h3
        refine ⟨h1, h2, h3, ?_, ?_, setRow_heap W b cur1 _ 66 (0, 0) (hr1 W hW), by simp [putV_length, hl1, hcs], by omega, hcm, ?_, fun j hj => by omega, .inl rfl⟩
        · simp [hW]
        · intro k hk hkb
          rw [setRow_other W b k _ hkb, hW, setRow_other w.drew b k _ hkb]; rfl
        · intro j hj
          simp only [List.getElem?_toArray, putV_get]
          have hcl : cur1.toList.length = c * 3 := by simp [hl1, hcs]
          by_cases h1 : j < i * 3
          · rw [if_neg (by omega), List.append_assoc, List.getElem?_append_left (by omega), hcur1]
            simp only [putV_get]
            rw [if_neg (by omega)]
            have : A[j]? = some A[j] := List.getElem?_eq_getElem (by omega)
            rw [this]; simpa using hgA j _ this
          · by_cases h2 : j < (i + m) * 3
            · rw [if_pos (by rw [hcl, hN]; omega), List.append_assoc, List.getElem?_append_right (by omega), List.getElem?_append_left (by omega), hA]
            · rw [if_neg (by omega), List.getElem?_append_right (by simp only [List.length_append]; omega), hcur1]
              simp only [putV_get]
              rw [if_pos (by simp only [Array.length_toList]; omega)]
              congr 1; simp only [List.length_append]; omega
      clear hold hgA hgB hcs hb hvh hvs hvn hsrc hA hB hN oA oB oN hne hby hAn hr1 zero0 byt0 zs0 zone0 size0 hcur1 hl1 hmin hmin2
      go_enter Try.func125, Try.ntmps125
      go_wp2_with (simp only [hov])
      go_region_law_o (refine step_copyE rfl _ _ 29 29 rfl _ _ (by simp [Act.eval, Act.put]) (by simp [Act.eval, Act.put]) (hcp1 _ _ _) ?_)
      go_wp2_with (at_builtin; refine wpList_copyE _ rfl _ _ 29 29 rfl _ _ rfl rfl (hcp2 _ rfl _ _) ?_)
      go_ret
      exact ⟨b, c, _, rfl, fin _ rfl rfl rfl rfl⟩
    · have hz3 : (c : Int) < (n : Int) + (m : Int) := by omega
      have hbw : b < w.heap.size := (Array.getElem?_eq_some_iff.1 hb).1
      have hvw : vb < w.heap.size := (Array.getElem?_eq_some_iff.1 hvh).1
      have hik : i + (n + m - i) = n + m := by omega
      have hrz : ∀ ty, (Builtin.append_ #[29, 3] ty #[.slice (some ⟨b, 0, none⟩) i c, .int .i64 ((n : Int) + (m : Int) - (i : Int))]).run Try.prog w = .ok (.slice (some ⟨w.heap.size, 0, none⟩) (n + m) (grownCap w (n + m) c 66)) (w.drew.alloc (.cells (A.toArray ++ Builtin.zeroCells z.cells (n + m - i) ++ Builtin.zeroCells z.cells (grownCap w (n + m) c 66 - (n + m))) 66)) := fun ty => by
        have h := run_append_makeE (P := Try.prog) w 29 3 ty 66 i0 z u0 u3 inf0 zero0 ⟨b, 0, none⟩ i c A (by rw [size0]; exact hA)
          (fun j u hj => by rw [Addr.add_lit, Nat.zero_add, cell_of_row w b _ cur 66 (0, 0) hb]; exact hgA j u hj) (n + m - i) (by omega) (by rw [size0]; decide) (by omega) (by omega) (by rw [byt0, hik]; exact hby)
        rw [hik, show ((n + m - i : Nat) : Int) = (n : Int) + (m : Int) - (i : Int) by omega] at h
        exact h
      obtain ⟨N, hN0⟩ : ∃ N, N = w.heap.size := ⟨_, rfl⟩
      obtain ⟨G9, hG⟩ : ∃ G9, G9 = grownCap w (n + m) c 66 := ⟨_, rfl⟩
      have hGn : n + m ≤ G9 := by rw [hG]; exact grownCap_ge w _ _ _
      have hGSX : G9 ≤ 9223372036854775807 := by
        have := grownCap_le_maxLen w (n + m) c 66 (by unfold maxLen; omega)
        rw [← hG] at this
        unfold maxLen at this
        omega
      obtain ⟨row, hrow⟩ : ∃ row : Array Value, row = A.toArray ++ Builtin.zeroCells z.cells (n + m - i) ++ Builtin.zeroCells z.cells (G9 - (n + m)) := ⟨_, rfl⟩
      rw [← hG, ← hrow, ← hN0] at hrz
      have hrl : row.size = G9 * 3 := by
        rw [hrow]; simp only [Array.size_append, List.size_toArray, size_zeroCells, zs0, hA]; omega
      have hGi : ¬ (G9 = i) := by omega
      have hGim : ¬ (G9 = i + m) := by omega
      have hbN : b ≠ N := by omega
      have hvN : vb ≠ N := by omega
      have hmin1 : Nat.min m (n + m - i) = m := by simp only [Nat.min_def]; split <;> omega
      have hmin2 : Nat.min (n - i) (n + m - (i + m)) = n - i := by simp only [Nat.min_def]; split <;> omega
      have hW1 : ∀ W : World, W.heap = w.heap.push (.cells row 66) → W.heap[N]? = some (.cells row 66 (0, 0)) ∧ W.heap[b]? = some (.cells cur 66 (0, 0)) ∧ W.heap[vb]? = some (.cells vcur 66 (0, 0)) := by
        intro W h
        rw [h]
        refine ⟨by rw [hN0]; simp, ?_, ?_⟩
        · rw [Array.getElem?_push, if_neg (by omega)]; exact hb
        · rw [Array.getElem?_push, if_neg (by omega)]; exact hvh
      obtain ⟨row2, hrow2⟩ : ∃ row2, row2 = (putV (i * 3) news row.toList).toArray := ⟨_, rfl⟩
      have hl2 : row2.size = G9 * 3 := by rw [hrow2]; simp [putV_length, hrl]
      have hcpA : ∀ (W : World), W.heap = w.heap.push (.cells row 66) → ∀ ty dc, (Builtin.copy_ #[29, 29] ty #[.slice (some ⟨N, i * 3, none⟩) (n + m - i) dc, .slice (some ⟨vb, 0, none⟩) m vc]).run Try.prog W = .ok (goInt m) (W.setRow N row2) := fun W hW ty dc => by
        rw [hrow2]
        exact run_copyE W 29 29 ty 66 i0 N (i * 3) _ dc ⟨vb, 0, none⟩ m vc m row 66 news u0 inf0 (hW1 W hW).1 hmin1 (by rw [size0]; exact hN)
          (fun j u hj => by
            have hj2 : j < m * 3 := by rw [← hN]; exact (List.getElem?_eq_some_iff.1 hj).1
            rw [Addr.add_lit, Nat.zero_add, cell_of_row W vb j vcur 66 (0, 0) (hW1 W hW).2.2, hvn j hj2]; exact hj) (by omega) oN
      have hW2 : ∀ W W0 : World, W0.heap = w.heap.push (.cells row 66) → W.heap = (W0.setRow N row2).heap → W.heap[N]? = some (.cells row2 66 (0, 0)) ∧ W.heap[b]? = some (.cells cur 66 (0, 0)) := by
        intro W W0 h0 h
        rw [h]
        exact ⟨setRow_heap W0 N row row2 66 (0, 0) (hW1 W0 h0).1, by rw [setRow_other W0 N b row2 hbN]; exact (hW1 W0 h0).2.1⟩
      have hcpB : ∀ (W W0 : World), W0.heap = w.heap.push (.cells row 66) → W.heap = (W0.setRow N row2).heap → ∀ ty dc sc, (Builtin.copy_ #[29, 29] ty #[.slice (some ⟨N, (i + m) * 3, none⟩) (n + m - (i + m)) dc, .slice (some ⟨b, i * 3, none⟩) (n - i) sc]).run Try.prog W = .ok (goInt ((n - i : Nat) : Int)) (W.setRow N (putV ((i + m) * 3) B row2.toList).toArray) := fun W W0 h0 hW ty dc sc =>
        run_copyE W 29 29 ty 66 i0 N ((i + m) * 3) _ dc ⟨b, i * 3, none⟩ _ sc (n - i) row2 66 B u0 inf0 (hW2 W W0 h0 hW).1 hmin2 (by rw [size0]; exact hB)
          (fun j u hj => by rw [Addr.add_lit, cell_of_row W b _ cur 66 (0, 0) (hW2 W W0 h0 hW).2]; exact hgB j u hj) (by omega) oB
      have fin : ∀ W W0 : World, W0.heap = w.heap.push (.cells row 66) → W.heap = (W0.setRow N row2).heap → W.os = w.os → W.tape = w.tape → W.output = w.output →
          AppOut w (W.setRow N (putV ((i + m) * 3) B row2.toList).toArray) 66 3 (n + m) 0 (Value.ownBlock (.slice (some ⟨b, 0, none⟩) n c)) (A ++ news ++ B) [] N G9 (putV ((i + m) * 3) B row2.toList).toArray := by
        intro W W0 h0 hW h1 h2 h3
        refine ⟨h1, h2, h3, ?_, ?_, setRow_heap W N row2 _ 66 (0, 0) (hW2 W W0 h0 hW).1, by simp [putV_length, hl2], by omega, hGSX, ?_, fun j hj => by omega, .inr hN0⟩
        · simp [hW, h0]
        · intro k hk hkb
          rw [setRow_other W N k _ hkb, hW, setRow_other W0 N k _ hkb, h0, Array.getElem?_push, if_neg (by omega)]
        · intro j hj
          simp only [List.getElem?_toArray, putV_get]
          have hcl : row2.toList.length = G9 * 3 := by simp [hl2]
          have hcl1 : row.toList.length = G9 * 3 := by simp [hrl]
          by_cases h1 : (i + m) * 3 ≤ j
          · rw [if_pos (by omega), List.getElem?_append_right (by simp only [List.length_append]; omega)]
            congr 1; simp only [List.length_append]; omega
          · rw [if_neg (by omega), hrow2, List.getElem?_append_left (by simp only [List.length_append]; omega)]
            simp only [putV_get]
            by_cases h2 : i * 3 ≤ j
            · rw [if_pos (by omega), List.getElem?_append_right (by omega), hA]
            · rw [if_neg (by omega), List.getElem?_append_left (by omega), hrow]
              rw [Array.toList_append, Array.toList_append, List.append_assoc, List.getElem?_append_left (by simp; omega)]
      clear hold hgA hgB hcs hb hvh hvs hvn hsrc hA hB hN oA oB oN hne hby hAn zero0 byt0 zs0 zone0 size0 hW1 hW2 hrl hl2 hik hrow hrow2 hG hmin1 hmin2 hbw hvw
      subst hN0
      have hcpA1 := hcpA (w.alloc (.cells row 66)).drew rfl
      have hcpB1 := hcpB ((w.alloc (.cells row 66)).drew.setRow w.heap.size row2).drew (w.alloc (.cells row 66)).drew rfl rfl
      go_enter Try.func125, Try.ntmps125
      go_wp2_with (at_builtin; refine wpList_appendE _ rfl _ _ _ _ rfl _ _ rfl rfl (hrz _) ?_)
      go_region_law_o (refine step_copyE rfl _ _ 29 29 rfl _ _ (by simp [Act.eval, Act.put]) (by simp [Act.eval, Act.put]) (hcpB1 _ _ _) ?_)
      go_wp2
      go_ret
      (exact ⟨_, _, _, rfl, fin _ (w.alloc (.cells row 66)).drew rfl rfl rfl rfl rfl⟩)
def slices_Insert_Entry (a0 : (List Entry)) (a1 : Int) (a2 : (List Entry)) : List Entry := a0.take a1.toNat ++ a2 ++ a0.drop a1.toNat
theorem slices_Insert_Entry_den (a0 : (List Entry)) (a1 : Int) (a2 : (List Entry)) (hp0 : 0 ≤ a1) (hp1 : a1 ≤ a0.length) (hp2 : 0 < a2.length) (hp3 : a0.length < 1099511627776) (hp4 : a2.length < 1099511627776) : DenM Try.prog 125 [ownL 66 3 eEntry a0, .int .i64 a1, ownL 66 3 eEntry a2] (ownL 66 3 eEntry (slices_Insert_Entry a0 a1 a2)) [.any, .any, .any] :=
  ins_den ⟨_, Try.func125, rfl, rfl⟩ slices_Insert_Entry_raw (fun v => by simp [eEntry, ownL, NoBorL, NoBor]) a0 a2 a1 hp0 hp1 hp2 (by omega) (by omega)
def D_slices_Insert_Entry : List AV → Option (AV × List AV × List Prop)
  | [x0, x1, x2] => some (ownL 66 3 eEntry (slices_Insert_Entry (rdL dEntry x0) (rdI x1) (rdL dEntry x2)), [.any, .any, .any], [wO 66 3 eEntry dEntry x0, wI .i64 x1, wO 66 3 eEntry dEntry x2, 0 ≤ (rdI x1), (rdI x1) ≤ (rdL dEntry x0).length, 0 < (rdL dEntry x2).length, (rdL dEntry x0).length < 1099511627776, (rdL dEntry x2).length < 1099511627776])
  | _ => none
theorem D_slices_Insert_Entry_ok : OkM Try.prog 125 D_slices_Insert_Entry := by
  intro xs r outs ob h ho
  unfold D_slices_Insert_Entry at h
  split at h
  · simp only [Option.some.injEq, Prod.mk.injEq] at h
    obtain ⟨rfl, rfl, rfl⟩ := h
    obtain ⟨h0, h1, h2, hp0, hp1, hp2, hp3, hp4, _⟩ := ho
    exact DenM.sim (slices_Insert_Entry_den _ _ _ hp0 hp1 hp2 hp3 hp4) (simOL_cons (wO_sim h0) <| simOL_cons (wI_sim h1).1 <| simOL_cons (wO_sim h2) <| trivial)
  · cases h
end Go.Ab

namespace Go.Ab
open Go Go.Proofs
theorem impl_clone_Spare_DD : DOk Try.prog (DD []) := DD_nil _
def impl_clone_Spare (a0 : (List Spare)) : (List Spare) :=
  (List.replicate 0 (default : Spare)) ++ a0
theorem impl_clone_Spare_den (a0 : (List Spare)) (hb0 : a0.length < 1099511627776) (hb1 : ∀ v ∈ a0, bdSpare v) : Den Try.prog 95 [encL 3 eSpare a0] (ownL 63 3 eSpare (impl_clone_Spare a0)) := by
  generalize hR : impl_clone_Spare a0 = r
  unfold impl_clone_Spare at hR
  refine den_intro G_ok Try.func95 (by kernel_rfl) rfl Try.ntmps95 (by rw [Try.results95]) (by simp) rfl ?_
  intro c hL hc hk
  obtain ⟨hL0, _⟩ := hL
  have hw0 : a0.length < 9223372036854775808 := Nat.lt_succ_of_le (lens_encL hL0).1
  have hw1 : ∀ v ∈ a0, bwSpare v := fun v hv => Spare_lens v ((lens_encL hL0).2 v hv)
  clear hL0
  simp only [pars, Nat.zero_add]
  refine AWP.seq ?_
  refine AWP.regS G_ok impl_clone_Spare_DD hc (by kernel_rfl) (fun K hK => ?_); simp only [ea, gv, sv, reduceCtorEq, reduceIte, Nat.reduceBEq, Nat.reduceAdd, Nat.reduceEqDiff, Nat.reduceLT, Nat.reduceLeDiff, Nat.reduceMul, Nat.reduceSub, BEq.rfl, beq_self_eq_true, Int.reduceToNat]
  (refine hK _ ?_)
  clear hK K
  refine AWP.seq ?_
  refine AWP.regS G_ok impl_clone_Spare_DD hc (by kernel_rfl) (fun K hK => ?_); simp only [ea, gv, sv, reduceCtorEq, reduceIte, Nat.reduceBEq, Nat.reduceAdd, Nat.reduceEqDiff, Nat.reduceLT, Nat.reduceLeDiff, Nat.reduceMul, Nat.reduceSub, BEq.rfl, beq_self_eq_true, Int.reduceToNat]
  (refine ⟨by (omega), hK _ ?_⟩)
  clear hK K
  refine AWP.ret ?_
  subst hR
  (simp only [en, si, ea, gv, sv, hk, reduceCtorEq, reduceIte, Nat.reduceBEq, Nat.reduceAdd, Nat.reduceEqDiff, Nat.reduceLT, Nat.reduceLeDiff, Nat.reduceMul, Nat.reduceSub, BEq.rfl, beq_self_eq_true, Int.reduceToNat]; (and_intros <;> first | rfl | omega | (left; and_intros <;> (intro j hj; simp only [pw, Bool.cond_eq_ite, Bool.and_eq_true, decide_eq_true_eq]; (repeat' split) <;> simp [putL, borrowL, borrow, NoBorL, NoBor])) | (intro j hj; simp only [pw, Bool.cond_eq_ite, Bool.and_eq_true, decide_eq_true_eq]; (try rw [subL_getD _ _ _ _ (by assumption)]); (try rw [clearL_getD _ _ _ _ (by omega)]); (repeat' split) <;> first | omega | exact simOL_refl _ | (simp_all; done))))
def D_impl_clone_Spare : DF
  | [x0] => some (ownL 63 3 eSpare (impl_clone_Spare (rdL dSpare x0)), false, [wL 3 eSpare dSpare x0, (rdL dSpare x0).length < 1099511627776, ∀ v ∈ (rdL dSpare x0), bdSpare v])
  | _ => none
def Dz_impl_clone_Spare : DF
  | [x0] => some (ownL 63 3 eSpare (impl_clone_Spare (rdL dSpare x0)), true, [wL 3 eSpare dSpare x0, (rdL dSpare x0).length < 1099511627776, ∀ v ∈ (rdL dSpare x0), bdSpare v])
  | _ => none
theorem D_impl_clone_Spare_ok : OkD Try.prog 95 D_impl_clone_Spare := by
  intro xs r z ob h ho
  unfold D_impl_clone_Spare at h
  split at h
  · simp only [Option.some.injEq, Prod.mk.injEq] at h
    obtain ⟨rfl, rfl, rfl⟩ := h
    obtain ⟨h0, hb0, hb1, _⟩ := ho
    exact Den.sim (impl_clone_Spare_den _ hb0 hb1) (simOL_cons (wL_sim h0).1 <| trivial) (noIdL_cons (wL_sim h0).2 <| rfl) rfl
  · cases h
theorem Dz_impl_clone_Spare_ok : OkD Try.prog 95 Dz_impl_clone_Spare := by
  intro xs r z ob h ho
  unfold Dz_impl_clone_Spare at h
  split at h
  · simp only [Option.some.injEq, Prod.mk.injEq] at h
    obtain ⟨rfl, rfl, rfl⟩ := h
    obtain ⟨h0, hb0, hb1, _⟩ := ho
    exact Den.sim (impl_clone_Spare_den _ hb0 hb1) (simOL_cons (wL_sim h0).1 <| trivial) (noIdL_cons (wL_sim h0).2 <| rfl) rfl
  · cases h
end Go.Ab

namespace Go.Ab
open Go Go.Proofs
theorem impl_clone_Entry_DD : DOk Try.prog (DD []) := DD_nil _
def impl_clone_Entry (a0 : (List Entry)) : (List Entry) :=
  (List.replicate 0 (default : Entry)) ++ a0
theorem impl_clone_Entry_den (a0 : (List Entry)) (hb0 : a0.length < 1099511627776) (hb1 : ∀ v ∈ a0, bdEntry v) : Den Try.prog 97 [encL 3 eEntry a0] (ownL 66 3 eEntry (impl_clone_Entry a0)) := by
  generalize hR : impl_clone_Entry a0 = r
  unfold impl_clone_Entry at hR
  refine den_intro G_ok Try.func97 (by kernel_rfl) rfl Try.ntmps97 (by rw [Try.results97]) (by simp) rfl ?_
  intro c hL hc hk
  obtain ⟨hL0, _⟩ := hL
  have hw0 : a0.length < 9223372036854775808 := Nat.lt_succ_of_le (lens_encL hL0).1
  have hw1 : ∀ v ∈ a0, bwEntry v := fun v hv => Entry_lens v ((lens_encL hL0).2 v hv)
  clear hL0
  simp only [pars, Nat.zero_add]
  refine AWP.seq ?_
  refine AWP.regS G_ok impl_clone_Entry_DD hc (by kernel_rfl) (fun K hK => ?_); simp only [ea, gv, sv, reduceCtorEq, reduceIte, Nat.reduceBEq, Nat.reduceAdd, Nat.reduceEqDiff, Nat.reduceLT, Nat.reduceLeDiff, Nat.reduceMul, Nat.reduceSub, BEq.rfl, beq_self_eq_true, Int.reduceToNat]
  (refine hK _ ?_)
  clear hK K
  refine AWP.seq ?_
  refine AWP.regS G_ok impl_clone_Entry_DD hc (by kernel_rfl) (fun K hK => ?_); simp only [ea, gv, sv, reduceCtorEq, reduceIte, Nat.reduceBEq, Nat.reduceAdd, Nat.reduceEqDiff, Nat.reduceLT, Nat.reduceLeDiff, Nat.reduceMul, Nat.reduceSub, BEq.rfl, beq_self_eq_true, Int.reduceToNat]
  (refine ⟨by (omega), hK _ ?_⟩)
  clear hK K
  refine AWP.ret ?_
  subst hR
  (simp only [en, si, ea, gv, sv, hk, reduceCtorEq, reduceIte, Nat.reduceBEq, Nat.reduceAdd, Nat.reduceEqDiff, Nat.reduceLT, Nat.reduceLeDiff, Nat.reduceMul, Nat.reduceSub, BEq.rfl, beq_self_eq_true, Int.reduceToNat]; (and_intros <;> first | rfl | omega | (left; and_intros <;> (intro j hj; simp only [pw, Bool.cond_eq_ite, Bool.and_eq_true, decide_eq_true_eq]; (repeat' split) <;> simp [putL, borrowL, borrow, NoBorL, NoBor])) | (intro j hj; simp only [pw, Bool.cond_eq_ite, Bool.and_eq_true, decide_eq_true_eq]; (try rw [subL_getD _ _ _ _ (by assumption)]); (try rw [clearL_getD _ _ _ _ (by omega)]); (repeat' split) <;> first | omega | exact simOL_refl _ | (simp_all; done))))
def D_impl_clone_Entry : DF
  | [x0] => some (ownL 66 3 eEntry (impl_clone_Entry (rdL dEntry x0)), false, [wL 3 eEntry dEntry x0, (rdL dEntry x0).length < 1099511627776, ∀ v ∈ (rdL dEntry x0), bdEntry v])
  | _ => none
def Dz_impl_clone_Entry : DF
  | [x0] => some (ownL 66 3 eEntry (impl_clone_Entry (rdL dEntry x0)), true, [wL 3 eEntry dEntry x0, (rdL dEntry x0).length < 1099511627776, ∀ v ∈ (rdL dEntry x0), bdEntry v])
  | _ => none
theorem D_impl_clone_Entry_ok : OkD Try.prog 97 D_impl_clone_Entry := by
  intro xs r z ob h ho
  unfold D_impl_clone_Entry at h
  split at h
  · simp only [Option.some.injEq, Prod.mk.injEq] at h
    obtain ⟨rfl, rfl, rfl⟩ := h
    obtain ⟨h0, hb0, hb1, _⟩ := ho
    exact Den.sim (impl_clone_Entry_den _ hb0 hb1) (simOL_cons (wL_sim h0).1 <| trivial) (noIdL_cons (wL_sim h0).2 <| rfl) rfl
  · cases h
theorem Dz_impl_clone_Entry_ok : OkD Try.prog 97 Dz_impl_clone_Entry := by
  intro xs r z ob h ho
  unfold Dz_impl_clone_Entry at h
  split at h
  · simp only [Option.some.injEq, Prod.mk.injEq] at h
    obtain ⟨rfl, rfl, rfl⟩ := h
    obtain ⟨h0, hb0, hb1, _⟩ := ho
    exact Den.sim (impl_clone_Entry_den _ hb0 hb1) (simOL_cons (wL_sim h0).1 <| trivial) (noIdL_cons (wL_sim h0).2 <| rfl) rfl
  · cases h
end Go.Ab

namespace Go.Ab
open Go Go.Proofs
theorem slices_Insert_Entry_len (l : List Entry) (i : Int) (x : List Entry) : (slices_Insert_Entry l i x).length = l.length + x.length := by
  simp [slices_Insert_Entry]; omega
theorem slices_Insert_Entry_mem (l : List Entry) (i : Int) (x : List Entry) (v : Entry) (h : v ∈ slices_Insert_Entry l i x) : v ∈ l ∨ v ∈ x := by
  simp only [slices_Insert_Entry, List.mem_append] at h
  rcases h with (h | h) | h
  · exact .inl (List.mem_of_mem_take h)
  · exact .inr h
  · exact .inl (List.mem_of_mem_drop h)
end Go.Ab

namespace Go.Ab
open Go Go.Proofs
theorem impl_clone_Spare_id (a : List Spare) : impl_clone_Spare a = a := by simp [impl_clone_Spare]
end Go.Ab

namespace Go.Ab
open Go Go.Proofs
theorem impl_clone_Entry_id (a : List Entry) : impl_clone_Entry a = a := by simp [impl_clone_Entry]
end Go.Ab

namespace Go.Ab
open Go Go.Proofs
theorem impl_Store_put_DD : DOk Try.prog (DD [(125, dM [true, false, true] D_slices_Insert_Entry), (18, dP D_impl_ValidStore), (70, dP D_impl_Store_spareOf), (95, dP D_impl_clone_Spare), (97, dP D_impl_clone_Entry)]) := DD_cons D_slices_Insert_Entry_ok.e <| DD_cons D_impl_ValidStore_ok.e <| DD_cons D_impl_Store_spareOf_ok.e <| DD_cons D_impl_clone_Spare_ok.e <| DD_cons D_impl_clone_Entry_ok.e <| DD_nil _
def impl_Store_put_b1 (a0 : Store) (a1 : Entry) (s1 : Int) : Except (Sum ((Store × Int)) (Int)) (Int) :=
  (bif (decide (s1 < (a0.Entries.length : Int)) && decide (((a0.Entries.getD ((s1).toNat) default).Day) ≤ a1.Day)) then .ok (IntKind.wrap .i64 (s1 + 1)) else .error (.inr s1))
def impl_Store_put (a0 : Store) (a1 : Entry) : (Store × Int) :=
  (bif (!((impl_Store_spareOf a0 a1.Item).2)) then ({ Spares := [], Entries := [] : Store }, 3) else (bif ((a0.Entries.length : Int) == 48) then ({ Spares := [], Entries := [] : Store }, 5) else (match loopW (impl_Store_put_b1 a0 a1) ((a0.Entries.length - ((0 : Int)).toNat) + 1) 0 with | .error (.inl e) => e | .error (.inr s1) => (bif (!(impl_ValidStore ({ Spares := (impl_clone_Spare a0.Spares), Entries := ((slices_Insert_Entry (impl_clone_Entry a0.Entries) s1 [a1])) : Store }))) then ({ Spares := [], Entries := [] : Store }, 6) else ({ Spares := (impl_clone_Spare a0.Spares), Entries := ((slices_Insert_Entry (impl_clone_Entry a0.Entries) s1 [a1])) : Store }, 0)) | .ok _ => default)))
set_option maxHeartbeats 1000000 in
theorem impl_Store_put_den (a0 : Store) (a1 : Entry) (hb0 : bdStore a0) (hb1 : bdEntry a1) (hp0 : a0.Entries.length ≤ 1048576) : Den Try.prog 105 [.agg (eStore a0), .agg (eEntry a1)] (.tup [.agg (eStoreO ((impl_Store_put a0 a1).1)), .int .i64 ((impl_Store_put a0 a1).2)]) := by
  generalize hR : impl_Store_put a0 a1 = r
  unfold impl_Store_put at hR
  refine den_intro G_ok Try.func105 (by kernel_rfl) rfl Try.ntmps105 (by rw [Try.results105]) (by simp) rfl ?_
  intro c hL hc hk
  obtain ⟨hL0, hL1, _⟩ := hL
  have hw0 : bwStore a0 := Store_lens a0 hL0
  have hw1 : bwEntry a1 := Entry_lens a1 hL1
  clear hL0 hL1
  simp only [pars, Nat.zero_add]
  have hin : ∀ i v, v ∈ slices_Insert_Entry a0.Entries i [a1] → v.Item.length < 1099511627776 := fun i v h => (slices_Insert_Entry_mem _ _ _ v h).elim (fun h => hb0.2.2 v h) (fun h => by simp at h; subst h; exact hb1)
  refine AWP.seq ?_
  refine AWP.regS G_ok impl_Store_put_DD hc (by kernel_rfl) (fun K hK => ?_); simp only [ea, absV, absVL, gv, sv, D_slices_Insert_Entry, D_impl_ValidStore, D_impl_Store_spareOf, D_impl_clone_Spare, D_impl_clone_Entry, reduceCtorEq, reduceIte, Nat.reduceBEq, Nat.reduceAdd, Nat.reduceEqDiff, Nat.reduceLT, Nat.reduceLeDiff, Nat.reduceMul, Nat.reduceSub, BEq.rfl, beq_self_eq_true, Int.reduceToNat]
  (refine hK _ ?_)
  clear hK K
  refine AWP.seq ?_
  refine AWP.seq ?_
  refine AWP.regS G_ok impl_Store_put_DD hc (by kernel_rfl) (fun K hK => ?_); simp only [ea, absV, absVL, gv, sv, D_slices_Insert_Entry, D_impl_ValidStore, D_impl_Store_spareOf, D_impl_clone_Spare, D_impl_clone_Entry, reduceCtorEq, reduceIte, Nat.reduceBEq, Nat.reduceAdd, Nat.reduceEqDiff, Nat.reduceLT, Nat.reduceLeDiff, Nat.reduceMul, Nat.reduceSub, BEq.rfl, beq_self_eq_true, Int.reduceToNat]
  (refine hK _ ?_)
  clear hK K
  refine AWP.seq ?_
  refine AWP.regS G_ok impl_Store_put_DD hc (by kernel_rfl) (fun K hK => ?_); simp only [ea, absV, absVL, gv, sv, D_slices_Insert_Entry, D_impl_ValidStore, D_impl_Store_spareOf, D_impl_clone_Spare, D_impl_clone_Entry, reduceCtorEq, reduceIte, Nat.reduceBEq, Nat.reduceAdd, Nat.reduceEqDiff, Nat.reduceLT, Nat.reduceLeDiff, Nat.reduceMul, Nat.reduceSub, BEq.rfl, beq_self_eq_true, Int.reduceToNat]
  (refine hK _ ?_)
  clear hK K
  refine AWP.cond rfl (fun hb => ?_) (fun hb => ?_)
  · (simp only [hb, cond_true] at hR)
    refine AWP.seq ?_
    refine AWP.regS G_ok impl_Store_put_DD hc (by kernel_rfl) (fun K hK => ?_); simp only [ea, absV, absVL, gv, sv, D_slices_Insert_Entry, D_impl_ValidStore, D_impl_Store_spareOf, D_impl_clone_Spare, D_impl_clone_Entry, reduceCtorEq, reduceIte, Nat.reduceBEq, Nat.reduceAdd, Nat.reduceEqDiff, Nat.reduceLT, Nat.reduceLeDiff, Nat.reduceMul, Nat.reduceSub, BEq.rfl, beq_self_eq_true, Int.reduceToNat]
    (refine hK _ ?_)
    clear hK K
    refine AWP.ret ?_
    subst hR
    (simp only [en, si, ea, gv, sv, hk, reduceCtorEq, reduceIte, Nat.reduceBEq, Nat.reduceAdd, Nat.reduceEqDiff, Nat.reduceLT, Nat.reduceLeDiff, Nat.reduceMul, Nat.reduceSub, BEq.rfl, beq_self_eq_true, Int.reduceToNat]; done)
  · (simp only [hb, cond_false] at hR)
    refine AWP.skip ?_
    refine AWP.seq ?_
    refine AWP.seq ?_
    refine AWP.regS G_ok impl_Store_put_DD hc (by kernel_rfl) (fun K hK => ?_); simp only [ea, absV, absVL, gv, sv, D_slices_Insert_Entry, D_impl_ValidStore, D_impl_Store_spareOf, D_impl_clone_Spare, D_impl_clone_Entry, reduceCtorEq, reduceIte, Nat.reduceBEq, Nat.reduceAdd, Nat.reduceEqDiff, Nat.reduceLT, Nat.reduceLeDiff, Nat.reduceMul, Nat.reduceSub, BEq.rfl, beq_self_eq_true, Int.reduceToNat]
    (refine hK _ ?_)
    clear hK K
    refine AWP.cond rfl (fun hb => ?_) (fun hb => ?_)
    · (simp only [hb, cond_true] at hR)
      refine AWP.seq ?_
      refine AWP.regS G_ok impl_Store_put_DD hc (by kernel_rfl) (fun K hK => ?_); simp only [ea, absV, absVL, gv, sv, D_slices_Insert_Entry, D_impl_ValidStore, D_impl_Store_spareOf, D_impl_clone_Spare, D_impl_clone_Entry, reduceCtorEq, reduceIte, Nat.reduceBEq, Nat.reduceAdd, Nat.reduceEqDiff, Nat.reduceLT, Nat.reduceLeDiff, Nat.reduceMul, Nat.reduceSub, BEq.rfl, beq_self_eq_true, Int.reduceToNat]
      (refine hK _ ?_)
      clear hK K
      refine AWP.ret ?_
      subst hR
      (simp only [en, si, ea, gv, sv, hk, reduceCtorEq, reduceIte, Nat.reduceBEq, Nat.reduceAdd, Nat.reduceEqDiff, Nat.reduceLT, Nat.reduceLeDiff, Nat.reduceMul, Nat.reduceSub, BEq.rfl, beq_self_eq_true, Int.reduceToNat]; done)
    · (simp only [hb, cond_false] at hR)
      refine AWP.skip ?_
      refine AWP.seq ?_
      refine AWP.regS G_ok impl_Store_put_DD hc (by kernel_rfl) (fun K hK => ?_); simp only [ea, absV, absVL, gv, sv, D_slices_Insert_Entry, D_impl_ValidStore, D_impl_Store_spareOf, D_impl_clone_Spare, D_impl_clone_Entry, reduceCtorEq, reduceIte, Nat.reduceBEq, Nat.reduceAdd, Nat.reduceEqDiff, Nat.reduceLT, Nat.reduceLeDiff, Nat.reduceMul, Nat.reduceSub, BEq.rfl, beq_self_eq_true, Int.reduceToNat]
      (refine hK _ ?_)
      clear hK K
      refine AWP.seq ?_
      refine AWP.block ?_
      generalize hz1 : loopW (impl_Store_put_b1 a0 a1) ((a0.Entries.length - ((0 : Int)).toNat) + 1) 0 = z1 at hR
      refine AWP.whileW (impl_Store_put_b1 a0 a1) (fun s1 => ⟨[(2, .ptr 0 0), (3, .ptr 1 0), (4, .ptr 2 0), (8, .int .i64 s1)], [.box [encL 3 eSpare a0.Spares, encL 3 eEntry a0.Entries], .box [.int .i64 a1.Day, .str a1.Item, .int .i64 a1.Amount], .box [.nils, .nils]]⟩) (fun s1 => 0 ≤ s1 ∧ s1 ≤ a0.Entries.length) (fun s1 => a0.Entries.length - (s1).toNat) ((a0.Entries.length - ((0 : Int)).toNat) + 1) 0 [0, 1, 2] hz1 (by omega) (by ((and_intros <;> simp only [ob, ln, impl_clone_Spare_id, impl_clone_Entry_id] at * <;> omega))) (by (simp only [si, ea, gv, sv, hk, reduceCtorEq, reduceIte, Nat.reduceBEq, Nat.reduceAdd, Nat.reduceEqDiff, Nat.reduceLT, Nat.reduceLeDiff, Nat.reduceMul, Nat.reduceSub, BEq.rfl, beq_self_eq_true, Int.reduceToNat]; trivial)) ?_
      clear hz1
      intro s1 k1 hW1 hm1 hz1
      simp only [impl_Store_put_b1] at hz1
      refine AWP.seq ?_
      refine AWP.seq ?_
      refine AWP.regD mixed G_ok impl_Store_put_DD hc 16 (by kernel_rfl) (by kernel_rfl) (fun K hK => ?_); simp only [ea, absV, absVL, gv, sv, D_slices_Insert_Entry, D_impl_ValidStore, D_impl_Store_spareOf, D_impl_clone_Spare, D_impl_clone_Entry, reduceCtorEq, reduceIte, Nat.reduceBEq, Nat.reduceAdd, Nat.reduceEqDiff, Nat.reduceLT, Nat.reduceLeDiff, Nat.reduceMul, Nat.reduceSub, BEq.rfl, beq_self_eq_true, Int.reduceToNat]
      (refine ⟨by ((simp only [ob, ln, bdv, impl_clone_Spare_id, impl_clone_Entry_id, sv] at *; omega)), hK _ ?_⟩)
      clear hK K
      refine AWP.cond rfl (fun hb => ?_) (fun hb => ?_)
      · (simp only [hb, cond_true] at hz1)
        refine AWP.skip ?_
        refine AWP.block ?_
        refine AWP.regS G_ok impl_Store_put_DD hc (by kernel_rfl) (fun K hK => ?_); simp only [ea, absV, absVL, gv, sv, D_slices_Insert_Entry, D_impl_ValidStore, D_impl_Store_spareOf, D_impl_clone_Spare, D_impl_clone_Entry, reduceCtorEq, reduceIte, Nat.reduceBEq, Nat.reduceAdd, Nat.reduceEqDiff, Nat.reduceLT, Nat.reduceLeDiff, Nat.reduceMul, Nat.reduceSub, BEq.rfl, beq_self_eq_true, Int.reduceToNat]
        (refine hK _ ?_)
        clear hK K
        exact ⟨_, [0, 1, 2], by ((simp only [ob, ln, impl_clone_Spare_id, impl_clone_Entry_id] at *; omega)), by ((and_intros <;> simp only [ob, ln, impl_clone_Spare_id, impl_clone_Entry_id] at * <;> omega)), hz1, by (simp only [si, ea, gv, sv, hk, reduceCtorEq, reduceIte, Nat.reduceBEq, Nat.reduceAdd, Nat.reduceEqDiff, Nat.reduceLT, Nat.reduceLeDiff, Nat.reduceMul, Nat.reduceSub, BEq.rfl, beq_self_eq_true, Int.reduceToNat]; trivial)⟩
      · (simp only [hb, cond_false] at hz1)
        refine AWP.exit ?_
        refine exitTo_here ?_
        subst hz1; dsimp only at hR
        refine AWP.seq ?_
        refine AWP.regP mixed G_ok impl_Store_put_DD hc 12 [0, 1, 3, 4, 6, 7] (.alt 2 [] [3, 4, 6, 7] (.alt 5 [] [6, 7] (.alt 8 [] [6] (.alt 9 [10] [10] (.alt 11 [] [10] .leaf .stop) (.alt 11 [] [6] (.alt 9 [10] [10] .leaf .stop) .stop)) (.alt 11 [] [6, 7] (.alt 8 [] [6] (.alt 9 [10] [10] .leaf .stop) .stop) .stop)) (.alt 8 [] [3, 4, 6] (.alt 5 [] [6] (.alt 9 [10] [10] (.alt 11 [] [10] .leaf .stop) (.alt 11 [] [6] (.alt 9 [10] [10] .leaf .stop) .stop)) (.alt 11 [] [3, 4, 6] (.alt 5 [] [6] (.alt 9 [10] [10] .leaf .stop) .stop) .stop)) (.alt 11 [] [3, 4, 6, 7] (.alt 5 [] [6, 7] (.alt 8 [] [6] (.alt 9 [10] [10] .leaf .stop) .stop) (.alt 8 [] [3, 4, 6] (.alt 5 [] [6] (.alt 9 [10] [10] .leaf .stop) .stop) .stop)) .stop))) (.alt 8 [] [0, 1, 3, 4, 6] (.alt 2 [] [3, 4, 6] (.alt 5 [] [6] (.alt 9 [10] [10] (.alt 11 [] [10] .leaf .stop) (.alt 11 [] [6] (.alt 9 [10] [10] .leaf .stop) .stop)) (.alt 11 [] [3, 4, 6] (.alt 5 [] [6] (.alt 9 [10] [10] .leaf .stop) .stop) .stop)) (.alt 11 [] [0, 1, 3, 4, 6] (.alt 2 [] [3, 4, 6] (.alt 5 [] [6] (.alt 9 [10] [10] .leaf .stop) .stop) .stop) .stop)) (.alt 11 [] [0, 1, 3, 4, 6, 7] (.alt 2 [] [3, 4, 6, 7] (.alt 5 [] [6, 7] (.alt 8 [] [6] (.alt 9 [10] [10] .leaf .stop) .stop) (.alt 8 [] [3, 4, 6] (.alt 5 [] [6] (.alt 9 [10] [10] .leaf .stop) .stop) .stop)) (.alt 8 [] [0, 1, 3, 4, 6] (.alt 2 [] [3, 4, 6] (.alt 5 [] [6] (.alt 9 [10] [10] .leaf .stop) .stop) .stop) .stop)) .stop))) (by kernel_rfl) (by kernel_rfl) (by kernel_rfl) (fun K hK => ?_)
        refine join_sim ⟨[(4, .ptr 0 0), (9, .ptr 1 0)], [.box [.nils, .nils], .box [.ref 2 3 0 ((impl_clone_Spare a0.Spares).length), .ref 3 3 0 (((slices_Insert_Entry (impl_clone_Entry a0.Entries) s1 [a1])).length)], .arr 63 3 (impl_clone_Spare a0.Spares).length (fun j => eSpare ((impl_clone_Spare a0.Spares).getD j default)), .arr 66 3 ((slices_Insert_Entry (impl_clone_Entry a0.Entries) s1 [a1])).length (fun j => eEntry (((slices_Insert_Entry (impl_clone_Entry a0.Entries) s1 [a1])).getD j default))]⟩ hK ?_ (fun hJ => ?_)
        rotate_left
        · simp only [rootP, runN, runP, recheck, nthO, ea, absV, absVL, gv, sv, D_slices_Insert_Entry, D_impl_ValidStore, D_impl_Store_spareOf, D_impl_clone_Spare, D_impl_clone_Entry, reduceCtorEq, reduceIte, Nat.reduceBEq, Nat.reduceAdd, Nat.reduceEqDiff, Nat.reduceLT, Nat.reduceLeDiff, Nat.reduceMul, Nat.reduceSub, BEq.rfl, beq_self_eq_true, Int.reduceToNat]
          repeat' apply And.intro
          all_goals first | (refine hJ _ [2, 7, 3, 6] ?_; (simp only [si, ea, gv, sv, hk, reduceCtorEq, reduceIte, Nat.reduceBEq, Nat.reduceAdd, Nat.reduceEqDiff, Nat.reduceLT, Nat.reduceLeDiff, Nat.reduceMul, Nat.reduceSub, BEq.rfl, beq_self_eq_true, Int.reduceToNat]; trivial)) | (refine hJ _ [2, 6, 3, 7] ?_; (simp only [si, ea, gv, sv, hk, reduceCtorEq, reduceIte, Nat.reduceBEq, Nat.reduceAdd, Nat.reduceEqDiff, Nat.reduceLT, Nat.reduceLeDiff, Nat.reduceMul, Nat.reduceSub, BEq.rfl, beq_self_eq_true, Int.reduceToNat]; trivial)) | (refine hJ _ [2, 5, 3, 7] ?_; (simp only [si, ea, gv, sv, hk, reduceCtorEq, reduceIte, Nat.reduceBEq, Nat.reduceAdd, Nat.reduceEqDiff, Nat.reduceLT, Nat.reduceLeDiff, Nat.reduceMul, Nat.reduceSub, BEq.rfl, beq_self_eq_true, Int.reduceToNat]; trivial)) | (refine hJ _ [2, 4, 3, 7] ?_; (simp only [si, ea, gv, sv, hk, reduceCtorEq, reduceIte, Nat.reduceBEq, Nat.reduceAdd, Nat.reduceEqDiff, Nat.reduceLT, Nat.reduceLeDiff, Nat.reduceMul, Nat.reduceSub, BEq.rfl, beq_self_eq_true, Int.reduceToNat]; trivial)) | (refine hJ _ [2, 7, 4, 6] ?_; (simp only [si, ea, gv, sv, hk, reduceCtorEq, reduceIte, Nat.reduceBEq, Nat.reduceAdd, Nat.reduceEqDiff, Nat.reduceLT, Nat.reduceLeDiff, Nat.reduceMul, Nat.reduceSub, BEq.rfl, beq_self_eq_true, Int.reduceToNat]; trivial)) | (refine hJ _ [2, 6, 4, 7] ?_; (simp only [si, ea, gv, sv, hk, reduceCtorEq, reduceIte, Nat.reduceBEq, Nat.reduceAdd, Nat.reduceEqDiff, Nat.reduceLT, Nat.reduceLeDiff, Nat.reduceMul, Nat.reduceSub, BEq.rfl, beq_self_eq_true, Int.reduceToNat]; trivial)) | (refine hJ _ [2, 5, 4, 7] ?_; (simp only [si, ea, gv, sv, hk, reduceCtorEq, reduceIte, Nat.reduceBEq, Nat.reduceAdd, Nat.reduceEqDiff, Nat.reduceLT, Nat.reduceLeDiff, Nat.reduceMul, Nat.reduceSub, BEq.rfl, beq_self_eq_true, Int.reduceToNat]; trivial)) | (refine hJ _ [2, 4, 5, 7] ?_; (simp only [si, ea, gv, sv, hk, reduceCtorEq, reduceIte, Nat.reduceBEq, Nat.reduceAdd, Nat.reduceEqDiff, Nat.reduceLT, Nat.reduceLeDiff, Nat.reduceMul, Nat.reduceSub, BEq.rfl, beq_self_eq_true, Int.reduceToNat]; trivial)) | (refine hJ _ [2, 3, 4, 7] ?_; (simp only [si, ea, gv, sv, hk, reduceCtorEq, reduceIte, Nat.reduceBEq, Nat.reduceAdd, Nat.reduceEqDiff, Nat.reduceLT, Nat.reduceLeDiff, Nat.reduceMul, Nat.reduceSub, BEq.rfl, beq_self_eq_true, Int.reduceToNat]; trivial)) | (refine hJ _ [2, 3, 5, 7] ?_; (simp only [si, ea, gv, sv, hk, reduceCtorEq, reduceIte, Nat.reduceBEq, Nat.reduceAdd, Nat.reduceEqDiff, Nat.reduceLT, Nat.reduceLeDiff, Nat.reduceMul, Nat.reduceSub, BEq.rfl, beq_self_eq_true, Int.reduceToNat]; trivial)) | (first | trivial | omega | (simp only [ob, ln, bdv, impl_clone_Spare_id, impl_clone_Entry_id, sv] at *; omega) | ((try clear hK K); (repeat' (intro _)) <;> (simp only [ob, ln, bdv, impl_clone_Spare_id, impl_clone_Entry_id, sv] at *; (simp_all; done))))
        clear hK K
        refine AWP.seq ?_
        refine AWP.seq ?_
        refine AWP.regS G_ok impl_Store_put_DD hc (by kernel_rfl) (fun K hK => ?_); simp only [ea, absV, absVL, gv, sv, D_slices_Insert_Entry, D_impl_ValidStore, D_impl_Store_spareOf, D_impl_clone_Spare, D_impl_clone_Entry, reduceCtorEq, reduceIte, Nat.reduceBEq, Nat.reduceAdd, Nat.reduceEqDiff, Nat.reduceLT, Nat.reduceLeDiff, Nat.reduceMul, Nat.reduceSub, BEq.rfl, beq_self_eq_true, Int.reduceToNat]
        (refine ⟨by (((try clear hK K); (repeat' first | apply And.intro | intro _) <;> first | omega | solve_by_elim | (right; (simp only [si, ea, gv, sv, hk, reduceCtorEq, reduceIte, Nat.reduceBEq, Nat.reduceAdd, Nat.reduceEqDiff, Nat.reduceLT, Nat.reduceLeDiff, Nat.reduceMul, Nat.reduceSub, BEq.rfl, beq_self_eq_true, Int.reduceToNat]; (and_intros <;> (simp only [ob, ln, bdv, impl_clone_Spare_id, impl_clone_Entry_id, sv] at *; (grind [slices_Insert_Entry_len, slices_Insert_Entry_mem, impl_ValidStore_len, impl_Store_spareOf_le]))))) | (simp only [ob, ln, bdv, impl_clone_Spare_id, impl_clone_Entry_id, sv] at *; first | omega | (simp_all; done)))), hK _ ?_⟩)
        clear hK K
        refine AWP.cond rfl (fun hb => ?_) (fun hb => ?_)
        · (simp only [hb, cond_true] at hR)
          refine AWP.seq ?_
          refine AWP.regS G_ok impl_Store_put_DD hc (by kernel_rfl) (fun K hK => ?_); simp only [ea, absV, absVL, gv, sv, D_slices_Insert_Entry, D_impl_ValidStore, D_impl_Store_spareOf, D_impl_clone_Spare, D_impl_clone_Entry, reduceCtorEq, reduceIte, Nat.reduceBEq, Nat.reduceAdd, Nat.reduceEqDiff, Nat.reduceLT, Nat.reduceLeDiff, Nat.reduceMul, Nat.reduceSub, BEq.rfl, beq_self_eq_true, Int.reduceToNat]
          (refine hK _ ?_)
          clear hK K
          refine AWP.ret ?_
          subst hR
          (simp only [en, si, ea, gv, sv, hk, reduceCtorEq, reduceIte, Nat.reduceBEq, Nat.reduceAdd, Nat.reduceEqDiff, Nat.reduceLT, Nat.reduceLeDiff, Nat.reduceMul, Nat.reduceSub, BEq.rfl, beq_self_eq_true, Int.reduceToNat]; done)
        · (simp only [hb, cond_false] at hR)
          refine AWP.skip ?_
          refine AWP.seq ?_
          refine AWP.regS G_ok impl_Store_put_DD hc (by kernel_rfl) (fun K hK => ?_); simp only [ea, absV, absVL, gv, sv, D_slices_Insert_Entry, D_impl_ValidStore, D_impl_Store_spareOf, D_impl_clone_Spare, D_impl_clone_Entry, reduceCtorEq, reduceIte, Nat.reduceBEq, Nat.reduceAdd, Nat.reduceEqDiff, Nat.reduceLT, Nat.reduceLeDiff, Nat.reduceMul, Nat.reduceSub, BEq.rfl, beq_self_eq_true, Int.reduceToNat]
          (refine hK _ ?_)
          clear hK K
          refine AWP.ret ?_
          subst hR
          (simp only [en, si, ea, gv, sv, hk, reduceCtorEq, reduceIte, Nat.reduceBEq, Nat.reduceAdd, Nat.reduceEqDiff, Nat.reduceLT, Nat.reduceLeDiff, Nat.reduceMul, Nat.reduceSub, BEq.rfl, beq_self_eq_true, Int.reduceToNat]; (and_intros <;> omega))
def D_impl_Store_put : DF
  | [x0, x1] => some (.tup [.agg (eStoreO ((impl_Store_put (rdG dStore x0) (rdG dEntry x1)).1)), .int .i64 ((impl_Store_put (rdG dStore x0) (rdG dEntry x1)).2)], false, [wG eStore dStore x0, wG eEntry dEntry x1, bdStore (rdG dStore x0), bdEntry (rdG dEntry x1), (rdG dStore x0).Entries.length ≤ 1048576])
  | _ => none
def Dz_impl_Store_put : DF
  | [x0, x1] => some (.tup [.agg (eStoreO ((impl_Store_put (rdG dStore x0) (rdG dEntry x1)).1)), .int .i64 ((impl_Store_put (rdG dStore x0) (rdG dEntry x1)).2)], true, [wG eStore dStore x0, wG eEntry dEntry x1, bdStore (rdG dStore x0), bdEntry (rdG dEntry x1), (rdG dStore x0).Entries.length ≤ 1048576])
  | _ => none
theorem D_impl_Store_put_ok : OkD Try.prog 105 D_impl_Store_put := by
  intro xs r z ob h ho
  unfold D_impl_Store_put at h
  split at h
  · simp only [Option.some.injEq, Prod.mk.injEq] at h
    obtain ⟨rfl, rfl, rfl⟩ := h
    obtain ⟨h0, h1, hb0, hb1, hp0, _⟩ := ho
    exact Den.sim (impl_Store_put_den _ _ hb0 hb1 hp0) (simOL_cons (wG_sim h0).1 <| simOL_cons (wG_sim h1).1 <| trivial) (noIdL_cons (wG_sim h0).2 <| noIdL_cons (wG_sim h1).2 <| rfl) rfl
  · cases h
theorem Dz_impl_Store_put_ok : OkD Try.prog 105 Dz_impl_Store_put := by
  intro xs r z ob h ho
  unfold Dz_impl_Store_put at h
  split at h
  · simp only [Option.some.injEq, Prod.mk.injEq] at h
    obtain ⟨rfl, rfl, rfl⟩ := h
    obtain ⟨h0, h1, hb0, hb1, hp0, _⟩ := ho
    exact Den.sim (impl_Store_put_den _ _ hb0 hb1 hp0) (simOL_cons (wG_sim h0).1 <| simOL_cons (wG_sim h1).1 <| trivial) (noIdL_cons (wG_sim h0).2 <| noIdL_cons (wG_sim h1).2 <| rfl) rfl
  · cases h
end Go.Ab

namespace Go.Ab
open Go Go.Proofs
theorem impl_Store_put_spec (a : Store) (e : Entry) (hl : a.Entries.length < 9223372036854775808) : ∃ j : Nat, j ≤ a.Entries.length ∧ (∀ q, q < j → (a.Entries.getD q default).Day ≤ e.Day) ∧ (j = a.Entries.length ∨ ¬ (a.Entries.getD j default).Day ≤ e.Day) ∧
    impl_Store_put a e = (bif (!((impl_Store_spareOf a e.Item).2)) then ({ Spares := [], Entries := [] : Store }, 3) else (bif ((a.Entries.length : Int) == 48) then ({ Spares := [], Entries := [] : Store }, 5) else (bif (!(impl_ValidStore { Spares := a.Spares, Entries := a.Entries.take j ++ [e] ++ a.Entries.drop j : Store })) then ({ Spares := [], Entries := [] : Store }, 6) else ({ Spares := a.Spares, Entries := a.Entries.take j ++ [e] ++ a.Entries.drop j : Store }, 0)))) := by
  unfold impl_Store_put
  obtain ⟨j, h1, h2, h3, h4, h5⟩ := loopW_upto (ρ := Store × Int) (b := impl_Store_put_b1 a e) (fun j => decide ((a.Entries.getD j default).Day ≤ e.Day)) a.Entries.length (fun j hj => by
    simp only [impl_Store_put_b1, Int.toNat_natCast]
    have hw : j < a.Entries.length → IntKind.wrap .i64 ((j : Int) + 1) = ((j + 1 : Nat) : Int) := fun h => wrap_nat h hl
    by_cases hj' : j < a.Entries.length
    · rw [hw hj']
      simp [hj']
    · simp [hj']) ((a.Entries.length - ((0 : Int)).toNat) + 1) 0 (by omega) (by simp)
  rw [show ((0 : Nat) : Int) = 0 from rfl] at h5
  refine ⟨j, h2, fun q hq => by simpa using h3 q (by omega) hq, by simpa using h4, ?_⟩
  rw [h5]
  simp only [impl_clone_Spare_id, impl_clone_Entry_id, slices_Insert_Entry, Int.toNat_natCast]
theorem impl_Store_put_keep (a : Store) (e : Entry) (hl : a.Entries.length < 9223372036854775808) (h : (impl_Store_put a e).2 = 0) :
    (impl_Store_put a e).1.Spares = a.Spares ∧ (impl_Store_put a e).1.Entries.length ≤ 48 ∧ (∀ v, v ∈ (impl_Store_put a e).1.Entries → v ∈ a.Entries ∨ v = e) ∧ impl_ValidStore (impl_Store_put a e).1 = true := by
  obtain ⟨j, h1, h2, h3, h4⟩ := impl_Store_put_spec a e hl
  rw [h4] at h ⊢
  cases hf : (impl_Store_spareOf a e.Item).2 with
  | false => rw [hf] at h; simp at h
  | true =>
    cases h48 : ((a.Entries.length : Int) == 48) with
    | true => rw [hf, h48] at h; simp at h
    | false =>
      cases hv : impl_ValidStore { Spares := a.Spares, Entries := a.Entries.take j ++ [e] ++ a.Entries.drop j : Store } with
      | false => rw [hf, h48, hv] at h; simp at h
      | true =>
        simp only [Bool.not_true, cond_false]
        refine ⟨trivial, (impl_ValidStore_len _ hv).2, ?_, hv⟩
        intro v hv
        simp only [List.mem_append, List.mem_singleton] at hv
        rcases hv with (h | h) | h
        · exact .inl (List.mem_of_mem_take h)
        · exact .inr h
        · exact .inl (List.mem_of_mem_drop h)
end Go.Ab

namespace Go.Ab
open Go Go.Proofs
theorem spec_l29Own_DD : DOk Try.prog (DD []) := DD_nil _
def spec_l29Own (a0 : Store) : Store :=
  { Spares := ([] : List Spare) ++ a0.Spares, Entries := ([] : List Entry) ++ a0.Entries : Store }
theorem spec_l29Own_den (a0 : Store) (hb0 : bdStore a0) : Den Try.prog 93 [.ep (eStore a0)] (.agg (eStoreO (spec_l29Own a0))) := by
  generalize hR : spec_l29Own a0 = r
  unfold spec_l29Own at hR
  refine den_intro G_ok Try.func93 (by kernel_rfl) rfl Try.ntmps93 (by rw [Try.results93]) (by simp) rfl ?_
  intro c hL hc hk
  obtain ⟨hL0, _⟩ := hL
  have hw0 : bwStore a0 := Store_lens a0 hL0
  clear hL0
  simp only [pars, Nat.zero_add]
  refine AWP.seq ?_
  refine AWP.regS G_ok spec_l29Own_DD hc (by kernel_rfl) (fun K hK => ?_); simp only [ea, gv, sv, reduceCtorEq, reduceIte, Nat.reduceBEq, Nat.reduceAdd, Nat.reduceEqDiff, Nat.reduceLT, Nat.reduceLeDiff, Nat.reduceMul, Nat.reduceSub, BEq.rfl, beq_self_eq_true, Int.reduceToNat]
  (refine hK _ ?_)
  clear hK K
  refine AWP.seq ?_
  refine AWP.regP mixed G_ok spec_l29Own_DD hc 13 [1, 2, 3, 4, 7, 8, 9, 10] (.alt 0 [] [1, 2, 3, 4, 7, 8, 9, 10] (.alt 5 [] [7, 8, 9, 10] (.alt 6 [] [7, 8, 9, 10] (.alt 11 [12] [12] .leaf .stop) .stop) (.alt 6 [] [1, 2, 3, 4, 7, 8, 9, 10] (.alt 5 [] [7, 8, 9, 10] (.alt 11 [12] [12] .leaf .stop) .stop) .stop)) (.alt 6 [] [1, 2, 3, 4, 7, 8, 9, 10] (.alt 0 [] [1, 2, 3, 4, 7, 8, 9, 10] (.alt 5 [] [7, 8, 9, 10] (.alt 11 [12] [12] .leaf .stop) .stop) .stop) .stop)) (by kernel_rfl) (by kernel_rfl) (by kernel_rfl) (fun K hK => ?_)
  refine join_sim ⟨[(2, .ptr 0 0)], [.box [.ref 1 3 0 (0 + a0.Spares.length), .ref 2 3 0 (0 + a0.Entries.length)], .arr 63 3 (([] : List Spare) ++ a0.Spares).length (fun j => eSpare ((([] : List Spare) ++ a0.Spares).getD j default)), .arr 66 3 (([] : List Entry) ++ a0.Entries).length (fun j => eEntry ((([] : List Entry) ++ a0.Entries).getD j default))]⟩ hK ?_ (fun hJ => ?_)
  rotate_left
  · simp only [rootP, runN, runP, recheck, nthO, ea, gv, sv, reduceCtorEq, reduceIte, Nat.reduceBEq, Nat.reduceAdd, Nat.reduceEqDiff, Nat.reduceLT, Nat.reduceLeDiff, Nat.reduceMul, Nat.reduceSub, BEq.rfl, beq_self_eq_true, Int.reduceToNat]
    repeat' apply And.intro
    all_goals first | (refine hJ _ [0, 2, 4] ?_; (simp only [si, ea, gv, sv, hk, reduceCtorEq, reduceIte, Nat.reduceBEq, Nat.reduceAdd, Nat.reduceEqDiff, Nat.reduceLT, Nat.reduceLeDiff, Nat.reduceMul, Nat.reduceSub, BEq.rfl, beq_self_eq_true, Int.reduceToNat]; (and_intros <;> first | trivial | (intro j hj; simp only [pw, Bool.cond_eq_ite, Bool.and_eq_true, decide_eq_true_eq]; (try rw [subL_getD _ _ _ _ (by assumption)]); (try rw [clearL_getD _ _ _ _ (by omega)]); (repeat' split) <;> first | rfl | omega)))) | (refine hJ _ [0, 3, 4] ?_; (simp only [si, ea, gv, sv, hk, reduceCtorEq, reduceIte, Nat.reduceBEq, Nat.reduceAdd, Nat.reduceEqDiff, Nat.reduceLT, Nat.reduceLeDiff, Nat.reduceMul, Nat.reduceSub, BEq.rfl, beq_self_eq_true, Int.reduceToNat]; (and_intros <;> first | trivial | (intro j hj; simp only [pw, Bool.cond_eq_ite, Bool.and_eq_true, decide_eq_true_eq]; (try rw [subL_getD _ _ _ _ (by assumption)]); (try rw [clearL_getD _ _ _ _ (by omega)]); (repeat' split) <;> first | rfl | omega)))) | ((simp only [ob, ln, bdv, sv] at *; omega))
  clear hK K
  refine AWP.ret ?_
  subst hR
  (simp only [en, si, ea, gv, sv, hk, reduceCtorEq, reduceIte, Nat.reduceBEq, Nat.reduceAdd, Nat.reduceEqDiff, Nat.reduceLT, Nat.reduceLeDiff, Nat.reduceMul, Nat.reduceSub, BEq.rfl, beq_self_eq_true, Int.reduceToNat]; (and_intros <;> omega))
def D_spec_l29Own : DF
  | [x0] => some (.agg (eStoreO (spec_l29Own (rdP dStore x0))), false, [wP eStore dStore x0, bdStore (rdP dStore x0)])
  | _ => none
def Dz_spec_l29Own : DF
  | [x0] => some (.agg (eStoreO (spec_l29Own (rdP dStore x0))), true, [wP eStore dStore x0, bdStore (rdP dStore x0)])
  | _ => none
theorem D_spec_l29Own_ok : OkD Try.prog 93 D_spec_l29Own := by
  intro xs r z ob h ho
  unfold D_spec_l29Own at h
  split at h
  · simp only [Option.some.injEq, Prod.mk.injEq] at h
    obtain ⟨rfl, rfl, rfl⟩ := h
    obtain ⟨h0, hb0, _⟩ := ho
    exact Den.sim (spec_l29Own_den _ hb0) (simOL_cons (wP_sim h0).1 <| trivial) (noIdL_cons (wP_sim h0).2 <| rfl) rfl
  · cases h
theorem Dz_spec_l29Own_ok : OkD Try.prog 93 Dz_spec_l29Own := by
  intro xs r z ob h ho
  unfold Dz_spec_l29Own at h
  split at h
  · simp only [Option.some.injEq, Prod.mk.injEq] at h
    obtain ⟨rfl, rfl, rfl⟩ := h
    obtain ⟨h0, hb0, _⟩ := ho
    exact Den.sim (spec_l29Own_den _ hb0) (simOL_cons (wP_sim h0).1 <| trivial) (noIdL_cons (wP_sim h0).2 <| rfl) rfl
  · cases h
end Go.Ab

namespace Go.Ab
open Go Go.Proofs
theorem spec_l29Own_id (a : Store) : spec_l29Own a = a := by
  cases a; simp [spec_l29Own]
end Go.Ab

namespace Go.Ab
open Go Go.Proofs
theorem spec_l29Put_DD : DOk Try.prog (DD [(93, dP D_spec_l29Own)]) := DD_cons D_spec_l29Own_ok.e <| DD_nil _
def spec_l29Put_b1 (a0 : Store) (a1 : Entry) (s1 : Int) : Except (Sum (Store) (Int)) (Int) :=
  (bif (decide (0 < s1) && decide (a1.Day < ((((spec_l29Own a0).Entries).getD ((IntKind.wrap .i64 (s1 - 1)).toNat) default).Day))) then .ok (IntKind.wrap .i64 (s1 - 1)) else .error (.inr s1))
def spec_l29Put (a0 : Store) (a1 : Entry) : Store :=
  (match loopW (spec_l29Put_b1 a0 a1) ((((((spec_l29Own a0).Entries).length : Int)).toNat) + 1) (((spec_l29Own a0).Entries).length : Int) with | .error (.inl e) => e | .error (.inr s1) => { Spares := (spec_l29Own a0).Spares, Entries := ((([] : List Entry) ++ (subL ((spec_l29Own a0).Entries) 0 ((s1).toNat))) ++ [a1]) ++ (subL ((spec_l29Own a0).Entries) ((s1).toNat) (((spec_l29Own a0).Entries).length - (s1).toNat)) : Store } | .ok _ => default)
theorem spec_l29Put_den (a0 : Store) (a1 : Entry) (hb0 : bdStore a0) (hb1 : bdEntry a1) : Den Try.prog 128 [.ep (eStore a0), .agg (eEntry a1)] (.agg (eStoreO (spec_l29Put a0 a1))) := by
  generalize hR : spec_l29Put a0 a1 = r
  unfold spec_l29Put at hR
  refine den_intro G_ok Try.func128 (by kernel_rfl) rfl Try.ntmps128 (by rw [Try.results128]) (by simp) rfl ?_
  intro c hL hc hk
  obtain ⟨hL0, hL1, _⟩ := hL
  have hw0 : bwStore a0 := Store_lens a0 hL0
  have hw1 : bwEntry a1 := Entry_lens a1 hL1
  clear hL0 hL1
  simp only [pars, Nat.zero_add]
  refine AWP.seq ?_
  refine AWP.regS G_ok spec_l29Put_DD hc (by kernel_rfl) (fun K hK => ?_); simp only [ea, gv, sv, D_spec_l29Own, reduceCtorEq, reduceIte, Nat.reduceBEq, Nat.reduceAdd, Nat.reduceEqDiff, Nat.reduceLT, Nat.reduceLeDiff, Nat.reduceMul, Nat.reduceSub, BEq.rfl, beq_self_eq_true, Int.reduceToNat]
  (refine hK _ ?_)
  clear hK K
  refine AWP.seq ?_
  refine AWP.regS G_ok spec_l29Put_DD hc (by kernel_rfl) (fun K hK => ?_); simp only [ea, gv, sv, D_spec_l29Own, reduceCtorEq, reduceIte, Nat.reduceBEq, Nat.reduceAdd, Nat.reduceEqDiff, Nat.reduceLT, Nat.reduceLeDiff, Nat.reduceMul, Nat.reduceSub, BEq.rfl, beq_self_eq_true, Int.reduceToNat]
  (refine ⟨by (trivial), hK _ ?_⟩)
  clear hK K
  refine AWP.seq ?_
  refine AWP.regS G_ok spec_l29Put_DD hc (by kernel_rfl) (fun K hK => ?_); simp only [ea, gv, sv, D_spec_l29Own, reduceCtorEq, reduceIte, Nat.reduceBEq, Nat.reduceAdd, Nat.reduceEqDiff, Nat.reduceLT, Nat.reduceLeDiff, Nat.reduceMul, Nat.reduceSub, BEq.rfl, beq_self_eq_true, Int.reduceToNat]
  (refine hK _ ?_)
  clear hK K
  refine AWP.seq ?_
  refine AWP.block ?_
  generalize hz1 : loopW (spec_l29Put_b1 a0 a1) ((((((spec_l29Own a0).Entries).length : Int)).toNat) + 1) (((spec_l29Own a0).Entries).length : Int) = z1 at hR
  refine AWP.whileW (spec_l29Put_b1 a0 a1) (fun s1 => ⟨[(3, .ptr 0 0), (4, .ptr 1 0), (5, .ptr 2 0), (6, .int .i64 s1)], [.box [.int .i64 a1.Day, .str a1.Item, .int .i64 a1.Amount], .box [.nils, .nils], .box [.ref 3 3 0 (((spec_l29Own a0).Spares).length), .ref 4 3 0 (((spec_l29Own a0).Entries).length)], .arr 63 3 ((spec_l29Own a0).Spares).length (fun j => eSpare (((spec_l29Own a0).Spares).getD j default)), .arr 66 3 ((spec_l29Own a0).Entries).length (fun j => eEntry (((spec_l29Own a0).Entries).getD j default))]⟩) (fun s1 => 0 ≤ s1 ∧ s1 ≤ (spec_l29Own a0).Entries.length) (fun s1 => (s1).toNat) ((((((spec_l29Own a0).Entries).length : Int)).toNat) + 1) (((spec_l29Own a0).Entries).length : Int) [0, 1, 4, 2, 3] hz1 (by omega) (by ((and_intros <;> simp only [ob, ln, spec_l29Own_id] at * <;> omega))) (by (simp only [si, ea, gv, sv, hk, reduceCtorEq, reduceIte, Nat.reduceBEq, Nat.reduceAdd, Nat.reduceEqDiff, Nat.reduceLT, Nat.reduceLeDiff, Nat.reduceMul, Nat.reduceSub, BEq.rfl, beq_self_eq_true, Int.reduceToNat]; trivial)) ?_
  clear hz1
  intro s1 k1 hW1 hm1 hz1
  simp only [spec_l29Put_b1] at hz1
  refine AWP.seq ?_
  refine AWP.seq ?_
  refine AWP.regD mixed G_ok spec_l29Put_DD hc 14 (by kernel_rfl) (by kernel_rfl) (fun K hK => ?_); simp only [ea, gv, sv, D_spec_l29Own, reduceCtorEq, reduceIte, Nat.reduceBEq, Nat.reduceAdd, Nat.reduceEqDiff, Nat.reduceLT, Nat.reduceLeDiff, Nat.reduceMul, Nat.reduceSub, BEq.rfl, beq_self_eq_true, Int.reduceToNat]
  (refine ⟨by ((simp only [ob, ln, bdv, spec_l29Own_id, sv] at *; omega)), hK _ ?_⟩)
  clear hK K
  refine AWP.cond rfl (fun hb => ?_) (fun hb => ?_)
  · (simp only [hb, cond_true] at hz1)
    refine AWP.skip ?_
    refine AWP.block ?_
    refine AWP.regS G_ok spec_l29Put_DD hc (by kernel_rfl) (fun K hK => ?_); simp only [ea, gv, sv, D_spec_l29Own, reduceCtorEq, reduceIte, Nat.reduceBEq, Nat.reduceAdd, Nat.reduceEqDiff, Nat.reduceLT, Nat.reduceLeDiff, Nat.reduceMul, Nat.reduceSub, BEq.rfl, beq_self_eq_true, Int.reduceToNat]
    (refine hK _ ?_)
    clear hK K
    exact ⟨_, [0, 1, 2, 3, 4], by ((simp only [ob, ln, spec_l29Own_id] at *; omega)), by ((and_intros <;> (simp only [ob, ln, bdv, spec_l29Own_id, sv] at *; omega))), hz1, by (simp only [si, ea, gv, sv, hk, reduceCtorEq, reduceIte, Nat.reduceBEq, Nat.reduceAdd, Nat.reduceEqDiff, Nat.reduceLT, Nat.reduceLeDiff, Nat.reduceMul, Nat.reduceSub, BEq.rfl, beq_self_eq_true, Int.reduceToNat]; trivial)⟩
  · (simp only [hb, cond_false] at hz1)
    refine AWP.exit ?_
    refine exitTo_here ?_
    subst hz1; dsimp only at hR
    refine AWP.seq ?_
    refine AWP.regS G_ok spec_l29Put_DD hc (by kernel_rfl) (fun K hK => ?_); simp only [ea, gv, sv, D_spec_l29Own, reduceCtorEq, reduceIte, Nat.reduceBEq, Nat.reduceAdd, Nat.reduceEqDiff, Nat.reduceLT, Nat.reduceLeDiff, Nat.reduceMul, Nat.reduceSub, BEq.rfl, beq_self_eq_true, Int.reduceToNat]
    (refine ⟨by ((simp only [ob, ln, bdv, spec_l29Own_id, sv] at *; omega)), hK _ ?_⟩)
    clear hK K
    refine AWP.seq ?_
    refine AWP.regS G_ok spec_l29Put_DD hc (by kernel_rfl) (fun K hK => ?_); simp only [ea, gv, sv, D_spec_l29Own, reduceCtorEq, reduceIte, Nat.reduceBEq, Nat.reduceAdd, Nat.reduceEqDiff, Nat.reduceLT, Nat.reduceLeDiff, Nat.reduceMul, Nat.reduceSub, BEq.rfl, beq_self_eq_true, Int.reduceToNat]
    (refine ⟨by (((try clear hK K); (repeat' (apply And.intro)) <;> first | omega | (simp only [ob, ln, bdv, spec_l29Own_id, sv] at *; omega))), hK _ ?_⟩)
    clear hK K
    refine AWP.seq ?_
    refine AWP.regS G_ok spec_l29Put_DD hc (by kernel_rfl) (fun K hK => ?_); simp only [ea, gv, sv, D_spec_l29Own, reduceCtorEq, reduceIte, Nat.reduceBEq, Nat.reduceAdd, Nat.reduceEqDiff, Nat.reduceLT, Nat.reduceLeDiff, Nat.reduceMul, Nat.reduceSub, BEq.rfl, beq_self_eq_true, Int.reduceToNat]
    (refine ⟨by (((try clear hK K); (repeat' (apply And.intro)) <;> first | omega | (simp only [ob, ln, bdv, spec_l29Own_id, sv] at *; omega))), hK _ ?_⟩)
    clear hK K
    refine AWP.seq ?_
    refine AWP.regS G_ok spec_l29Put_DD hc (by kernel_rfl) (fun K hK => ?_); simp only [ea, gv, sv, D_spec_l29Own, reduceCtorEq, reduceIte, Nat.reduceBEq, Nat.reduceAdd, Nat.reduceEqDiff, Nat.reduceLT, Nat.reduceLeDiff, Nat.reduceMul, Nat.reduceSub, BEq.rfl, beq_self_eq_true, Int.reduceToNat]
    (refine hK _ ?_)
    clear hK K
    refine AWP.ret ?_
    subst hR
    (simp only [en, si, ea, gv, sv, hk, reduceCtorEq, reduceIte, Nat.reduceBEq, Nat.reduceAdd, Nat.reduceEqDiff, Nat.reduceLT, Nat.reduceLeDiff, Nat.reduceMul, Nat.reduceSub, BEq.rfl, beq_self_eq_true, Int.reduceToNat]; (and_intros <;> first | omega | (simp only [ln]; done) | (left; and_intros <;> (intro j hj; simp only [pw, Bool.cond_eq_ite, Bool.and_eq_true, decide_eq_true_eq]; (repeat' split) <;> simp [putL, borrowL, borrow, NoBorL, NoBor])) | (intro j hj; simp only [pw, Bool.cond_eq_ite]; (repeat' split) <;> first | rfl | (simp [pureL, pureV, borrowL, borrow, NoBorL, NoBor]; done)) | (intro j hj; simp only [pw, Bool.cond_eq_ite, Bool.and_eq_true, decide_eq_true_eq]; (try rw [subL_getD _ _ _ _ (by assumption)]); (try rw [clearL_getD _ _ _ _ (by omega)]); (repeat' split) <;> first | omega | exact simOL_refl _ | (simp_all; omega) | (simp only [List.length_append, subL_length, List.length_cons, List.length_nil, Nat.zero_add, Nat.add_zero] at *; first | omega | (rw [subL_getD _ _ _ _ (by omega)]; (try simp only [Nat.zero_add]); exact simOL_refl _)))))
def D_spec_l29Put : DF
  | [x0, x1] => some (.agg (eStoreO (spec_l29Put (rdP dStore x0) (rdG dEntry x1))), false, [wP eStore dStore x0, wG eEntry dEntry x1, bdStore (rdP dStore x0), bdEntry (rdG dEntry x1)])
  | _ => none
def Dz_spec_l29Put : DF
  | [x0, x1] => some (.agg (eStoreO (spec_l29Put (rdP dStore x0) (rdG dEntry x1))), true, [wP eStore dStore x0, wG eEntry dEntry x1, bdStore (rdP dStore x0), bdEntry (rdG dEntry x1)])
  | _ => none
theorem D_spec_l29Put_ok : OkD Try.prog 128 D_spec_l29Put := by
  intro xs r z ob h ho
  unfold D_spec_l29Put at h
  split at h
  · simp only [Option.some.injEq, Prod.mk.injEq] at h
    obtain ⟨rfl, rfl, rfl⟩ := h
    obtain ⟨h0, h1, hb0, hb1, _⟩ := ho
    exact Den.sim (spec_l29Put_den _ _ hb0 hb1) (simOL_cons (wP_sim h0).1 <| simOL_cons (wG_sim h1).1 <| trivial) (noIdL_cons (wP_sim h0).2 <| noIdL_cons (wG_sim h1).2 <| rfl) rfl
  · cases h
theorem Dz_spec_l29Put_ok : OkD Try.prog 128 Dz_spec_l29Put := by
  intro xs r z ob h ho
  unfold Dz_spec_l29Put at h
  split at h
  · simp only [Option.some.injEq, Prod.mk.injEq] at h
    obtain ⟨rfl, rfl, rfl⟩ := h
    obtain ⟨h0, h1, hb0, hb1, _⟩ := ho
    exact Den.sim (spec_l29Put_den _ _ hb0 hb1) (simOL_cons (wP_sim h0).1 <| simOL_cons (wG_sim h1).1 <| trivial) (noIdL_cons (wP_sim h0).2 <| noIdL_cons (wG_sim h1).2 <| rfl) rfl
  · cases h
end Go.Ab

namespace Go.Ab
open Go Go.Proofs
theorem wrap_nat_pred {j : Nat} (h0 : 0 < j) (hn : j < 9223372036854775808) : IntKind.wrap .i64 ((j : Int) - 1) = ((j - 1 : Nat) : Int) := by
  rw [IntKind.wrap_i64]; omega
theorem loopW_down {ρ : Type} {b : Int → Except (Sum ρ Int) Int} (p : Nat → Bool) (m : Nat) (hb : ∀ j : Nat, j ≤ m → b (j : Int) = bif (decide (0 < j) && p (j - 1)) then .ok ((j - 1 : Nat) : Int) else .error (.inr (j : Int))) :
    ∀ (f n : Nat), n ≤ m → n < f → ∃ j, j ≤ n ∧ (∀ q, j ≤ q → q < n → p q = true) ∧ (j = 0 ∨ p (j - 1) = false) ∧ loopW b f (n : Int) = .error (.inr (j : Int))
  | 0, n, _, h => by omega
  | f + 1, n, hm, h => by
    simp only [loopW, hb n hm]
    cases hc : (decide (0 < n) && p (n - 1)) with
    | false =>
      refine ⟨n, Nat.le_refl _, fun q a b => by omega, ?_, rfl⟩
      by_cases h0 : 0 < n
      · right; simpa [h0] using hc
      · left; omega
    | true =>
      simp only [Bool.and_eq_true, decide_eq_true_eq] at hc
      obtain ⟨j, g1, g2, g3, g4⟩ := loopW_down p m hb f (n - 1) (by omega) (by omega)
      refine ⟨j, by omega, fun q a b => ?_, g3, by simpa using g4⟩
      by_cases hq : q = n - 1
      · rw [hq]; exact hc.2
      · exact g2 q a (by omega)
end Go.Ab

namespace Go.Ab
open Go Go.Proofs
theorem spec_l29Put_spec (a : Store) (e : Entry) (hl : a.Entries.length < 9223372036854775808) : ∃ j, j ≤ a.Entries.length ∧ (∀ q, j ≤ q → q < a.Entries.length → e.Day < (a.Entries.getD q default).Day) ∧ (j = 0 ∨ (a.Entries.getD (j - 1) default).Day ≤ e.Day) ∧
    spec_l29Put a e = ⟨a.Spares, a.Entries.take j ++ e :: a.Entries.drop j⟩ := by
  unfold spec_l29Put
  simp only [spec_l29Own_id, Int.toNat_natCast]
  obtain ⟨j, h1, h2, h3, h4⟩ := loopW_down (ρ := Store) (b := spec_l29Put_b1 a e) (fun q => decide (e.Day < (a.Entries.getD q default).Day)) a.Entries.length (fun j hj => by
    simp only [spec_l29Put_b1, spec_l29Own_id]
    by_cases h0 : 0 < j
    · rw [wrap_nat_pred h0 (by omega)]
      simp [h0]
    · have : j = 0 := by omega
      subst this
      simp) (a.Entries.length + 1) a.Entries.length (Nat.le_refl _) (by omega)
  refine ⟨j, h1, fun q a b => by simpa using h2 q a b, ?_, ?_⟩
  · rcases h3 with h3 | h3
    · exact .inl h3
    · right; have := of_decide_eq_false h3; omega
  · rw [h4]
    simp only [Int.toNat_natCast]
    rw [subL_eq _ _ _ (by omega), subL_eq _ _ _ (by omega)]
    simp [List.take_of_length_le]
theorem spec_l29Put_sp (a : Store) (e : Entry) (hl : a.Entries.length < 9223372036854775808) : (spec_l29Put a e).Spares = a.Spares ∧ (spec_l29Put a e).Entries.length = a.Entries.length + 1 := by
  obtain ⟨j, h1, _, _, h4⟩ := spec_l29Put_spec a e hl
  rw [h4]
  refine ⟨rfl, ?_⟩
  simp only [List.length_append, List.length_take, List.length_cons, List.length_drop]
  omega
end Go.Ab

namespace Go.Ab
open Go Go.Proofs
theorem spec_l29Add_DD : DOk Try.prog (DD [(113, dP D_spec_l29Flow), (128, dP D_spec_l29Put), (90, dP D_spec_l29Find)]) := DD_cons D_spec_l29Flow_ok.e <| DD_cons D_spec_l29Put_ok.e <| DD_cons D_spec_l29Find_ok.e <| DD_nil _
def spec_l29Add (a0 : Store) (a1 : Entry) : (Store × Int) :=
  (bif decide ((spec_l29Find a0 a1.Item) < 0) then ({ Spares := [], Entries := [] : Store }, 3) else (bif ((a0.Entries.length : Int) == 48) then ({ Spares := [], Entries := [] : Store }, 5) else (bif (!(spec_l29Flow ({ Spares := (spec_l29Put a0 a1).Spares, Entries := (spec_l29Put a0 a1).Entries : Store }) (spec_l29Find a0 a1.Item))) then ({ Spares := [], Entries := [] : Store }, 6) else ({ Spares := (spec_l29Put a0 a1).Spares, Entries := (spec_l29Put a0 a1).Entries : Store }, 0))))
theorem spec_l29Add_den (a0 : Store) (a1 : Entry) (hb0 : bdStore a0) (hb1 : bdEntry a1) : Den Try.prog 109 [.ep (eStore a0), .agg (eEntry a1)] (.tup [.agg (eStoreO ((spec_l29Add a0 a1).1)), .int .i64 ((spec_l29Add a0 a1).2)]) := by
  generalize hR : spec_l29Add a0 a1 = r
  unfold spec_l29Add at hR
  refine den_intro G_ok Try.func109 (by kernel_rfl) rfl Try.ntmps109 (by rw [Try.results109]) (by simp) rfl ?_
  intro c hL hc hk
  obtain ⟨hL0, hL1, _⟩ := hL
  have hw0 : bwStore a0 := Store_lens a0 hL0
  have hw1 : bwEntry a1 := Entry_lens a1 hL1
  clear hL0 hL1
  simp only [pars, Nat.zero_add]
  have hsp := spec_l29Put_sp a0 a1 (And.left (And.right hw0))
  have hfl := spec_l29Find_lt a0 a1.Item
  refine AWP.seq ?_
  refine AWP.regS G_ok spec_l29Add_DD hc (by kernel_rfl) (fun K hK => ?_); simp only [ea, gv, sv, D_spec_l29Flow, D_spec_l29Put, D_spec_l29Find, reduceCtorEq, reduceIte, Nat.reduceBEq, Nat.reduceAdd, Nat.reduceEqDiff, Nat.reduceLT, Nat.reduceLeDiff, Nat.reduceMul, Nat.reduceSub, BEq.rfl, beq_self_eq_true, Int.reduceToNat]
  (refine hK _ ?_)
  clear hK K
  refine AWP.seq ?_
  refine AWP.regS G_ok spec_l29Add_DD hc (by kernel_rfl) (fun K hK => ?_); simp only [ea, gv, sv, D_spec_l29Flow, D_spec_l29Put, D_spec_l29Find, reduceCtorEq, reduceIte, Nat.reduceBEq, Nat.reduceAdd, Nat.reduceEqDiff, Nat.reduceLT, Nat.reduceLeDiff, Nat.reduceMul, Nat.reduceSub, BEq.rfl, beq_self_eq_true, Int.reduceToNat]
  (refine hK _ ?_)
  clear hK K
  refine AWP.seq ?_
  refine AWP.seq ?_
  refine AWP.regS G_ok spec_l29Add_DD hc (by kernel_rfl) (fun K hK => ?_); simp only [ea, gv, sv, D_spec_l29Flow, D_spec_l29Put, D_spec_l29Find, reduceCtorEq, reduceIte, Nat.reduceBEq, Nat.reduceAdd, Nat.reduceEqDiff, Nat.reduceLT, Nat.reduceLeDiff, Nat.reduceMul, Nat.reduceSub, BEq.rfl, beq_self_eq_true, Int.reduceToNat]
  (refine hK _ ?_)
  clear hK K
  refine AWP.cond rfl (fun hb => ?_) (fun hb => ?_)
  · (simp only [hb, cond_true] at hR)
    refine AWP.seq ?_
    refine AWP.regS G_ok spec_l29Add_DD hc (by kernel_rfl) (fun K hK => ?_); simp only [ea, gv, sv, D_spec_l29Flow, D_spec_l29Put, D_spec_l29Find, reduceCtorEq, reduceIte, Nat.reduceBEq, Nat.reduceAdd, Nat.reduceEqDiff, Nat.reduceLT, Nat.reduceLeDiff, Nat.reduceMul, Nat.reduceSub, BEq.rfl, beq_self_eq_true, Int.reduceToNat]
    (refine hK _ ?_)
    clear hK K
    refine AWP.ret ?_
    subst hR
    (simp only [en, si, ea, gv, sv, hk, reduceCtorEq, reduceIte, Nat.reduceBEq, Nat.reduceAdd, Nat.reduceEqDiff, Nat.reduceLT, Nat.reduceLeDiff, Nat.reduceMul, Nat.reduceSub, BEq.rfl, beq_self_eq_true, Int.reduceToNat]; done)
  · (simp only [hb, cond_false] at hR)
    refine AWP.skip ?_
    refine AWP.seq ?_
    refine AWP.seq ?_
    refine AWP.regS G_ok spec_l29Add_DD hc (by kernel_rfl) (fun K hK => ?_); simp only [ea, gv, sv, D_spec_l29Flow, D_spec_l29Put, D_spec_l29Find, reduceCtorEq, reduceIte, Nat.reduceBEq, Nat.reduceAdd, Nat.reduceEqDiff, Nat.reduceLT, Nat.reduceLeDiff, Nat.reduceMul, Nat.reduceSub, BEq.rfl, beq_self_eq_true, Int.reduceToNat]
    (refine hK _ ?_)
    clear hK K
    refine AWP.cond rfl (fun hb => ?_) (fun hb => ?_)
    · (simp only [hb, cond_true] at hR)
      refine AWP.seq ?_
      refine AWP.regS G_ok spec_l29Add_DD hc (by kernel_rfl) (fun K hK => ?_); simp only [ea, gv, sv, D_spec_l29Flow, D_spec_l29Put, D_spec_l29Find, reduceCtorEq, reduceIte, Nat.reduceBEq, Nat.reduceAdd, Nat.reduceEqDiff, Nat.reduceLT, Nat.reduceLeDiff, Nat.reduceMul, Nat.reduceSub, BEq.rfl, beq_self_eq_true, Int.reduceToNat]
      (refine hK _ ?_)
      clear hK K
      refine AWP.ret ?_
      subst hR
      (simp only [en, si, ea, gv, sv, hk, reduceCtorEq, reduceIte, Nat.reduceBEq, Nat.reduceAdd, Nat.reduceEqDiff, Nat.reduceLT, Nat.reduceLeDiff, Nat.reduceMul, Nat.reduceSub, BEq.rfl, beq_self_eq_true, Int.reduceToNat]; done)
    · (simp only [hb, cond_false] at hR)
      refine AWP.skip ?_
      refine AWP.seq ?_
      refine AWP.regS G_ok spec_l29Add_DD hc (by kernel_rfl) (fun K hK => ?_); simp only [ea, gv, sv, D_spec_l29Flow, D_spec_l29Put, D_spec_l29Find, reduceCtorEq, reduceIte, Nat.reduceBEq, Nat.reduceAdd, Nat.reduceEqDiff, Nat.reduceLT, Nat.reduceLeDiff, Nat.reduceMul, Nat.reduceSub, BEq.rfl, beq_self_eq_true, Int.reduceToNat]
      (refine ⟨by (trivial), hK _ ?_⟩)
      clear hK K
      refine AWP.seq ?_
      refine AWP.seq ?_
      refine AWP.regS G_ok spec_l29Add_DD hc (by kernel_rfl) (fun K hK => ?_); simp only [ea, gv, sv, D_spec_l29Flow, D_spec_l29Put, D_spec_l29Find, reduceCtorEq, reduceIte, Nat.reduceBEq, Nat.reduceAdd, Nat.reduceEqDiff, Nat.reduceLT, Nat.reduceLeDiff, Nat.reduceMul, Nat.reduceSub, BEq.rfl, beq_self_eq_true, Int.reduceToNat]
      (refine ⟨by (((try clear hK K); (repeat' (apply And.intro)) <;> first | omega | (simp only [ob, ln, bdv, sv] at *; first | omega | (simp_all; done)))), hK _ ?_⟩)
      clear hK K
      refine AWP.cond rfl (fun hb => ?_) (fun hb => ?_)
      · (simp only [hb, cond_true] at hR)
        refine AWP.seq ?_
        refine AWP.regS G_ok spec_l29Add_DD hc (by kernel_rfl) (fun K hK => ?_); simp only [ea, gv, sv, D_spec_l29Flow, D_spec_l29Put, D_spec_l29Find, reduceCtorEq, reduceIte, Nat.reduceBEq, Nat.reduceAdd, Nat.reduceEqDiff, Nat.reduceLT, Nat.reduceLeDiff, Nat.reduceMul, Nat.reduceSub, BEq.rfl, beq_self_eq_true, Int.reduceToNat]
        (refine hK _ ?_)
        clear hK K
        refine AWP.ret ?_
        subst hR
        (simp only [en, si, ea, gv, sv, hk, reduceCtorEq, reduceIte, Nat.reduceBEq, Nat.reduceAdd, Nat.reduceEqDiff, Nat.reduceLT, Nat.reduceLeDiff, Nat.reduceMul, Nat.reduceSub, BEq.rfl, beq_self_eq_true, Int.reduceToNat]; done)
      · (simp only [hb, cond_false] at hR)
        refine AWP.skip ?_
        refine AWP.seq ?_
        refine AWP.regS G_ok spec_l29Add_DD hc (by kernel_rfl) (fun K hK => ?_); simp only [ea, gv, sv, D_spec_l29Flow, D_spec_l29Put, D_spec_l29Find, reduceCtorEq, reduceIte, Nat.reduceBEq, Nat.reduceAdd, Nat.reduceEqDiff, Nat.reduceLT, Nat.reduceLeDiff, Nat.reduceMul, Nat.reduceSub, BEq.rfl, beq_self_eq_true, Int.reduceToNat]
        (refine hK _ ?_)
        clear hK K
        refine AWP.ret ?_
        subst hR
        (simp only [en, si, ea, gv, sv, hk, reduceCtorEq, reduceIte, Nat.reduceBEq, Nat.reduceAdd, Nat.reduceEqDiff, Nat.reduceLT, Nat.reduceLeDiff, Nat.reduceMul, Nat.reduceSub, BEq.rfl, beq_self_eq_true, Int.reduceToNat]; (and_intros <;> omega))
def D_spec_l29Add : DF
  | [x0, x1] => some (.tup [.agg (eStoreO ((spec_l29Add (rdP dStore x0) (rdG dEntry x1)).1)), .int .i64 ((spec_l29Add (rdP dStore x0) (rdG dEntry x1)).2)], false, [wP eStore dStore x0, wG eEntry dEntry x1, bdStore (rdP dStore x0), bdEntry (rdG dEntry x1)])
  | _ => none
def Dz_spec_l29Add : DF
  | [x0, x1] => some (.tup [.agg (eStoreO ((spec_l29Add (rdP dStore x0) (rdG dEntry x1)).1)), .int .i64 ((spec_l29Add (rdP dStore x0) (rdG dEntry x1)).2)], true, [wP eStore dStore x0, wG eEntry dEntry x1, bdStore (rdP dStore x0), bdEntry (rdG dEntry x1)])
  | _ => none
theorem D_spec_l29Add_ok : OkD Try.prog 109 D_spec_l29Add := by
  intro xs r z ob h ho
  unfold D_spec_l29Add at h
  split at h
  · simp only [Option.some.injEq, Prod.mk.injEq] at h
    obtain ⟨rfl, rfl, rfl⟩ := h
    obtain ⟨h0, h1, hb0, hb1, _⟩ := ho
    exact Den.sim (spec_l29Add_den _ _ hb0 hb1) (simOL_cons (wP_sim h0).1 <| simOL_cons (wG_sim h1).1 <| trivial) (noIdL_cons (wP_sim h0).2 <| noIdL_cons (wG_sim h1).2 <| rfl) rfl
  · cases h
theorem Dz_spec_l29Add_ok : OkD Try.prog 109 Dz_spec_l29Add := by
  intro xs r z ob h ho
  unfold Dz_spec_l29Add at h
  split at h
  · simp only [Option.some.injEq, Prod.mk.injEq] at h
    obtain ⟨rfl, rfl, rfl⟩ := h
    obtain ⟨h0, h1, hb0, hb1, _⟩ := ho
    exact Den.sim (spec_l29Add_den _ _ hb0 hb1) (simOL_cons (wP_sim h0).1 <| simOL_cons (wG_sim h1).1 <| trivial) (noIdL_cons (wP_sim h0).2 <| noIdL_cons (wG_sim h1).2 <| rfl) rfl
  · cases h
end Go.Ab

namespace Go.Ab
open Go Go.Proofs
theorem spec_l29Add_keep (a : Store) (e : Entry) (hl : a.Entries.length ≤ 48) (h : (spec_l29Add a e).2 = 0) :
    (spec_l29Add a e).1.Spares = a.Spares ∧ (spec_l29Add a e).1.Entries.length ≤ 48 ∧ (∀ v, v ∈ (spec_l29Add a e).1.Entries → v ∈ a.Entries ∨ v = e) := by
  obtain ⟨j, h1, h2, h3, h4⟩ := spec_l29Put_spec a e (by omega)
  unfold spec_l29Add at h ⊢
  cases hf : decide ((spec_l29Find a e.Item) < 0) with
  | true => rw [hf] at h; simp at h
  | false =>
    cases h48 : ((a.Entries.length : Int) == 48) with
    | true => rw [hf, h48] at h; simp at h
    | false =>
      cases hv : spec_l29Flow ({ Spares := (spec_l29Put a e).Spares, Entries := (spec_l29Put a e).Entries : Store }) (spec_l29Find a e.Item) with
      | false => rw [hf, h48, hv] at h; simp at h
      | true =>
        simp only [Bool.not_true, cond_false]
        rw [h4]
        refine ⟨rfl, ?_, ?_⟩
        · have : a.Entries.length ≠ 48 := by intro h; simp [h] at h48
          simp only [List.length_append, List.length_take, List.length_cons, List.length_drop]
          omega
        · intro v hv
          simp only [List.mem_append, List.mem_cons] at hv
          rcases hv with h | h | h
          · exact .inl (List.mem_of_mem_take h)
          · exact .inr h
          · exact .inl (List.mem_of_mem_drop h)
end Go.Ab

namespace Go.Ab
open Go Go.Proofs
theorem all_getD {α : Type} [Inhabited α] (l : List α) (P : α → Prop) : (∀ i, i < l.length → P (l.getD i default)) ↔ ∀ x ∈ l, P x := by
  constructor
  · intro h x hx
    obtain ⟨i, hi, rfl⟩ := List.getElem_of_mem hx
    have := h i hi
    rwa [List.getD_eq_getElem?_getD, List.getElem?_eq_getElem hi, Option.getD_some] at this
  · intro h i hi
    rw [List.getD_eq_getElem?_getD, List.getElem?_eq_getElem hi, Option.getD_some]
    exact h _ (List.getElem_mem hi)
theorem place_eq (a : Store) (e : Entry) (hok : OkS a) (j j' : Nat) (h1 : j ≤ a.Entries.length) (h2 : ∀ q, q < j → (a.Entries.getD q default).Day ≤ e.Day) (h3 : j = a.Entries.length ∨ ¬ (a.Entries.getD j default).Day ≤ e.Day)
    (g1 : j' ≤ a.Entries.length) (g2 : ∀ q, j' ≤ q → q < a.Entries.length → e.Day < (a.Entries.getD q default).Day) (g3 : j' = 0 ∨ (a.Entries.getD (j' - 1) default).Day ≤ e.Day) : j = j' := by
  have hs : ∀ (n i : Nat), i + n < a.Entries.length → (a.Entries.getD i default).Day ≤ (a.Entries.getD (i + n) default).Day := by
    intro n
    induction n with
    | zero => intro i _; exact Int.le_refl _
    | succ n ih =>
      intro i hi
      have k1 := ih i (by omega)
      have k2 := hok.e3 (i + (n + 1)) hi (by omega)
      rw [show i + (n + 1) - 1 = i + n by omega] at k2
      omega
  rcases Nat.lt_trichotomy j j' with h | h | h
  · have k := hs (j' - 1 - j) j (by omega)
    rw [show j + (j' - 1 - j) = j' - 1 by omega] at k
    rcases h3 with h3 | h3
    · omega
    · rcases g3 with g3 | g3 <;> omega
  · exact h
  · have := h2 j' h
    have := g2 j' (Nat.le_refl _) (by omega)
    omega
theorem find_sp (s : List Spare) (e e' : List Entry) (k : List UInt8) : spec_l29Find ⟨s, e⟩ k = spec_l29Find ⟨s, e'⟩ k := rfl
theorem ps_app (k : List UInt8) : ∀ (l t : List Entry) (acc : Int), ∃ acc', ps k (l ++ t) acc = ps k l acc ++ ps k t acc'
  | [], t, acc => ⟨acc, rfl⟩
  | x :: l, t, acc => by
    simp only [List.cons_append, ps]
    cases x.Item == k with
    | true => obtain ⟨acc', h⟩ := ps_app k l t (IntKind.wrap .i64 (acc + x.Amount)); exact ⟨acc', by simp [h]⟩
    | false => obtain ⟨acc', h⟩ := ps_app k l t acc; exact ⟨acc', by simp [h]⟩
theorem ps_skip (k : List UInt8) (e : Entry) (h : e.Item ≠ k) : ∀ (l t : List Entry) (acc : Int), ps k (l ++ e :: t) acc = ps k (l ++ t) acc
  | [], t, acc => by
    have : (e.Item == k) = false := by simpa using h
    simp [ps, this]
  | x :: l, t, acc => by
    simp only [List.cons_append, ps]
    cases x.Item == k with
    | true => simp only [cond_true]; rw [ps_skip k e h l t]
    | false => simp only [cond_false]; rw [ps_skip k e h l t]
theorem ok_put (a : Store) (e : Entry) (hok : OkS a) (he : spec_l29Entry e = true) (j : Nat) (hj : j ≤ a.Entries.length) (h48 : a.Entries.length ≠ 48)
    (h2 : ∀ q, q < j → (a.Entries.getD q default).Day ≤ e.Day) (g2 : ∀ q, j ≤ q → q < a.Entries.length → e.Day < (a.Entries.getD q default).Day) (hf : 0 ≤ spec_l29Find a e.Item) :
    OkS ⟨a.Spares, a.Entries.take j ++ e :: a.Entries.drop j⟩ ↔ spec_l29Flow ⟨a.Spares, a.Entries.take j ++ e :: a.Entries.drop j⟩ (spec_l29Find a e.Item) = true := by
  have hlen : (a.Entries.take j ++ e :: a.Entries.drop j).length = a.Entries.length + 1 := by simp; omega
  rcases spec_l29Find_spec a e.Item with ⟨k, k1, k2, k3, k4⟩ | ⟨_, k1⟩
  · rw [k4]
    constructor
    · intro h; exact h.f k k1
    · intro h
      have hp := days_le a hok
      have hp2 : (a.Entries.take j ++ e :: a.Entries.drop j).Pairwise (fun x y => x.Day ≤ y.Day) := by
        rw [List.pairwise_append]
        refine ⟨hp.sublist (List.take_sublist _ _), List.pairwise_cons.2 ⟨?_, hp.sublist (List.drop_sublist _ _)⟩, ?_⟩
        · intro y hy
          obtain ⟨i, hi, rfl⟩ := List.getElem_of_mem hy
          have := g2 (j + i) (by omega) (by simp at hi; omega)
          rw [List.getElem_drop]
          rw [List.getD_eq_getElem?_getD, List.getElem?_eq_getElem (by simp at hi; omega), Option.getD_some] at this
          omega
        · intro x hx y hy
          have hxd : x.Day ≤ e.Day := by
            obtain ⟨i, hi, rfl⟩ := List.getElem_of_mem hx
            have hij : i < j := by simp at hi; omega
            have := h2 i hij
            rw [List.getElem_take]
            rwa [List.getD_eq_getElem?_getD, List.getElem?_eq_getElem (by omega), Option.getD_some] at this
          rcases List.mem_cons.1 hy with rfl | hy
          · exact hxd
          · obtain ⟨i, hi, rfl⟩ := List.getElem_of_mem hy
            have := g2 (j + i) (by omega) (by simp at hi; omega)
            rw [List.getElem_drop]
            rw [List.getD_eq_getElem?_getD, List.getElem?_eq_getElem (by simp at hi; omega), Option.getD_some] at this
            omega
      have hmem : ∀ x, x ∈ a.Entries.take j ++ e :: a.Entries.drop j → x ∈ a.Entries ∨ x = e := by
        intro x hx
        simp only [List.mem_append, List.mem_cons] at hx
        rcases hx with h | h | h
        · exact .inl (List.mem_of_mem_take h)
        · exact .inr h
        · exact .inl (List.mem_of_mem_drop h)
      refine ⟨hok.l1, by simp only; have := hok.l2; omega, hok.s1, hok.s2, ?_, ?_, ?_, ?_⟩
      · refine (all_getD (a.Entries.take j ++ e :: a.Entries.drop j) (fun x => spec_l29Entry x = true)).2 fun x hx => ?_
        rcases hmem x hx with h | rfl
        · exact (all_getD a.Entries (fun x => spec_l29Entry x = true)).1 hok.e1 x h
        · exact he
      · refine (all_getD (a.Entries.take j ++ e :: a.Entries.drop j) (fun x => 0 ≤ spec_l29Find ⟨a.Spares, a.Entries.take j ++ e :: a.Entries.drop j⟩ x.Item)).2 fun x hx => ?_
        rw [find_sp a.Spares _ a.Entries]
        rcases hmem x hx with h | rfl
        · exact (all_getD a.Entries (fun x => 0 ≤ spec_l29Find a x.Item)).1 hok.e2 x h
        · exact hf
      · intro i hi h0
        have := List.pairwise_iff_getElem.1 hp2 (i - 1) i (by simp only at hi; omega) hi (by omega)
        simp only
        rw [List.getD_eq_getElem?_getD, List.getD_eq_getElem?_getD, List.getElem?_eq_getElem hi, List.getElem?_eq_getElem (by simp only at hi; omega), Option.getD_some, Option.getD_some]
        exact this
      · intro i hi
        by_cases hik : i = k
        · rw [hik]; exact h
        · have hne : e.Item ≠ (a.Spares.getD i default).Name := by
            rw [← k2]
            rcases Nat.lt_or_ge i k with h | h
            · have := names_lt a hok.s2 (k - i - 1) i (by omega)
              rw [show i + (k - i - 1) + 1 = k by omega] at this
              intro hh; rw [hh, less_irrefl] at this; cases this
            · have := names_lt a hok.s2 (i - k - 1) k (by simp only at hi; omega)
              rw [show k + (i - k - 1) + 1 = i by omega] at this
              intro hh; rw [hh, less_irrefl] at this; cases this
          have := hok.f i hi
          rw [flow_eq] at this ⊢
          simp only at this ⊢
          rw [ps_skip _ e hne, List.take_append_drop]
          exact this
  · rw [k1] at hf; simp at hf
theorem put_add (a : Store) (e : Entry) (hok : OkS a) (he : spec_l29Entry e = true) : impl_Store_put a e = spec_l29Add a e ∧ ((spec_l29Add a e).2 = 0 → OkS (spec_l29Add a e).1) := by
  have l1 := hok.l1
  have l2 := hok.l2
  obtain ⟨j, h1, h2, h3, h4⟩ := impl_Store_put_spec a e (by omega)
  obtain ⟨j', g1, g2, g3, g4⟩ := spec_l29Put_spec a e (by omega)
  obtain rfl := place_eq a e hok j j' h1 h2 h3 g1 g2 g3
  rw [h4]
  unfold spec_l29Add
  rw [g4, (found_eq a e.Item (by omega) hok.s2).1]
  by_cases hf : 0 ≤ spec_l29Find a e.Item
  · rw [decide_eq_true hf, decide_eq_false (show ¬ spec_l29Find a e.Item < 0 by omega)]
    cases h48 : ((a.Entries.length : Int) == 48) with
    | true => simp
    | false =>
      have h48' : a.Entries.length ≠ 48 := by intro h; rw [h] at h48; simp at h48
      have hiff := ok_put a e hok he j h1 h48' h2 g2 hf
      have hlen : (a.Entries.take j ++ e :: a.Entries.drop j).length = a.Entries.length + 1 := by simp; omega
      have hv : impl_ValidStore ⟨a.Spares, a.Entries.take j ++ e :: a.Entries.drop j⟩ = spec_l29Flow ⟨a.Spares, a.Entries.take j ++ e :: a.Entries.drop j⟩ (spec_l29Find a e.Item) := by
        apply Bool.eq_iff_iff.2
        rw [implOk_iff _ (by simp only; omega) (by simp only; omega)]
        exact hiff
      have ha : a.Entries.take j ++ [e] ++ a.Entries.drop j = a.Entries.take j ++ e :: a.Entries.drop j := by simp
      simp only [Bool.not_true, cond_false, ha]
      rw [hv]
      refine ⟨rfl, ?_⟩
      cases hq : spec_l29Flow ⟨a.Spares, a.Entries.take j ++ e :: a.Entries.drop j⟩ (spec_l29Find a e.Item) with
      | false => simp
      | true => simp only [Bool.not_true, cond_false]; intro _; exact hiff.2 hq
  · rw [decide_eq_false hf, decide_eq_true (show spec_l29Find a e.Item < 0 by omega)]
    simp
end Go.Ab

namespace Go.Ab
open Go Go.Proofs
theorem laws_markText_DD : DOk Try.prog (DD []) := DD_nil _
def laws_markText_b1 (a0 : Int) (s1 : Int × List UInt8) : Except (Sum ((List UInt8)) (Int × List UInt8)) (Int × List UInt8) :=
  (bif decide (0 < s1.1) then .ok (IntKind.wrap .i64 (s1.1.tdiv 10), [UInt8.ofNat (IntKind.wrap .u8 (IntKind.wrap .i64 (48 + (s1.1.tmod 10)))).toNat] ++ s1.2) else .error (.inr (s1.1, s1.2)))
def laws_markText (a0 : Int) : (List UInt8) :=
  (bif decide (a0 ≤ 0) then [109, 48] else (match loopW (laws_markText_b1 a0) (((a0).toNat) + 1) (a0, []) with | .error (.inl e) => e | .error (.inr s1) => [109] ++ s1.2 | .ok _ => default))
theorem laws_markText_den (a0 : Int) (hp0 : a0 ≤ 4611686018427387904) : Den Try.prog 82 [.int .i64 a0] (.str (laws_markText a0)) := by
  generalize hR : laws_markText a0 = r
  unfold laws_markText at hR
  refine den_intro G_ok Try.func82 (by kernel_rfl) rfl Try.ntmps82 (by rw [Try.results82]) (by simp) rfl ?_
  intro c hL hc hk
  clear hL
  simp only [pars, Nat.zero_add]
  refine AWP.seq ?_
  refine AWP.regS G_ok laws_markText_DD hc (by kernel_rfl) (fun K hK => ?_); simp only [ea, gv, sv, reduceCtorEq, reduceIte, Nat.reduceBEq, Nat.reduceAdd, Nat.reduceEqDiff, Nat.reduceLT, Nat.reduceLeDiff, Nat.reduceMul, Nat.reduceSub, BEq.rfl, beq_self_eq_true, Int.reduceToNat]
  (refine hK _ ?_)
  clear hK K
  refine AWP.seq ?_
  refine AWP.seq ?_
  refine AWP.regS G_ok laws_markText_DD hc (by kernel_rfl) (fun K hK => ?_); simp only [ea, gv, sv, reduceCtorEq, reduceIte, Nat.reduceBEq, Nat.reduceAdd, Nat.reduceEqDiff, Nat.reduceLT, Nat.reduceLeDiff, Nat.reduceMul, Nat.reduceSub, BEq.rfl, beq_self_eq_true, Int.reduceToNat]
  (refine hK _ ?_)
  clear hK K
  refine AWP.cond rfl (fun hb => ?_) (fun hb => ?_)
  · (simp only [hb, cond_true] at hR)
    refine AWP.seq ?_
    refine AWP.regS G_ok laws_markText_DD hc (by kernel_rfl) (fun K hK => ?_); simp only [ea, gv, sv, reduceCtorEq, reduceIte, Nat.reduceBEq, Nat.reduceAdd, Nat.reduceEqDiff, Nat.reduceLT, Nat.reduceLeDiff, Nat.reduceMul, Nat.reduceSub, BEq.rfl, beq_self_eq_true, Int.reduceToNat]
    (refine hK _ ?_)
    clear hK K
    refine AWP.ret ?_
    subst hR
    (simp only [en, si, ea, gv, sv, hk, reduceCtorEq, reduceIte, Nat.reduceBEq, Nat.reduceAdd, Nat.reduceEqDiff, Nat.reduceLT, Nat.reduceLeDiff, Nat.reduceMul, Nat.reduceSub, BEq.rfl, beq_self_eq_true, Int.reduceToNat]; done)
  · (simp only [hb, cond_false] at hR)
    refine AWP.skip ?_
    refine AWP.seq ?_
    refine AWP.regS G_ok laws_markText_DD hc (by kernel_rfl) (fun K hK => ?_); simp only [ea, gv, sv, reduceCtorEq, reduceIte, Nat.reduceBEq, Nat.reduceAdd, Nat.reduceEqDiff, Nat.reduceLT, Nat.reduceLeDiff, Nat.reduceMul, Nat.reduceSub, BEq.rfl, beq_self_eq_true, Int.reduceToNat]
    (refine hK _ ?_)
    clear hK K
    refine AWP.seq ?_
    refine AWP.block ?_
    generalize hz1 : loopW (laws_markText_b1 a0) (((a0).toNat) + 1) (a0, []) = z1 at hR
    refine AWP.whileW (laws_markText_b1 a0) (fun s1 => ⟨[(0, .int .i64 s1.1), (3, .str s1.2)], []⟩) (fun s1 => 0 ≤ s1.1 ∧ s1.1 ≤ a0 ∧ s1.2.length + (s1.1).toNat ≤ a0.toNat) (fun s1 => (s1.1).toNat) (((a0).toNat) + 1) (a0, []) [] hz1 (by omega) (by ((and_intros <;> simp only [ob, ln] at * <;> omega))) (by (simp only [si, ea, gv, sv, hk, reduceCtorEq, reduceIte, Nat.reduceBEq, Nat.reduceAdd, Nat.reduceEqDiff, Nat.reduceLT, Nat.reduceLeDiff, Nat.reduceMul, Nat.reduceSub, BEq.rfl, beq_self_eq_true, Int.reduceToNat]; trivial)) ?_
    clear hz1
    intro s1 k1 hW1 hm1 hz1
    simp only [laws_markText_b1] at hz1
    refine AWP.seq ?_
    refine AWP.seq ?_
    refine AWP.regS G_ok laws_markText_DD hc (by kernel_rfl) (fun K hK => ?_); simp only [ea, gv, sv, reduceCtorEq, reduceIte, Nat.reduceBEq, Nat.reduceAdd, Nat.reduceEqDiff, Nat.reduceLT, Nat.reduceLeDiff, Nat.reduceMul, Nat.reduceSub, BEq.rfl, beq_self_eq_true, Int.reduceToNat]
    (refine hK _ ?_)
    clear hK K
    refine AWP.cond rfl (fun hb => ?_) (fun hb => ?_)
    · (simp only [hb, cond_true] at hz1)
      refine AWP.skip ?_
      refine AWP.block ?_
      refine AWP.seq ?_
      refine AWP.regS G_ok laws_markText_DD hc (by kernel_rfl) (fun K hK => ?_); simp only [ea, gv, sv, reduceCtorEq, reduceIte, Nat.reduceBEq, Nat.reduceAdd, Nat.reduceEqDiff, Nat.reduceLT, Nat.reduceLeDiff, Nat.reduceMul, Nat.reduceSub, BEq.rfl, beq_self_eq_true, Int.reduceToNat]
      (refine ⟨by (omega), hK _ ?_⟩)
      clear hK K
      refine AWP.regS G_ok laws_markText_DD hc (by kernel_rfl) (fun K hK => ?_); simp only [ea, gv, sv, reduceCtorEq, reduceIte, Nat.reduceBEq, Nat.reduceAdd, Nat.reduceEqDiff, Nat.reduceLT, Nat.reduceLeDiff, Nat.reduceMul, Nat.reduceSub, BEq.rfl, beq_self_eq_true, Int.reduceToNat]
      (refine ⟨by (trivial), hK _ ?_⟩)
      clear hK K
      exact ⟨_, [], by (have h10 : s1.fst.tdiv 10 = s1.fst / 10 := Int.tdiv_eq_ediv_of_nonneg (by omega); simp only [ob, ln, h10] at *; omega), by (have h10 : s1.fst.tdiv 10 = s1.fst / 10 := Int.tdiv_eq_ediv_of_nonneg (by omega); simp only [ob, ln, h10] at *; omega), hz1, by (simp only [si, ea, gv, sv, hk, reduceCtorEq, reduceIte, Nat.reduceBEq, Nat.reduceAdd, Nat.reduceEqDiff, Nat.reduceLT, Nat.reduceLeDiff, Nat.reduceMul, Nat.reduceSub, BEq.rfl, beq_self_eq_true, Int.reduceToNat]; trivial)⟩
    · (simp only [hb, cond_false] at hz1)
      refine AWP.exit ?_
      refine exitTo_here ?_
      subst hz1; dsimp only at hR
      refine AWP.seq ?_
      refine AWP.regS G_ok laws_markText_DD hc (by kernel_rfl) (fun K hK => ?_); simp only [ea, gv, sv, reduceCtorEq, reduceIte, Nat.reduceBEq, Nat.reduceAdd, Nat.reduceEqDiff, Nat.reduceLT, Nat.reduceLeDiff, Nat.reduceMul, Nat.reduceSub, BEq.rfl, beq_self_eq_true, Int.reduceToNat]
      (refine ⟨by (omega), hK _ ?_⟩)
      clear hK K
      refine AWP.ret ?_
      subst hR
      (simp only [en, si, ea, gv, sv, hk, reduceCtorEq, reduceIte, Nat.reduceBEq, Nat.reduceAdd, Nat.reduceEqDiff, Nat.reduceLT, Nat.reduceLeDiff, Nat.reduceMul, Nat.reduceSub, BEq.rfl, beq_self_eq_true, Int.reduceToNat]; done)
def D_laws_markText : DF
  | [x0] => some (.str (laws_markText (rdI x0)), false, [wI .i64 x0, (rdI x0) ≤ 4611686018427387904])
  | _ => none
theorem D_laws_markText_ok : OkD Try.prog 82 D_laws_markText := by
  intro xs r z ob h ho
  unfold D_laws_markText at h
  split at h
  · simp only [Option.some.injEq, Prod.mk.injEq] at h
    obtain ⟨rfl, rfl, rfl⟩ := h
    obtain ⟨h0, hp0, _⟩ := ho
    exact Den.sim (laws_markText_den _ hp0) (simOL_cons (wI_sim h0).1 <| trivial) (noIdL_cons (wI_sim h0).2 <| rfl) rfl
  · cases h
end Go.Ab

namespace Go.Ab
open Go Go.Proofs
theorem laws_markEntryS_DD : DOk Try.prog (DD [(82, dP D_laws_markText)]) := DD_cons D_laws_markText_ok.e <| DD_nil _
def laws_markEntryS_b1 (a0 : (List Entry)) (a1 : Int) (i1 : Nat) (s1 : Int × List Entry) : Except (Int × (List Entry)) (Int × List Entry) :=
  .ok (IntKind.wrap .i64 ((IntKind.wrap .i64 ((IntKind.wrap .i64 (s1.1 + 1)) + 1)) + 1), s1.2.set i1 ({ Day := s1.1, Item := (laws_markText (IntKind.wrap .i64 (s1.1 + 1))), Amount := IntKind.wrap .i64 ((IntKind.wrap .i64 (s1.1 + 1)) + 1) : Entry }))
def laws_markEntryS (a0 : (List Entry)) (a1 : Int) : Int × (List Entry) :=
  (match loopR (laws_markEntryS_b1 a0 a1) (a0.length - 0) 0 (a1, a0) with | .error e => e | .ok s1 => (s1.1, s1.2))
theorem laws_markEntryS_den (a0 : (List Entry)) (a1 : Int) (hp0 : 0 ≤ a1) (hp1 : a1 ≤ 1152921504606846976) (hp2 : a0.length < 1099511627776) : DenM Try.prog 61 [ownL 66 3 eEntry a0, .int .i64 a1] (.int .i64 ((laws_markEntryS a0 a1).1)) [(ownL 66 3 eEntry ((laws_markEntryS a0 a1).2)), .any] := by
  generalize hR : laws_markEntryS a0 a1 = r
  unfold laws_markEntryS at hR
  refine den_introM (gb := [true, false]) G_ok Try.func61 (by kernel_rfl) rfl Try.ntmps61 (by rw [Try.results61]) (by simp) ?_
  intro c hL hc hk
  obtain ⟨hL0, hL1, _⟩ := hL
  have hw0 : a0.length < 9223372036854775808 := Nat.lt_succ_of_le (lens_ownL hL0).1
  have hw1 : ∀ v ∈ a0, bwEntry v := fun v hv => Entry_lens v ((lens_ownL hL0).2 v hv)
  clear hL0 hL1
  simp only [adEL, adE, adRL, adR, ownL, encL, sv, List.nil_append, List.append_nil, List.cons_append, List.length_cons, List.length_nil, pars, Nat.zero_add, Nat.reduceAdd] at hk ⊢
  refine AWP.seq ?_
  refine AWP.regS G_ok laws_markEntryS_DD hc (by kernel_rfl) (fun K hK => ?_); simp only [ea, gv, sv, D_laws_markText, reduceCtorEq, reduceIte, Nat.reduceBEq, Nat.reduceAdd, Nat.reduceEqDiff, Nat.reduceLT, Nat.reduceLeDiff, Nat.reduceMul, Nat.reduceSub, BEq.rfl, beq_self_eq_true, Int.reduceToNat]
  (refine hK _ ?_)
  clear hK K
  refine AWP.seq ?_
  refine AWP.seq ?_
  refine AWP.regS G_ok laws_markEntryS_DD hc (by kernel_rfl) (fun K hK => ?_); simp only [ea, gv, sv, D_laws_markText, reduceCtorEq, reduceIte, Nat.reduceBEq, Nat.reduceAdd, Nat.reduceEqDiff, Nat.reduceLT, Nat.reduceLeDiff, Nat.reduceMul, Nat.reduceSub, BEq.rfl, beq_self_eq_true, Int.reduceToNat]
  (refine hK _ ?_)
  clear hK K
  refine AWP.block ?_
  generalize hz1 : loopR (laws_markEntryS_b1 a0 a1) (a0.length - 0) 0 (a1, a0) = z1 at hR
  refine AWP.range (laws_markEntryS_b1 a0 a1) (fun i1 s1 => ⟨[(0, .ref 0 3 0 s1.2.length), (1, .int .i64 s1.1), (5, .int .i64 (i1 : Int))], [.arr 66 3 s1.2.length (fun j => eEntry (s1.2.getD j default))]⟩) (fun i1 s1 => s1.2.length = a0.length ∧ 0 ≤ s1.1 ∧ s1.1 ≤ a1 + 3 * i1) (a0.length) 0 (a1, a0) [0] hz1 (by (omega)) (by ((and_intros <;> simp only [ln] <;> omega))) (by (simp only [si, ea, gv, sv, hk, reduceCtorEq, reduceIte, Nat.reduceBEq, Nat.reduceAdd, Nat.reduceEqDiff, Nat.reduceLT, Nat.reduceLeDiff, Nat.reduceMul, Nat.reduceSub, BEq.rfl, beq_self_eq_true, Int.reduceToNat]; trivial)) ?_
  clear hz1
  intro i1 s1 hi1 hW1 hz1
  refine AWP.seq ?_
  refine AWP.seq ?_
  refine AWP.regS G_ok laws_markEntryS_DD hc (by kernel_rfl) (fun K hK => ?_); simp only [ea, gv, sv, D_laws_markText, reduceCtorEq, reduceIte, Nat.reduceBEq, Nat.reduceAdd, Nat.reduceEqDiff, Nat.reduceLT, Nat.reduceLeDiff, Nat.reduceMul, Nat.reduceSub, BEq.rfl, beq_self_eq_true, Int.reduceToNat]
  (refine hK _ ?_)
  clear hK K
  refine AWP.cond rfl (fun hb => ?_) (fun hb => ?_)
  · have hlt1 : i1 < a0.length := by ((simp only [ob, ln, bdv, sv] at *; omega))
    rw [loopR_lt hlt1] at hz1; simp only [laws_markEntryS_b1] at hz1
    refine AWP.skip ?_
    refine AWP.seq ?_
    refine AWP.block ?_
    refine AWP.seq ?_
    refine AWP.regS G_ok laws_markEntryS_DD hc (by kernel_rfl) (fun K hK => ?_); simp only [ea, gv, sv, D_laws_markText, reduceCtorEq, reduceIte, Nat.reduceBEq, Nat.reduceAdd, Nat.reduceEqDiff, Nat.reduceLT, Nat.reduceLeDiff, Nat.reduceMul, Nat.reduceSub, BEq.rfl, beq_self_eq_true, Int.reduceToNat]
    (refine ⟨by (omega), hK _ ?_⟩)
    clear hK K
    refine AWP.seq ?_
    refine AWP.regS G_ok laws_markEntryS_DD hc (by kernel_rfl) (fun K hK => ?_); simp only [ea, gv, sv, D_laws_markText, reduceCtorEq, reduceIte, Nat.reduceBEq, Nat.reduceAdd, Nat.reduceEqDiff, Nat.reduceLT, Nat.reduceLeDiff, Nat.reduceMul, Nat.reduceSub, BEq.rfl, beq_self_eq_true, Int.reduceToNat]
    (refine hK _ ?_)
    clear hK K
    refine AWP.seq ?_
    refine AWP.regS G_ok laws_markEntryS_DD hc (by kernel_rfl) (fun K hK => ?_); simp only [ea, gv, sv, D_laws_markText, reduceCtorEq, reduceIte, Nat.reduceBEq, Nat.reduceAdd, Nat.reduceEqDiff, Nat.reduceLT, Nat.reduceLeDiff, Nat.reduceMul, Nat.reduceSub, BEq.rfl, beq_self_eq_true, Int.reduceToNat]
    (refine ⟨by ((simp only [ob, ln, bdv, sv] at *; omega)), hK _ ?_⟩)
    clear hK K
    refine AWP.seq ?_
    refine AWP.regS G_ok laws_markEntryS_DD hc (by kernel_rfl) (fun K hK => ?_); simp only [ea, gv, sv, D_laws_markText, reduceCtorEq, reduceIte, Nat.reduceBEq, Nat.reduceAdd, Nat.reduceEqDiff, Nat.reduceLT, Nat.reduceLeDiff, Nat.reduceMul, Nat.reduceSub, BEq.rfl, beq_self_eq_true, Int.reduceToNat]
    (refine hK _ ?_)
    clear hK K
    refine AWP.seq ?_
    refine AWP.regS G_ok laws_markEntryS_DD hc (by kernel_rfl) (fun K hK => ?_); simp only [ea, gv, sv, D_laws_markText, reduceCtorEq, reduceIte, Nat.reduceBEq, Nat.reduceAdd, Nat.reduceEqDiff, Nat.reduceLT, Nat.reduceLeDiff, Nat.reduceMul, Nat.reduceSub, BEq.rfl, beq_self_eq_true, Int.reduceToNat]
    (refine ⟨by (omega), hK _ ?_⟩)
    clear hK K
    refine AWP.regS G_ok laws_markEntryS_DD hc (by kernel_rfl) (fun K hK => ?_); simp only [ea, gv, sv, D_laws_markText, reduceCtorEq, reduceIte, Nat.reduceBEq, Nat.reduceAdd, Nat.reduceEqDiff, Nat.reduceLT, Nat.reduceLeDiff, Nat.reduceMul, Nat.reduceSub, BEq.rfl, beq_self_eq_true, Int.reduceToNat]
    (refine hK _ ?_)
    clear hK K
    refine AWP.regS G_ok laws_markEntryS_DD hc (by kernel_rfl) (fun K hK => ?_); simp only [ea, gv, sv, D_laws_markText, reduceCtorEq, reduceIte, Nat.reduceBEq, Nat.reduceAdd, Nat.reduceEqDiff, Nat.reduceLT, Nat.reduceLeDiff, Nat.reduceMul, Nat.reduceSub, BEq.rfl, beq_self_eq_true, Int.reduceToNat]
    (refine hK _ ?_)
    clear hK K
    exact ⟨_, [0], hlt1, by ((and_intros <;> simp only [ob, ln] at * <;> omega)), hz1, by (simp only [si, ea, gv, sv, hk, reduceCtorEq, reduceIte, Nat.reduceBEq, Nat.reduceAdd, Nat.reduceEqDiff, Nat.reduceLT, Nat.reduceLeDiff, Nat.reduceMul, Nat.reduceSub, BEq.rfl, beq_self_eq_true, Int.reduceToNat]; (and_intros <;> first | trivial | (rw [IntKind.wrap_i64]; omega) | (simp only [ln]; done) | (intro j hj; simp only [pw, Bool.cond_eq_ite, Bool.and_eq_true, decide_eq_true_eq]; (try rw [subL_getD _ _ _ _ (by assumption)]); (try rw [clearL_getD _ _ _ _ (by omega)]); (repeat' split) <;> first | rfl | omega)))⟩
  · obtain rfl : i1 = a0.length := by ((simp only [ob, ln, bdv, sv] at *; omega))
    rw [loopR_ge (Nat.le_refl _)] at hz1; subst hz1; dsimp only at hR
    refine AWP.exit ?_; refine exitTo_here ?_
    refine AWP.seq ?_
    refine AWP.regS G_ok laws_markEntryS_DD hc (by kernel_rfl) (fun K hK => ?_); simp only [ea, gv, sv, D_laws_markText, reduceCtorEq, reduceIte, Nat.reduceBEq, Nat.reduceAdd, Nat.reduceEqDiff, Nat.reduceLT, Nat.reduceLeDiff, Nat.reduceMul, Nat.reduceSub, BEq.rfl, beq_self_eq_true, Int.reduceToNat]
    (refine hK _ ?_)
    clear hK K
    refine AWP.ret ?_
    subst hR
    (simp only [en, si, ea, gv, sv, hk, reduceCtorEq, reduceIte, Nat.reduceBEq, Nat.reduceAdd, Nat.reduceEqDiff, Nat.reduceLT, Nat.reduceLeDiff, Nat.reduceMul, Nat.reduceSub, BEq.rfl, beq_self_eq_true, Int.reduceToNat]; (and_intros <;> omega))
def D_laws_markEntryS : List AV → Option (AV × List AV × List Prop)
  | [x0, x1] => some (.int .i64 ((laws_markEntryS (rdL dEntry x0) (rdI x1)).1), [(ownL 66 3 eEntry ((laws_markEntryS (rdL dEntry x0) (rdI x1)).2)), .any], [wO 66 3 eEntry dEntry x0, wI .i64 x1, 0 ≤ (rdI x1), (rdI x1) ≤ 1152921504606846976, (rdL dEntry x0).length < 1099511627776])
  | _ => none
theorem D_laws_markEntryS_ok : OkM Try.prog 61 D_laws_markEntryS := by
  intro xs r outs ob h ho
  unfold D_laws_markEntryS at h
  split at h
  · simp only [Option.some.injEq, Prod.mk.injEq] at h
    obtain ⟨rfl, rfl, rfl⟩ := h
    obtain ⟨h0, h1, hp0, hp1, hp2, _⟩ := ho
    exact DenM.sim (laws_markEntryS_den _ _ hp0 hp1 hp2) (simOL_cons (wO_sim h0) <| simOL_cons (wI_sim h1).1 <| trivial)
  · cases h
end Go.Ab

namespace Go.Ab
open Go Go.Proofs
theorem laws_markSpareS_DD : DOk Try.prog (DD [(82, dP D_laws_markText)]) := DD_cons D_laws_markText_ok.e <| DD_nil _
def laws_markSpareS_b1 (a0 : (List Spare)) (a1 : Int) (i1 : Nat) (s1 : Int × List Spare) : Except (Int × (List Spare)) (Int × List Spare) :=
  .ok (IntKind.wrap .i64 ((IntKind.wrap .i64 ((IntKind.wrap .i64 (s1.1 + 1)) + 1)) + 1), s1.2.set i1 ({ Name := (laws_markText s1.1), Least := IntKind.wrap .i64 (s1.1 + 1), Most := IntKind.wrap .i64 ((IntKind.wrap .i64 (s1.1 + 1)) + 1) : Spare }))
def laws_markSpareS (a0 : (List Spare)) (a1 : Int) : Int × (List Spare) :=
  (match loopR (laws_markSpareS_b1 a0 a1) (a0.length - 0) 0 (a1, a0) with | .error e => e | .ok s1 => (s1.1, s1.2))
theorem laws_markSpareS_den (a0 : (List Spare)) (a1 : Int) (hp0 : 0 ≤ a1) (hp1 : a1 ≤ 1152921504606846976) (hp2 : a0.length < 1099511627776) : DenM Try.prog 98 [ownL 63 3 eSpare a0, .int .i64 a1] (.int .i64 ((laws_markSpareS a0 a1).1)) [(ownL 63 3 eSpare ((laws_markSpareS a0 a1).2)), .any] := by
  generalize hR : laws_markSpareS a0 a1 = r
  unfold laws_markSpareS at hR
  refine den_introM (gb := [true, false]) G_ok Try.func98 (by kernel_rfl) rfl Try.ntmps98 (by rw [Try.results98]) (by simp) ?_
  intro c hL hc hk
  obtain ⟨hL0, hL1, _⟩ := hL
  have hw0 : a0.length < 9223372036854775808 := Nat.lt_succ_of_le (lens_ownL hL0).1
  have hw1 : ∀ v ∈ a0, bwSpare v := fun v hv => Spare_lens v ((lens_ownL hL0).2 v hv)
  clear hL0 hL1
  simp only [adEL, adE, adRL, adR, ownL, encL, sv, List.nil_append, List.append_nil, List.cons_append, List.length_cons, List.length_nil, pars, Nat.zero_add, Nat.reduceAdd] at hk ⊢
  refine AWP.seq ?_
  refine AWP.regS G_ok laws_markSpareS_DD hc (by kernel_rfl) (fun K hK => ?_); simp only [ea, gv, sv, D_laws_markText, reduceCtorEq, reduceIte, Nat.reduceBEq, Nat.reduceAdd, Nat.reduceEqDiff, Nat.reduceLT, Nat.reduceLeDiff, Nat.reduceMul, Nat.reduceSub, BEq.rfl, beq_self_eq_true, Int.reduceToNat]
  (refine hK _ ?_)
  clear hK K
  refine AWP.seq ?_
  refine AWP.seq ?_
  refine AWP.regS G_ok laws_markSpareS_DD hc (by kernel_rfl) (fun K hK => ?_); simp only [ea, gv, sv, D_laws_markText, reduceCtorEq, reduceIte, Nat.reduceBEq, Nat.reduceAdd, Nat.reduceEqDiff, Nat.reduceLT, Nat.reduceLeDiff, Nat.reduceMul, Nat.reduceSub, BEq.rfl, beq_self_eq_true, Int.reduceToNat]
  (refine hK _ ?_)
  clear hK K
  refine AWP.block ?_
  generalize hz1 : loopR (laws_markSpareS_b1 a0 a1) (a0.length - 0) 0 (a1, a0) = z1 at hR
  refine AWP.range (laws_markSpareS_b1 a0 a1) (fun i1 s1 => ⟨[(0, .ref 0 3 0 s1.2.length), (1, .int .i64 s1.1), (5, .int .i64 (i1 : Int))], [.arr 63 3 s1.2.length (fun j => eSpare (s1.2.getD j default))]⟩) (fun i1 s1 => s1.2.length = a0.length ∧ 0 ≤ s1.1 ∧ s1.1 ≤ a1 + 3 * i1) (a0.length) 0 (a1, a0) [0] hz1 (by (omega)) (by ((and_intros <;> simp only [ln] <;> omega))) (by (simp only [si, ea, gv, sv, hk, reduceCtorEq, reduceIte, Nat.reduceBEq, Nat.reduceAdd, Nat.reduceEqDiff, Nat.reduceLT, Nat.reduceLeDiff, Nat.reduceMul, Nat.reduceSub, BEq.rfl, beq_self_eq_true, Int.reduceToNat]; trivial)) ?_
  clear hz1
  intro i1 s1 hi1 hW1 hz1
  refine AWP.seq ?_
  refine AWP.seq ?_
  refine AWP.regS G_ok laws_markSpareS_DD hc (by kernel_rfl) (fun K hK => ?_); simp only [ea, gv, sv, D_laws_markText, reduceCtorEq, reduceIte, Nat.reduceBEq, Nat.reduceAdd, Nat.reduceEqDiff, Nat.reduceLT, Nat.reduceLeDiff, Nat.reduceMul, Nat.reduceSub, BEq.rfl, beq_self_eq_true, Int.reduceToNat]
  (refine hK _ ?_)
  clear hK K
  refine AWP.cond rfl (fun hb => ?_) (fun hb => ?_)
  · have hlt1 : i1 < a0.length := by ((simp only [ob, ln, bdv, sv] at *; omega))
    rw [loopR_lt hlt1] at hz1; simp only [laws_markSpareS_b1] at hz1
    refine AWP.skip ?_
    refine AWP.seq ?_
    refine AWP.block ?_
    refine AWP.seq ?_
    refine AWP.regS G_ok laws_markSpareS_DD hc (by kernel_rfl) (fun K hK => ?_); simp only [ea, gv, sv, D_laws_markText, reduceCtorEq, reduceIte, Nat.reduceBEq, Nat.reduceAdd, Nat.reduceEqDiff, Nat.reduceLT, Nat.reduceLeDiff, Nat.reduceMul, Nat.reduceSub, BEq.rfl, beq_self_eq_true, Int.reduceToNat]
    (refine ⟨by (omega), hK _ ?_⟩)
    clear hK K
    refine AWP.seq ?_
    refine AWP.regS G_ok laws_markSpareS_DD hc (by kernel_rfl) (fun K hK => ?_); simp only [ea, gv, sv, D_laws_markText, reduceCtorEq, reduceIte, Nat.reduceBEq, Nat.reduceAdd, Nat.reduceEqDiff, Nat.reduceLT, Nat.reduceLeDiff, Nat.reduceMul, Nat.reduceSub, BEq.rfl, beq_self_eq_true, Int.reduceToNat]
    (refine hK _ ?_)
    clear hK K
    refine AWP.seq ?_
    refine AWP.regS G_ok laws_markSpareS_DD hc (by kernel_rfl) (fun K hK => ?_); simp only [ea, gv, sv, D_laws_markText, reduceCtorEq, reduceIte, Nat.reduceBEq, Nat.reduceAdd, Nat.reduceEqDiff, Nat.reduceLT, Nat.reduceLeDiff, Nat.reduceMul, Nat.reduceSub, BEq.rfl, beq_self_eq_true, Int.reduceToNat]
    (refine ⟨by (omega), hK _ ?_⟩)
    clear hK K
    refine AWP.seq ?_
    refine AWP.regS G_ok laws_markSpareS_DD hc (by kernel_rfl) (fun K hK => ?_); simp only [ea, gv, sv, D_laws_markText, reduceCtorEq, reduceIte, Nat.reduceBEq, Nat.reduceAdd, Nat.reduceEqDiff, Nat.reduceLT, Nat.reduceLeDiff, Nat.reduceMul, Nat.reduceSub, BEq.rfl, beq_self_eq_true, Int.reduceToNat]
    (refine hK _ ?_)
    clear hK K
    refine AWP.seq ?_
    refine AWP.regS G_ok laws_markSpareS_DD hc (by kernel_rfl) (fun K hK => ?_); simp only [ea, gv, sv, D_laws_markText, reduceCtorEq, reduceIte, Nat.reduceBEq, Nat.reduceAdd, Nat.reduceEqDiff, Nat.reduceLT, Nat.reduceLeDiff, Nat.reduceMul, Nat.reduceSub, BEq.rfl, beq_self_eq_true, Int.reduceToNat]
    (refine ⟨by (omega), hK _ ?_⟩)
    clear hK K
    refine AWP.regS G_ok laws_markSpareS_DD hc (by kernel_rfl) (fun K hK => ?_); simp only [ea, gv, sv, D_laws_markText, reduceCtorEq, reduceIte, Nat.reduceBEq, Nat.reduceAdd, Nat.reduceEqDiff, Nat.reduceLT, Nat.reduceLeDiff, Nat.reduceMul, Nat.reduceSub, BEq.rfl, beq_self_eq_true, Int.reduceToNat]
    (refine hK _ ?_)
    clear hK K
    refine AWP.regS G_ok laws_markSpareS_DD hc (by kernel_rfl) (fun K hK => ?_); simp only [ea, gv, sv, D_laws_markText, reduceCtorEq, reduceIte, Nat.reduceBEq, Nat.reduceAdd, Nat.reduceEqDiff, Nat.reduceLT, Nat.reduceLeDiff, Nat.reduceMul, Nat.reduceSub, BEq.rfl, beq_self_eq_true, Int.reduceToNat]
    (refine hK _ ?_)
    clear hK K
    exact ⟨_, [0], hlt1, by ((and_intros <;> simp only [ob, ln] at * <;> omega)), hz1, by (simp only [si, ea, gv, sv, hk, reduceCtorEq, reduceIte, Nat.reduceBEq, Nat.reduceAdd, Nat.reduceEqDiff, Nat.reduceLT, Nat.reduceLeDiff, Nat.reduceMul, Nat.reduceSub, BEq.rfl, beq_self_eq_true, Int.reduceToNat]; (and_intros <;> first | trivial | (rw [IntKind.wrap_i64]; omega) | (simp only [ln]; done) | (intro j hj; simp only [pw, Bool.cond_eq_ite, Bool.and_eq_true, decide_eq_true_eq]; (try rw [subL_getD _ _ _ _ (by assumption)]); (try rw [clearL_getD _ _ _ _ (by omega)]); (repeat' split) <;> first | rfl | omega)))⟩
  · obtain rfl : i1 = a0.length := by ((simp only [ob, ln, bdv, sv] at *; omega))
    rw [loopR_ge (Nat.le_refl _)] at hz1; subst hz1; dsimp only at hR
    refine AWP.exit ?_; refine exitTo_here ?_
    refine AWP.seq ?_
    refine AWP.regS G_ok laws_markSpareS_DD hc (by kernel_rfl) (fun K hK => ?_); simp only [ea, gv, sv, D_laws_markText, reduceCtorEq, reduceIte, Nat.reduceBEq, Nat.reduceAdd, Nat.reduceEqDiff, Nat.reduceLT, Nat.reduceLeDiff, Nat.reduceMul, Nat.reduceSub, BEq.rfl, beq_self_eq_true, Int.reduceToNat]
    (refine hK _ ?_)
    clear hK K
    refine AWP.ret ?_
    subst hR
    (simp only [en, si, ea, gv, sv, hk, reduceCtorEq, reduceIte, Nat.reduceBEq, Nat.reduceAdd, Nat.reduceEqDiff, Nat.reduceLT, Nat.reduceLeDiff, Nat.reduceMul, Nat.reduceSub, BEq.rfl, beq_self_eq_true, Int.reduceToNat]; (and_intros <;> omega))
def D_laws_markSpareS : List AV → Option (AV × List AV × List Prop)
  | [x0, x1] => some (.int .i64 ((laws_markSpareS (rdL dSpare x0) (rdI x1)).1), [(ownL 63 3 eSpare ((laws_markSpareS (rdL dSpare x0) (rdI x1)).2)), .any], [wO 63 3 eSpare dSpare x0, wI .i64 x1, 0 ≤ (rdI x1), (rdI x1) ≤ 1152921504606846976, (rdL dSpare x0).length < 1099511627776])
  | _ => none
theorem D_laws_markSpareS_ok : OkM Try.prog 98 D_laws_markSpareS := by
  intro xs r outs ob h ho
  unfold D_laws_markSpareS at h
  split at h
  · simp only [Option.some.injEq, Prod.mk.injEq] at h
    obtain ⟨rfl, rfl, rfl⟩ := h
    obtain ⟨h0, h1, hp0, hp1, hp2, _⟩ := ho
    exact DenM.sim (laws_markSpareS_den _ _ hp0 hp1 hp2) (simOL_cons (wO_sim h0) <| simOL_cons (wI_sim h1).1 <| trivial)
  · cases h
end Go.Ab

namespace Go.Ab
open Go Go.Proofs
theorem laws_heldEntryS_DD : DOk Try.prog (DD [(82, dP D_laws_markText)]) := DD_cons D_laws_markText_ok.e <| DD_nil _
def laws_heldEntryS_b1 (a0 : (List Entry)) (a1 : Int) (i1 : Nat) (s1 : Int) : Except (Int) (Int) :=
  (bif (((a0.getD i1 default).Day) != s1) then .error (-1) else (bif (((a0.getD i1 default).Item) != (laws_markText (IntKind.wrap .i64 (s1 + 1)))) then .error (-1) else (bif (((a0.getD i1 default).Amount) != (IntKind.wrap .i64 ((IntKind.wrap .i64 (s1 + 1)) + 1))) then .error (-1) else .ok (IntKind.wrap .i64 ((IntKind.wrap .i64 ((IntKind.wrap .i64 (s1 + 1)) + 1)) + 1)))))
def laws_heldEntryS (a0 : (List Entry)) (a1 : Int) : Int :=
  (match loopR (laws_heldEntryS_b1 a0 a1) (a0.length - 0) 0 a1 with | .error e => e | .ok s1 => s1)
theorem laws_heldEntryS_den (a0 : (List Entry)) (a1 : Int) (hp0 : 0 ≤ a1) (hp1 : a1 ≤ 1152921504606846976) (hp2 : a0.length < 1099511627776) : Den Try.prog 100 [encL 3 eEntry a0, .int .i64 a1] (.int .i64 (laws_heldEntryS a0 a1)) := by
  generalize hR : laws_heldEntryS a0 a1 = r
  unfold laws_heldEntryS at hR
  refine den_intro G_ok Try.func100 (by kernel_rfl) rfl Try.ntmps100 (by rw [Try.results100]) (by simp) rfl ?_
  intro c hL hc hk
  obtain ⟨hL0, hL1, _⟩ := hL
  have hw0 : a0.length < 9223372036854775808 := Nat.lt_succ_of_le (lens_encL hL0).1
  have hw1 : ∀ v ∈ a0, bwEntry v := fun v hv => Entry_lens v ((lens_encL hL0).2 v hv)
  clear hL0 hL1
  simp only [pars, Nat.zero_add]
  refine AWP.seq ?_
  refine AWP.regS G_ok laws_heldEntryS_DD hc (by kernel_rfl) (fun K hK => ?_); simp only [ea, gv, sv, D_laws_markText, reduceCtorEq, reduceIte, Nat.reduceBEq, Nat.reduceAdd, Nat.reduceEqDiff, Nat.reduceLT, Nat.reduceLeDiff, Nat.reduceMul, Nat.reduceSub, BEq.rfl, beq_self_eq_true, Int.reduceToNat]
  (refine hK _ ?_)
  clear hK K
  refine AWP.seq ?_
  refine AWP.seq ?_
  refine AWP.regS G_ok laws_heldEntryS_DD hc (by kernel_rfl) (fun K hK => ?_); simp only [ea, gv, sv, D_laws_markText, reduceCtorEq, reduceIte, Nat.reduceBEq, Nat.reduceAdd, Nat.reduceEqDiff, Nat.reduceLT, Nat.reduceLeDiff, Nat.reduceMul, Nat.reduceSub, BEq.rfl, beq_self_eq_true, Int.reduceToNat]
  (refine hK _ ?_)
  clear hK K
  refine AWP.block ?_
  generalize hz1 : loopR (laws_heldEntryS_b1 a0 a1) (a0.length - 0) 0 a1 = z1 at hR
  refine AWP.range (laws_heldEntryS_b1 a0 a1) (fun i1 s1 => ⟨[(0, encL 3 eEntry a0), (1, .int .i64 s1), (5, .int .i64 (i1 : Int))], []⟩) (fun i1 s1 => 0 ≤ s1 ∧ s1 ≤ a1 + 3 * i1) (a0.length) 0 a1 [] hz1 (by (omega)) (by ((and_intros <;> simp only [ob, ln] at * <;> omega))) (by (simp only [si, ea, gv, sv, hk, reduceCtorEq, reduceIte, Nat.reduceBEq, Nat.reduceAdd, Nat.reduceEqDiff, Nat.reduceLT, Nat.reduceLeDiff, Nat.reduceMul, Nat.reduceSub, BEq.rfl, beq_self_eq_true, Int.reduceToNat]; trivial)) ?_
  clear hz1
  intro i1 s1 hi1 hW1 hz1
  refine AWP.seq ?_
  refine AWP.seq ?_
  refine AWP.regS G_ok laws_heldEntryS_DD hc (by kernel_rfl) (fun K hK => ?_); simp only [ea, gv, sv, D_laws_markText, reduceCtorEq, reduceIte, Nat.reduceBEq, Nat.reduceAdd, Nat.reduceEqDiff, Nat.reduceLT, Nat.reduceLeDiff, Nat.reduceMul, Nat.reduceSub, BEq.rfl, beq_self_eq_true, Int.reduceToNat]
  (refine hK _ ?_)
  clear hK K
  refine AWP.cond rfl (fun hb => ?_) (fun hb => ?_)
  · have hlt1 : i1 < a0.length := by ((simp only [ob, ln, bdv, sv] at *; omega))
    rw [loopR_lt hlt1] at hz1; simp only [laws_heldEntryS_b1] at hz1
    refine AWP.skip ?_
    refine AWP.seq ?_
    refine AWP.block ?_
    refine AWP.seq ?_
    refine AWP.seq ?_
    refine AWP.regS G_ok laws_heldEntryS_DD hc (by kernel_rfl) (fun K hK => ?_); simp only [ea, gv, sv, D_laws_markText, reduceCtorEq, reduceIte, Nat.reduceBEq, Nat.reduceAdd, Nat.reduceEqDiff, Nat.reduceLT, Nat.reduceLeDiff, Nat.reduceMul, Nat.reduceSub, BEq.rfl, beq_self_eq_true, Int.reduceToNat]
    (refine ⟨by (omega), hK _ ?_⟩)
    clear hK K
    refine AWP.cond rfl (fun hb => ?_) (fun hb => ?_)
    · (simp only [hb, cond_true] at hz1)
      refine AWP.seq ?_
      refine AWP.regS G_ok laws_heldEntryS_DD hc (by kernel_rfl) (fun K hK => ?_); simp only [ea, gv, sv, D_laws_markText, reduceCtorEq, reduceIte, Nat.reduceBEq, Nat.reduceAdd, Nat.reduceEqDiff, Nat.reduceLT, Nat.reduceLeDiff, Nat.reduceMul, Nat.reduceSub, BEq.rfl, beq_self_eq_true, Int.reduceToNat]
      (refine hK _ ?_)
      clear hK K
      refine AWP.ret ?_
      subst hz1
      dsimp only at hR
      subst hR
      (simp only [en, si, ea, gv, sv, hk, reduceCtorEq, reduceIte, Nat.reduceBEq, Nat.reduceAdd, Nat.reduceEqDiff, Nat.reduceLT, Nat.reduceLeDiff, Nat.reduceMul, Nat.reduceSub, BEq.rfl, beq_self_eq_true, Int.reduceToNat]; done)
    · (simp only [hb, cond_false] at hz1)
      refine AWP.skip ?_
      refine AWP.seq ?_
      refine AWP.regS G_ok laws_heldEntryS_DD hc (by kernel_rfl) (fun K hK => ?_); simp only [ea, gv, sv, D_laws_markText, reduceCtorEq, reduceIte, Nat.reduceBEq, Nat.reduceAdd, Nat.reduceEqDiff, Nat.reduceLT, Nat.reduceLeDiff, Nat.reduceMul, Nat.reduceSub, BEq.rfl, beq_self_eq_true, Int.reduceToNat]
      (refine hK _ ?_)
      clear hK K
      refine AWP.seq ?_
      refine AWP.seq ?_
      refine AWP.regD mixed G_ok laws_heldEntryS_DD hc 7 (by kernel_rfl) (by kernel_rfl) (fun K hK => ?_); simp only [ea, gv, sv, D_laws_markText, reduceCtorEq, reduceIte, Nat.reduceBEq, Nat.reduceAdd, Nat.reduceEqDiff, Nat.reduceLT, Nat.reduceLeDiff, Nat.reduceMul, Nat.reduceSub, BEq.rfl, beq_self_eq_true, Int.reduceToNat]
      (refine ⟨by ((simp only [ob, ln, bdv, sv] at *; omega)), hK _ ?_⟩)
      clear hK K
      refine AWP.cond rfl (fun hb => ?_) (fun hb => ?_)
      · (simp only [hb, cond_true] at hz1)
        refine AWP.seq ?_
        refine AWP.regS G_ok laws_heldEntryS_DD hc (by kernel_rfl) (fun K hK => ?_); simp only [ea, gv, sv, D_laws_markText, reduceCtorEq, reduceIte, Nat.reduceBEq, Nat.reduceAdd, Nat.reduceEqDiff, Nat.reduceLT, Nat.reduceLeDiff, Nat.reduceMul, Nat.reduceSub, BEq.rfl, beq_self_eq_true, Int.reduceToNat]
        (refine hK _ ?_)
        clear hK K
        refine AWP.ret ?_
        subst hz1
        dsimp only at hR
        subst hR
        (simp only [en, si, ea, gv, sv, hk, reduceCtorEq, reduceIte, Nat.reduceBEq, Nat.reduceAdd, Nat.reduceEqDiff, Nat.reduceLT, Nat.reduceLeDiff, Nat.reduceMul, Nat.reduceSub, BEq.rfl, beq_self_eq_true, Int.reduceToNat]; done)
      · (simp only [hb, cond_false] at hz1)
        refine AWP.skip ?_
        refine AWP.seq ?_
        refine AWP.regS G_ok laws_heldEntryS_DD hc (by kernel_rfl) (fun K hK => ?_); simp only [ea, gv, sv, D_laws_markText, reduceCtorEq, reduceIte, Nat.reduceBEq, Nat.reduceAdd, Nat.reduceEqDiff, Nat.reduceLT, Nat.reduceLeDiff, Nat.reduceMul, Nat.reduceSub, BEq.rfl, beq_self_eq_true, Int.reduceToNat]
        (refine hK _ ?_)
        clear hK K
        refine AWP.seq ?_
        refine AWP.seq ?_
        refine AWP.regS G_ok laws_heldEntryS_DD hc (by kernel_rfl) (fun K hK => ?_); simp only [ea, gv, sv, D_laws_markText, reduceCtorEq, reduceIte, Nat.reduceBEq, Nat.reduceAdd, Nat.reduceEqDiff, Nat.reduceLT, Nat.reduceLeDiff, Nat.reduceMul, Nat.reduceSub, BEq.rfl, beq_self_eq_true, Int.reduceToNat]
        (refine ⟨by (omega), hK _ ?_⟩)
        clear hK K
        refine AWP.cond rfl (fun hb => ?_) (fun hb => ?_)
        · (simp only [hb, cond_true] at hz1)
          refine AWP.seq ?_
          refine AWP.regS G_ok laws_heldEntryS_DD hc (by kernel_rfl) (fun K hK => ?_); simp only [ea, gv, sv, D_laws_markText, reduceCtorEq, reduceIte, Nat.reduceBEq, Nat.reduceAdd, Nat.reduceEqDiff, Nat.reduceLT, Nat.reduceLeDiff, Nat.reduceMul, Nat.reduceSub, BEq.rfl, beq_self_eq_true, Int.reduceToNat]
          (refine hK _ ?_)
          clear hK K
          refine AWP.ret ?_
          subst hz1
          dsimp only at hR
          subst hR
          (simp only [en, si, ea, gv, sv, hk, reduceCtorEq, reduceIte, Nat.reduceBEq, Nat.reduceAdd, Nat.reduceEqDiff, Nat.reduceLT, Nat.reduceLeDiff, Nat.reduceMul, Nat.reduceSub, BEq.rfl, beq_self_eq_true, Int.reduceToNat]; done)
        · (simp only [hb, cond_false] at hz1)
          refine AWP.skip ?_
          refine AWP.regS G_ok laws_heldEntryS_DD hc (by kernel_rfl) (fun K hK => ?_); simp only [ea, gv, sv, D_laws_markText, reduceCtorEq, reduceIte, Nat.reduceBEq, Nat.reduceAdd, Nat.reduceEqDiff, Nat.reduceLT, Nat.reduceLeDiff, Nat.reduceMul, Nat.reduceSub, BEq.rfl, beq_self_eq_true, Int.reduceToNat]
          (refine hK _ ?_)
          clear hK K
          refine AWP.regS G_ok laws_heldEntryS_DD hc (by kernel_rfl) (fun K hK => ?_); simp only [ea, gv, sv, D_laws_markText, reduceCtorEq, reduceIte, Nat.reduceBEq, Nat.reduceAdd, Nat.reduceEqDiff, Nat.reduceLT, Nat.reduceLeDiff, Nat.reduceMul, Nat.reduceSub, BEq.rfl, beq_self_eq_true, Int.reduceToNat]
          (refine hK _ ?_)
          clear hK K
          exact ⟨_, [], hlt1, by ((and_intros <;> simp only [ob, ln] at * <;> omega)), hz1, by (simp only [si, ea, gv, sv, hk, reduceCtorEq, reduceIte, Nat.reduceBEq, Nat.reduceAdd, Nat.reduceEqDiff, Nat.reduceLT, Nat.reduceLeDiff, Nat.reduceMul, Nat.reduceSub, BEq.rfl, beq_self_eq_true, Int.reduceToNat]; (and_intros <;> first | trivial | (rw [IntKind.wrap_i64]; omega)))⟩
  · obtain rfl : i1 = a0.length := by ((simp only [ob, ln, bdv, sv] at *; omega))
    rw [loopR_ge (Nat.le_refl _)] at hz1; subst hz1; dsimp only at hR
    refine AWP.exit ?_; refine exitTo_here ?_
    refine AWP.seq ?_
    refine AWP.regS G_ok laws_heldEntryS_DD hc (by kernel_rfl) (fun K hK => ?_); simp only [ea, gv, sv, D_laws_markText, reduceCtorEq, reduceIte, Nat.reduceBEq, Nat.reduceAdd, Nat.reduceEqDiff, Nat.reduceLT, Nat.reduceLeDiff, Nat.reduceMul, Nat.reduceSub, BEq.rfl, beq_self_eq_true, Int.reduceToNat]
    (refine hK _ ?_)
    clear hK K
    refine AWP.ret ?_
    subst hR
    (simp only [en, si, ea, gv, sv, hk, reduceCtorEq, reduceIte, Nat.reduceBEq, Nat.reduceAdd, Nat.reduceEqDiff, Nat.reduceLT, Nat.reduceLeDiff, Nat.reduceMul, Nat.reduceSub, BEq.rfl, beq_self_eq_true, Int.reduceToNat]; done)
def D_laws_heldEntryS : DF
  | [x0, x1] => some (.int .i64 (laws_heldEntryS (rdL dEntry x0) (rdI x1)), false, [wL 3 eEntry dEntry x0, wI .i64 x1, 0 ≤ (rdI x1), (rdI x1) ≤ 1152921504606846976, (rdL dEntry x0).length < 1099511627776])
  | _ => none
theorem D_laws_heldEntryS_ok : OkD Try.prog 100 D_laws_heldEntryS := by
  intro xs r z ob h ho
  unfold D_laws_heldEntryS at h
  split at h
  · simp only [Option.some.injEq, Prod.mk.injEq] at h
    obtain ⟨rfl, rfl, rfl⟩ := h
    obtain ⟨h0, h1, hp0, hp1, hp2, _⟩ := ho
    exact Den.sim (laws_heldEntryS_den _ _ hp0 hp1 hp2) (simOL_cons (wL_sim h0).1 <| simOL_cons (wI_sim h1).1 <| trivial) (noIdL_cons (wL_sim h0).2 <| noIdL_cons (wI_sim h1).2 <| rfl) rfl
  · cases h
end Go.Ab

namespace Go.Ab
open Go Go.Proofs
def mkEntry (v : Int) : Entry := ⟨v, (laws_markText (v + 1)), (v + 2)⟩
theorem laws_markEntryS_len (a : List Entry) (k : Int) : (laws_markEntryS a k).2.length = a.length := by
  unfold laws_markEntryS
  obtain ⟨t, h1, h2⟩ := loopR_total (b := laws_markEntryS_b1 a k) (fun _ s => s.2.length = a.length) (k := a.length - 0) (i := 0) (s := (k, a)) rfl (by
    intro j u _ _ h
    exact ⟨_, rfl, by simpa using h⟩)
  rw [h1]
  exact h2
theorem laws_markEntryS_sub (a : List Entry) (k : Int) : subL (laws_markEntryS a k).2 0 a.length = (laws_markEntryS a k).2 := by
  rw [← laws_markEntryS_len a k]; exact subL_all _
theorem laws_markEntryS_eq (a : List Entry) (k : Int) (h0 : 0 ≤ k) (h1 : k + 3 * a.length < 4611686018427387904) : laws_markEntryS a k = (k + 3 * a.length, (List.range a.length).map (fun j : Nat => mkEntry (k + 3 * j))) := by
  unfold laws_markEntryS
  obtain ⟨t, q1, q2, q3, q4⟩ := loopR_total (b := laws_markEntryS_b1 a k) (fun i s => s.1 = k + 3 * i ∧ s.2.length = a.length ∧ ∀ j, j < i → s.2.getD j default = mkEntry (k + 3 * j)) (k := a.length - 0) (i := 0) (s := (k, a)) ⟨by simp, rfl, by intro j hj; omega⟩ (by
    intro j u _ hj ⟨h2, h3, h4⟩
    have w1 : ∀ m : Int, 0 ≤ m → m < 4611686018427387904 → IntKind.wrap .i64 (m + 1) = m + 1 := by intro m _ _; rw [IntKind.wrap_i64]; omega
    have w0 : ∀ m : Int, 0 ≤ m → m < 4611686018427387904 → IntKind.wrap .i64 m = m := by intro m _ _; rw [IntKind.wrap_i64]; omega
    refine ⟨_, rfl, ?_, ?_, ?_⟩
    · simp only [h2, IntKind.wrap_i64]; omega
    · simpa using h3
    · intro q hq
      simp only
      rw [lgetD_set]
      by_cases h : q = j
      · subst h
        rw [if_pos ⟨rfl, by omega⟩, h2]
        simp only [mkEntry]
        all_goals (try rw [Entry.mk.injEq])
        all_goals (and_intros <;> first | rfl | trivial | (simp only [IntKind.wrap_i64]; omega) | (congr 1; (simp only [IntKind.wrap_i64]; omega)))
      · rw [if_neg (fun hh => h hh.1)]
        exact h4 q (by omega))
  rw [q1]
  simp only [Nat.zero_add, Nat.sub_zero] at q2 q4
  simp only [q2]
  congr 1
  apply getD_ext
  · simpa using q3
  · intro i hi
    rw [q4 i (by omega)]
    simp [List.getD_eq_getElem?_getD]
    rw [List.getElem?_range (by omega)]
    rfl
theorem laws_markEntryS_k (a : List Entry) (k : Int) (h0 : 0 ≤ k) (h1 : k ≤ 1152921504606846976) (hl : a.length < 1099511627776) : (laws_markEntryS a k).1 = k + 3 * a.length := by
  rw [laws_markEntryS_eq a k h0 (by omega)]
theorem laws_heldEntryS_mark (a : List Entry) (k : Int) (h0 : 0 ≤ k) (hk : k ≤ 1152921504606846976) (h1 : a.length < 1099511627776) : laws_heldEntryS (laws_markEntryS a k).2 k = (laws_markEntryS a k).1 ∧ ¬ (laws_markEntryS a k).1 < 0 := by
  rw [laws_markEntryS_eq a k h0 (by omega)]
  refine ⟨?_, by simp only; omega⟩
  simp only
  unfold laws_heldEntryS
  obtain ⟨t, q1, q2⟩ := loopR_total (b := laws_heldEntryS_b1 ((List.range a.length).map (fun j : Nat => mkEntry (k + 3 * j))) k) (fun i s => s = k + 3 * (i : Int)) (k := ((List.range a.length).map (fun j : Nat => mkEntry (k + 3 * j))).length - 0) (i := 0) (s := k) (by simp) (by
    intro j u _ hj h2
    have hj2 : j < a.length := by simpa using hj
    have hg : ((List.range a.length).map (fun j : Nat => mkEntry (k + 3 * j))).getD j default = mkEntry (k + 3 * j) := by
      simp [List.getD_eq_getElem?_getD, hj2]
    subst h2
    refine ⟨k + 3 * ((j + 1 : Nat) : Int), ?_, rfl⟩
    have e1 : ∀ m : Int, 0 ≤ m → m < 4611686018427387904 → (m + 9223372036854775808) % 18446744073709551616 - 9223372036854775808 = m := by intro m _ _; omega
    simp only [laws_heldEntryS_b1]
    simp only [hg]
    simp only [mkEntry, IntKind.wrap_i64]
    (repeat rw [e1 _ (by omega) (by omega)])
    simp only [Int.add_assoc, Int.reduceAdd, bne_self_eq_false, cond_false, Except.ok.injEq]
    omega)
  rw [q1]
  simp only [q2]
  simp
end Go.Ab

namespace Go.Ab
open Go Go.Proofs
theorem laws_heldSpareS_DD : DOk Try.prog (DD [(82, dP D_laws_markText)]) := DD_cons D_laws_markText_ok.e <| DD_nil _
def laws_heldSpareS_b1 (a0 : (List Spare)) (a1 : Int) (i1 : Nat) (s1 : Int) : Except (Int) (Int) :=
  (bif (((a0.getD i1 default).Name) != (laws_markText s1)) then .error (-1) else (bif (((a0.getD i1 default).Least) != (IntKind.wrap .i64 (s1 + 1))) then .error (-1) else (bif (((a0.getD i1 default).Most) != (IntKind.wrap .i64 ((IntKind.wrap .i64 (s1 + 1)) + 1))) then .error (-1) else .ok (IntKind.wrap .i64 ((IntKind.wrap .i64 ((IntKind.wrap .i64 (s1 + 1)) + 1)) + 1)))))
def laws_heldSpareS (a0 : (List Spare)) (a1 : Int) : Int :=
  (match loopR (laws_heldSpareS_b1 a0 a1) (a0.length - 0) 0 a1 with | .error e => e | .ok s1 => s1)
theorem laws_heldSpareS_den (a0 : (List Spare)) (a1 : Int) (hp0 : 0 ≤ a1) (hp1 : a1 ≤ 1152921504606846976) (hp2 : a0.length < 1099511627776) : Den Try.prog 99 [encL 3 eSpare a0, .int .i64 a1] (.int .i64 (laws_heldSpareS a0 a1)) := by
  generalize hR : laws_heldSpareS a0 a1 = r
  unfold laws_heldSpareS at hR
  refine den_intro G_ok Try.func99 (by kernel_rfl) rfl Try.ntmps99 (by rw [Try.results99]) (by simp) rfl ?_
  intro c hL hc hk
  obtain ⟨hL0, hL1, _⟩ := hL
  have hw0 : a0.length < 9223372036854775808 := Nat.lt_succ_of_le (lens_encL hL0).1
  have hw1 : ∀ v ∈ a0, bwSpare v := fun v hv => Spare_lens v ((lens_encL hL0).2 v hv)
  clear hL0 hL1
  simp only [pars, Nat.zero_add]
  refine AWP.seq ?_
  refine AWP.regS G_ok laws_heldSpareS_DD hc (by kernel_rfl) (fun K hK => ?_); simp only [ea, gv, sv, D_laws_markText, reduceCtorEq, reduceIte, Nat.reduceBEq, Nat.reduceAdd, Nat.reduceEqDiff, Nat.reduceLT, Nat.reduceLeDiff, Nat.reduceMul, Nat.reduceSub, BEq.rfl, beq_self_eq_true, Int.reduceToNat]
  (refine hK _ ?_)
  clear hK K
  refine AWP.seq ?_
  refine AWP.seq ?_
  refine AWP.regS G_ok laws_heldSpareS_DD hc (by kernel_rfl) (fun K hK => ?_); simp only [ea, gv, sv, D_laws_markText, reduceCtorEq, reduceIte, Nat.reduceBEq, Nat.reduceAdd, Nat.reduceEqDiff, Nat.reduceLT, Nat.reduceLeDiff, Nat.reduceMul, Nat.reduceSub, BEq.rfl, beq_self_eq_true, Int.reduceToNat]
  (refine hK _ ?_)
  clear hK K
  refine AWP.block ?_
  generalize hz1 : loopR (laws_heldSpareS_b1 a0 a1) (a0.length - 0) 0 a1 = z1 at hR
  refine AWP.range (laws_heldSpareS_b1 a0 a1) (fun i1 s1 => ⟨[(0, encL 3 eSpare a0), (1, .int .i64 s1), (5, .int .i64 (i1 : Int))], []⟩) (fun i1 s1 => 0 ≤ s1 ∧ s1 ≤ a1 + 3 * i1) (a0.length) 0 a1 [] hz1 (by (omega)) (by ((and_intros <;> simp only [ob, ln] at * <;> omega))) (by (simp only [si, ea, gv, sv, hk, reduceCtorEq, reduceIte, Nat.reduceBEq, Nat.reduceAdd, Nat.reduceEqDiff, Nat.reduceLT, Nat.reduceLeDiff, Nat.reduceMul, Nat.reduceSub, BEq.rfl, beq_self_eq_true, Int.reduceToNat]; trivial)) ?_
  clear hz1
  intro i1 s1 hi1 hW1 hz1
  refine AWP.seq ?_
  refine AWP.seq ?_
  refine AWP.regS G_ok laws_heldSpareS_DD hc (by kernel_rfl) (fun K hK => ?_); simp only [ea, gv, sv, D_laws_markText, reduceCtorEq, reduceIte, Nat.reduceBEq, Nat.reduceAdd, Nat.reduceEqDiff, Nat.reduceLT, Nat.reduceLeDiff, Nat.reduceMul, Nat.reduceSub, BEq.rfl, beq_self_eq_true, Int.reduceToNat]
  (refine hK _ ?_)
  clear hK K
  refine AWP.cond rfl (fun hb => ?_) (fun hb => ?_)
  · have hlt1 : i1 < a0.length := by ((simp only [ob, ln, bdv, sv] at *; omega))
    rw [loopR_lt hlt1] at hz1; simp only [laws_heldSpareS_b1] at hz1
    refine AWP.skip ?_
    refine AWP.seq ?_
    refine AWP.block ?_
    refine AWP.seq ?_
    refine AWP.seq ?_
    refine AWP.regD mixed G_ok laws_heldSpareS_DD hc 7 (by kernel_rfl) (by kernel_rfl) (fun K hK => ?_); simp only [ea, gv, sv, D_laws_markText, reduceCtorEq, reduceIte, Nat.reduceBEq, Nat.reduceAdd, Nat.reduceEqDiff, Nat.reduceLT, Nat.reduceLeDiff, Nat.reduceMul, Nat.reduceSub, BEq.rfl, beq_self_eq_true, Int.reduceToNat]
    (refine ⟨by (omega), hK _ ?_⟩)
    clear hK K
    refine AWP.cond rfl (fun hb => ?_) (fun hb => ?_)
    · (simp only [hb, cond_true] at hz1)
      refine AWP.seq ?_
      refine AWP.regS G_ok laws_heldSpareS_DD hc (by kernel_rfl) (fun K hK => ?_); simp only [ea, gv, sv, D_laws_markText, reduceCtorEq, reduceIte, Nat.reduceBEq, Nat.reduceAdd, Nat.reduceEqDiff, Nat.reduceLT, Nat.reduceLeDiff, Nat.reduceMul, Nat.reduceSub, BEq.rfl, beq_self_eq_true, Int.reduceToNat]
      (refine hK _ ?_)
      clear hK K
      refine AWP.ret ?_
      subst hz1
      dsimp only at hR
      subst hR
      (simp only [en, si, ea, gv, sv, hk, reduceCtorEq, reduceIte, Nat.reduceBEq, Nat.reduceAdd, Nat.reduceEqDiff, Nat.reduceLT, Nat.reduceLeDiff, Nat.reduceMul, Nat.reduceSub, BEq.rfl, beq_self_eq_true, Int.reduceToNat]; done)
    · (simp only [hb, cond_false] at hz1)
      refine AWP.skip ?_
      refine AWP.seq ?_
      refine AWP.regS G_ok laws_heldSpareS_DD hc (by kernel_rfl) (fun K hK => ?_); simp only [ea, gv, sv, D_laws_markText, reduceCtorEq, reduceIte, Nat.reduceBEq, Nat.reduceAdd, Nat.reduceEqDiff, Nat.reduceLT, Nat.reduceLeDiff, Nat.reduceMul, Nat.reduceSub, BEq.rfl, beq_self_eq_true, Int.reduceToNat]
      (refine hK _ ?_)
      clear hK K
      refine AWP.seq ?_
      refine AWP.seq ?_
      refine AWP.regS G_ok laws_heldSpareS_DD hc (by kernel_rfl) (fun K hK => ?_); simp only [ea, gv, sv, D_laws_markText, reduceCtorEq, reduceIte, Nat.reduceBEq, Nat.reduceAdd, Nat.reduceEqDiff, Nat.reduceLT, Nat.reduceLeDiff, Nat.reduceMul, Nat.reduceSub, BEq.rfl, beq_self_eq_true, Int.reduceToNat]
      (refine ⟨by (omega), hK _ ?_⟩)
      clear hK K
      refine AWP.cond rfl (fun hb => ?_) (fun hb => ?_)
      · (simp only [hb, cond_true] at hz1)
        refine AWP.seq ?_
        refine AWP.regS G_ok laws_heldSpareS_DD hc (by kernel_rfl) (fun K hK => ?_); simp only [ea, gv, sv, D_laws_markText, reduceCtorEq, reduceIte, Nat.reduceBEq, Nat.reduceAdd, Nat.reduceEqDiff, Nat.reduceLT, Nat.reduceLeDiff, Nat.reduceMul, Nat.reduceSub, BEq.rfl, beq_self_eq_true, Int.reduceToNat]
        (refine hK _ ?_)
        clear hK K
        refine AWP.ret ?_
        subst hz1
        dsimp only at hR
        subst hR
        (simp only [en, si, ea, gv, sv, hk, reduceCtorEq, reduceIte, Nat.reduceBEq, Nat.reduceAdd, Nat.reduceEqDiff, Nat.reduceLT, Nat.reduceLeDiff, Nat.reduceMul, Nat.reduceSub, BEq.rfl, beq_self_eq_true, Int.reduceToNat]; done)
      · (simp only [hb, cond_false] at hz1)
        refine AWP.skip ?_
        refine AWP.seq ?_
        refine AWP.regS G_ok laws_heldSpareS_DD hc (by kernel_rfl) (fun K hK => ?_); simp only [ea, gv, sv, D_laws_markText, reduceCtorEq, reduceIte, Nat.reduceBEq, Nat.reduceAdd, Nat.reduceEqDiff, Nat.reduceLT, Nat.reduceLeDiff, Nat.reduceMul, Nat.reduceSub, BEq.rfl, beq_self_eq_true, Int.reduceToNat]
        (refine hK _ ?_)
        clear hK K
        refine AWP.seq ?_
        refine AWP.seq ?_
        refine AWP.regS G_ok laws_heldSpareS_DD hc (by kernel_rfl) (fun K hK => ?_); simp only [ea, gv, sv, D_laws_markText, reduceCtorEq, reduceIte, Nat.reduceBEq, Nat.reduceAdd, Nat.reduceEqDiff, Nat.reduceLT, Nat.reduceLeDiff, Nat.reduceMul, Nat.reduceSub, BEq.rfl, beq_self_eq_true, Int.reduceToNat]
        (refine ⟨by (omega), hK _ ?_⟩)
        clear hK K
        refine AWP.cond rfl (fun hb => ?_) (fun hb => ?_)
        · (simp only [hb, cond_true] at hz1)
          refine AWP.seq ?_
          refine AWP.regS G_ok laws_heldSpareS_DD hc (by kernel_rfl) (fun K hK => ?_); simp only [ea, gv, sv, D_laws_markText, reduceCtorEq, reduceIte, Nat.reduceBEq, Nat.reduceAdd, Nat.reduceEqDiff, Nat.reduceLT, Nat.reduceLeDiff, Nat.reduceMul, Nat.reduceSub, BEq.rfl, beq_self_eq_true, Int.reduceToNat]
          (refine hK _ ?_)
          clear hK K
          refine AWP.ret ?_
          subst hz1
          dsimp only at hR
          subst hR
          (simp only [en, si, ea, gv, sv, hk, reduceCtorEq, reduceIte, Nat.reduceBEq, Nat.reduceAdd, Nat.reduceEqDiff, Nat.reduceLT, Nat.reduceLeDiff, Nat.reduceMul, Nat.reduceSub, BEq.rfl, beq_self_eq_true, Int.reduceToNat]; done)
        · (simp only [hb, cond_false] at hz1)
          refine AWP.skip ?_
          refine AWP.regS G_ok laws_heldSpareS_DD hc (by kernel_rfl) (fun K hK => ?_); simp only [ea, gv, sv, D_laws_markText, reduceCtorEq, reduceIte, Nat.reduceBEq, Nat.reduceAdd, Nat.reduceEqDiff, Nat.reduceLT, Nat.reduceLeDiff, Nat.reduceMul, Nat.reduceSub, BEq.rfl, beq_self_eq_true, Int.reduceToNat]
          (refine hK _ ?_)
          clear hK K
          refine AWP.regS G_ok laws_heldSpareS_DD hc (by kernel_rfl) (fun K hK => ?_); simp only [ea, gv, sv, D_laws_markText, reduceCtorEq, reduceIte, Nat.reduceBEq, Nat.reduceAdd, Nat.reduceEqDiff, Nat.reduceLT, Nat.reduceLeDiff, Nat.reduceMul, Nat.reduceSub, BEq.rfl, beq_self_eq_true, Int.reduceToNat]
          (refine hK _ ?_)
          clear hK K
          exact ⟨_, [], hlt1, by ((and_intros <;> simp only [ob, ln] at * <;> omega)), hz1, by (simp only [si, ea, gv, sv, hk, reduceCtorEq, reduceIte, Nat.reduceBEq, Nat.reduceAdd, Nat.reduceEqDiff, Nat.reduceLT, Nat.reduceLeDiff, Nat.reduceMul, Nat.reduceSub, BEq.rfl, beq_self_eq_true, Int.reduceToNat]; (and_intros <;> first | trivial | (rw [IntKind.wrap_i64]; omega)))⟩
  · obtain rfl : i1 = a0.length := by ((simp only [ob, ln, bdv, sv] at *; omega))
    rw [loopR_ge (Nat.le_refl _)] at hz1; subst hz1; dsimp only at hR
    refine AWP.exit ?_; refine exitTo_here ?_
    refine AWP.seq ?_
    refine AWP.regS G_ok laws_heldSpareS_DD hc (by kernel_rfl) (fun K hK => ?_); simp only [ea, gv, sv, D_laws_markText, reduceCtorEq, reduceIte, Nat.reduceBEq, Nat.reduceAdd, Nat.reduceEqDiff, Nat.reduceLT, Nat.reduceLeDiff, Nat.reduceMul, Nat.reduceSub, BEq.rfl, beq_self_eq_true, Int.reduceToNat]
    (refine hK _ ?_)
    clear hK K
    refine AWP.ret ?_
    subst hR
    (simp only [en, si, ea, gv, sv, hk, reduceCtorEq, reduceIte, Nat.reduceBEq, Nat.reduceAdd, Nat.reduceEqDiff, Nat.reduceLT, Nat.reduceLeDiff, Nat.reduceMul, Nat.reduceSub, BEq.rfl, beq_self_eq_true, Int.reduceToNat]; done)
def D_laws_heldSpareS : DF
  | [x0, x1] => some (.int .i64 (laws_heldSpareS (rdL dSpare x0) (rdI x1)), false, [wL 3 eSpare dSpare x0, wI .i64 x1, 0 ≤ (rdI x1), (rdI x1) ≤ 1152921504606846976, (rdL dSpare x0).length < 1099511627776])
  | _ => none
theorem D_laws_heldSpareS_ok : OkD Try.prog 99 D_laws_heldSpareS := by
  intro xs r z ob h ho
  unfold D_laws_heldSpareS at h
  split at h
  · simp only [Option.some.injEq, Prod.mk.injEq] at h
    obtain ⟨rfl, rfl, rfl⟩ := h
    obtain ⟨h0, h1, hp0, hp1, hp2, _⟩ := ho
    exact Den.sim (laws_heldSpareS_den _ _ hp0 hp1 hp2) (simOL_cons (wL_sim h0).1 <| simOL_cons (wI_sim h1).1 <| trivial) (noIdL_cons (wL_sim h0).2 <| noIdL_cons (wI_sim h1).2 <| rfl) rfl
  · cases h
end Go.Ab

namespace Go.Ab
open Go Go.Proofs
def mkSpare (v : Int) : Spare := ⟨(laws_markText v), (v + 1), (v + 2)⟩
theorem laws_markSpareS_len (a : List Spare) (k : Int) : (laws_markSpareS a k).2.length = a.length := by
  unfold laws_markSpareS
  obtain ⟨t, h1, h2⟩ := loopR_total (b := laws_markSpareS_b1 a k) (fun _ s => s.2.length = a.length) (k := a.length - 0) (i := 0) (s := (k, a)) rfl (by
    intro j u _ _ h
    exact ⟨_, rfl, by simpa using h⟩)
  rw [h1]
  exact h2
theorem laws_markSpareS_sub (a : List Spare) (k : Int) : subL (laws_markSpareS a k).2 0 a.length = (laws_markSpareS a k).2 := by
  rw [← laws_markSpareS_len a k]; exact subL_all _
theorem laws_markSpareS_eq (a : List Spare) (k : Int) (h0 : 0 ≤ k) (h1 : k + 3 * a.length < 4611686018427387904) : laws_markSpareS a k = (k + 3 * a.length, (List.range a.length).map (fun j : Nat => mkSpare (k + 3 * j))) := by
  unfold laws_markSpareS
  obtain ⟨t, q1, q2, q3, q4⟩ := loopR_total (b := laws_markSpareS_b1 a k) (fun i s => s.1 = k + 3 * i ∧ s.2.length = a.length ∧ ∀ j, j < i → s.2.getD j default = mkSpare (k + 3 * j)) (k := a.length - 0) (i := 0) (s := (k, a)) ⟨by simp, rfl, by intro j hj; omega⟩ (by
    intro j u _ hj ⟨h2, h3, h4⟩
    have w1 : ∀ m : Int, 0 ≤ m → m < 4611686018427387904 → IntKind.wrap .i64 (m + 1) = m + 1 := by intro m _ _; rw [IntKind.wrap_i64]; omega
    have w0 : ∀ m : Int, 0 ≤ m → m < 4611686018427387904 → IntKind.wrap .i64 m = m := by intro m _ _; rw [IntKind.wrap_i64]; omega
    refine ⟨_, rfl, ?_, ?_, ?_⟩
    · simp only [h2, IntKind.wrap_i64]; omega
    · simpa using h3
    · intro q hq
      simp only
      rw [lgetD_set]
      by_cases h : q = j
      · subst h
        rw [if_pos ⟨rfl, by omega⟩, h2]
        simp only [mkSpare]
        all_goals (try rw [Spare.mk.injEq])
        all_goals (and_intros <;> first | rfl | trivial | (simp only [IntKind.wrap_i64]; omega) | (congr 1; (simp only [IntKind.wrap_i64]; omega)))
      · rw [if_neg (fun hh => h hh.1)]
        exact h4 q (by omega))
  rw [q1]
  simp only [Nat.zero_add, Nat.sub_zero] at q2 q4
  simp only [q2]
  congr 1
  apply getD_ext
  · simpa using q3
  · intro i hi
    rw [q4 i (by omega)]
    simp [List.getD_eq_getElem?_getD]
    rw [List.getElem?_range (by omega)]
    rfl
theorem laws_markSpareS_k (a : List Spare) (k : Int) (h0 : 0 ≤ k) (h1 : k ≤ 1152921504606846976) (hl : a.length < 1099511627776) : (laws_markSpareS a k).1 = k + 3 * a.length := by
  rw [laws_markSpareS_eq a k h0 (by omega)]
theorem laws_heldSpareS_mark (a : List Spare) (k : Int) (h0 : 0 ≤ k) (hk : k ≤ 1152921504606846976) (h1 : a.length < 1099511627776) : laws_heldSpareS (laws_markSpareS a k).2 k = (laws_markSpareS a k).1 ∧ ¬ (laws_markSpareS a k).1 < 0 := by
  rw [laws_markSpareS_eq a k h0 (by omega)]
  refine ⟨?_, by simp only; omega⟩
  simp only
  unfold laws_heldSpareS
  obtain ⟨t, q1, q2⟩ := loopR_total (b := laws_heldSpareS_b1 ((List.range a.length).map (fun j : Nat => mkSpare (k + 3 * j))) k) (fun i s => s = k + 3 * (i : Int)) (k := ((List.range a.length).map (fun j : Nat => mkSpare (k + 3 * j))).length - 0) (i := 0) (s := k) (by simp) (by
    intro j u _ hj h2
    have hj2 : j < a.length := by simpa using hj
    have hg : ((List.range a.length).map (fun j : Nat => mkSpare (k + 3 * j))).getD j default = mkSpare (k + 3 * j) := by
      simp [List.getD_eq_getElem?_getD, hj2]
    subst h2
    refine ⟨k + 3 * ((j + 1 : Nat) : Int), ?_, rfl⟩
    have e1 : ∀ m : Int, 0 ≤ m → m < 4611686018427387904 → (m + 9223372036854775808) % 18446744073709551616 - 9223372036854775808 = m := by intro m _ _; omega
    simp only [laws_heldSpareS_b1]
    simp only [hg]
    simp only [mkSpare, IntKind.wrap_i64]
    (repeat rw [e1 _ (by omega) (by omega)])
    simp only [Int.add_assoc, Int.reduceAdd, bne_self_eq_false, cond_false, Except.ok.injEq]
    omega)
  rw [q1]
  simp only [q2]
  simp
end Go.Ab

namespace Go.Ab
open Go Go.Proofs
theorem laws_markStore_DD : DOk Try.prog (DD [(61, dM [true, false] D_laws_markEntryS), (98, dM [true, false] D_laws_markSpareS)]) := DD_cons D_laws_markEntryS_ok.e <| DD_cons D_laws_markSpareS_ok.e <| DD_nil _
def laws_markStore (a0 : Store) (a1 : Int) : Int × Store :=
  (((laws_markEntryS a0.Entries ((laws_markSpareS a0.Spares a1).1)).1), { a0 with Spares := (laws_markSpareS a0.Spares a1).2, Entries := (laws_markEntryS a0.Entries ((laws_markSpareS a0.Spares a1).1)).2 })
theorem laws_markStore_den (a0 : Store) (a1 : Int) (hp0 : 0 ≤ a1) (hp1 : a1 ≤ 1073741824) (hp2 : a0.Spares.length < 1099511627776) (hp3 : a0.Entries.length < 1099511627776) : DenM Try.prog 37 [.agg (eStoreO a0), .int .i64 a1] (.int .i64 ((laws_markStore a0 a1).1)) [(.agg [(ownL 63 3 eSpare (((laws_markStore a0 a1).2).Spares)), (ownL 66 3 eEntry (((laws_markStore a0 a1).2).Entries))]), .any] := by
  generalize hR : laws_markStore a0 a1 = r
  unfold laws_markStore at hR
  refine den_introM (gb := [true, false]) G_ok Try.func37 (by kernel_rfl) rfl Try.ntmps37 (by rw [Try.results37]) (by simp) ?_
  intro c hL hc hk
  obtain ⟨hL0, hL1, _⟩ := hL
  have hw0 : bwStore a0 := Store_lensO a0 hL0
  clear hL0 hL1
  simp only [adEL, adE, adRL, adR, ownL, encL, sv, List.nil_append, List.append_nil, List.cons_append, List.length_cons, List.length_nil, pars, Nat.zero_add, Nat.reduceAdd] at hk ⊢
  have hk1 := laws_markSpareS_k a0.Spares a1 hp0 (by omega) hp2
  refine AWP.seq ?_
  refine AWP.regS G_ok laws_markStore_DD hc (by kernel_rfl) (fun K hK => ?_); simp only [ea, absV, absVL, gv, sv, laws_markEntryS_sub, laws_markSpareS_sub, D_laws_markEntryS, D_laws_markSpareS, reduceCtorEq, reduceIte, Nat.reduceBEq, Nat.reduceAdd, Nat.reduceEqDiff, Nat.reduceLT, Nat.reduceLeDiff, Nat.reduceMul, Nat.reduceSub, BEq.rfl, beq_self_eq_true, Int.reduceToNat]
  (refine hK _ ?_)
  clear hK K
  refine AWP.seq ?_
  refine AWP.regS G_ok laws_markStore_DD hc (by kernel_rfl) (fun K hK => ?_); simp only [ea, absV, absVL, gv, sv, laws_markEntryS_sub, laws_markSpareS_sub, D_laws_markEntryS, D_laws_markSpareS, reduceCtorEq, reduceIte, Nat.reduceBEq, Nat.reduceAdd, Nat.reduceEqDiff, Nat.reduceLT, Nat.reduceLeDiff, Nat.reduceMul, Nat.reduceSub, BEq.rfl, beq_self_eq_true, Int.reduceToNat]
  (refine ⟨by (((try clear hK K); (repeat' (apply And.intro)) <;> first | trivial | omega)), hK _ ?_⟩)
  clear hK K
  refine AWP.seq ?_
  refine AWP.regS G_ok laws_markStore_DD hc (by kernel_rfl) (fun K hK => ?_); simp only [ea, absV, absVL, gv, sv, laws_markEntryS_sub, laws_markSpareS_sub, D_laws_markEntryS, D_laws_markSpareS, reduceCtorEq, reduceIte, Nat.reduceBEq, Nat.reduceAdd, Nat.reduceEqDiff, Nat.reduceLT, Nat.reduceLeDiff, Nat.reduceMul, Nat.reduceSub, BEq.rfl, beq_self_eq_true, Int.reduceToNat]
  (refine ⟨by (((try clear hK K); (repeat' (apply And.intro)) <;> first | trivial | omega)), hK _ ?_⟩)
  clear hK K
  refine AWP.seq ?_
  refine AWP.regS G_ok laws_markStore_DD hc (by kernel_rfl) (fun K hK => ?_); simp only [ea, absV, absVL, gv, sv, laws_markEntryS_sub, laws_markSpareS_sub, D_laws_markEntryS, D_laws_markSpareS, reduceCtorEq, reduceIte, Nat.reduceBEq, Nat.reduceAdd, Nat.reduceEqDiff, Nat.reduceLT, Nat.reduceLeDiff, Nat.reduceMul, Nat.reduceSub, BEq.rfl, beq_self_eq_true, Int.reduceToNat]
  (refine hK _ ?_)
  clear hK K
  refine AWP.ret ?_
  subst hR
  (simp only [en, si, ea, gv, sv, hk, reduceCtorEq, reduceIte, Nat.reduceBEq, Nat.reduceAdd, Nat.reduceEqDiff, Nat.reduceLT, Nat.reduceLeDiff, Nat.reduceMul, Nat.reduceSub, BEq.rfl, beq_self_eq_true, Int.reduceToNat]; (and_intros <;> (simp only [ob, ln, bdv, laws_markEntryS_len, laws_markSpareS_len, sv] at *; done)))
def D_laws_markStore : List AV → Option (AV × List AV × List Prop)
  | [x0, x1] => some (.int .i64 ((laws_markStore (rdG dStore x0) (rdI x1)).1), [(.agg [(ownL 63 3 eSpare (((laws_markStore (rdG dStore x0) (rdI x1)).2).Spares)), (ownL 66 3 eEntry (((laws_markStore (rdG dStore x0) (rdI x1)).2).Entries))]), .any], [wGO eStoreO dStore x0, wI .i64 x1, 0 ≤ (rdI x1), (rdI x1) ≤ 1073741824, (rdG dStore x0).Spares.length < 1099511627776, (rdG dStore x0).Entries.length < 1099511627776])
  | _ => none
theorem D_laws_markStore_ok : OkM Try.prog 37 D_laws_markStore := by
  intro xs r outs ob h ho
  unfold D_laws_markStore at h
  split at h
  · simp only [Option.some.injEq, Prod.mk.injEq] at h
    obtain ⟨rfl, rfl, rfl⟩ := h
    obtain ⟨h0, h1, hp0, hp1, hp2, hp3, _⟩ := ho
    exact DenM.sim (laws_markStore_den _ _ hp0 hp1 hp2 hp3) (simOL_cons (wGO_sim h0) <| simOL_cons (wI_sim h1).1 <| trivial)
  · cases h
end Go.Ab

namespace Go.Ab
open Go Go.Proofs
theorem loopR_keep {ρ σ : Type} {b : Nat → σ → Except ρ σ} (I : Nat → σ → Prop) : ∀ {k i : Nat} {s t : σ}, loopR b k i s = .ok t → I i s → (∀ j u v, i ≤ j → j < i + k → I j u → b j u = .ok v → I (j + 1) v) → I (i + k) t
  | 0, i, s, t, h, h0, _ => by simp only [loopR, Except.ok.injEq] at h; subst h; exact h0
  | k + 1, i, s, t, h, h0, hb => by
    simp only [loopR] at h
    cases hq : b i s with
    | error e => rw [hq] at h; simp at h
    | ok v =>
      rw [hq] at h
      have := loopR_keep I (k := k) (i := i + 1) h (hb i s v (Nat.le_refl _) (by omega) h0 hq) (fun j u v h1 h2 => hb j u v (by omega) (by omega))
      rw [show i + 1 + k = i + (k + 1) by omega] at this
      exact this
end Go.Ab

namespace Go.Ab
open Go Go.Proofs
theorem laws_heldSpareS_k (a : List Spare) (k : Int) (h0 : 0 ≤ k) (hk : k ≤ 1152921504606846976) (h1 : a.length < 1099511627776) : laws_heldSpareS a k < 0 ∨ (0 ≤ laws_heldSpareS a k ∧ laws_heldSpareS a k ≤ k + 3 * a.length) := by
  unfold laws_heldSpareS
  split
  · rename_i e he
    obtain ⟨j, t, g1, g2, g3⟩ := loopR_error he
    simp only [laws_heldSpareS_b1, Bool.cond_eq_ite] at g3
    left
    repeat' split at g3
    all_goals first | (cases g3; done) | (simp only [Except.error.injEq] at g3; omega) | (simp at g3)
  · rename_i s hs
    right
    have := loopR_keep (fun i s => 0 ≤ s ∧ s ≤ k + 3 * (i : Int)) hs (by simp; omega) (by
      intro j u v g1 g2 g3 g4
      simp only [laws_heldSpareS_b1, Bool.cond_eq_ite] at g4
      repeat' split at g4
      all_goals first | (cases g4; done) | (simp only [Except.ok.injEq, IntKind.wrap_i64] at g4; omega) | (simp at g4))
    simp at this
    omega
end Go.Ab

namespace Go.Ab
open Go Go.Proofs
theorem laws_heldStore_DD : DOk Try.prog (DD [(100, dP D_laws_heldEntryS), (99, dP D_laws_heldSpareS)]) := DD_cons D_laws_heldEntryS_ok.e <| DD_cons D_laws_heldSpareS_ok.e <| DD_nil _
def laws_heldStore (a0 : Store) (a1 : Int) : Int :=
  (bif decide ((laws_heldSpareS a0.Spares a1) < 0) then (-1) else (bif decide ((laws_heldEntryS a0.Entries (laws_heldSpareS a0.Spares a1)) < 0) then (-1) else (laws_heldEntryS a0.Entries (laws_heldSpareS a0.Spares a1))))
theorem laws_heldStore_den (a0 : Store) (a1 : Int) (hp0 : 0 ≤ a1) (hp1 : a1 ≤ 1073741824) (hp2 : a0.Spares.length < 1099511627776) (hp3 : a0.Entries.length < 1099511627776) : Den Try.prog 38 [.agg (eStore a0), .int .i64 a1] (.int .i64 (laws_heldStore a0 a1)) := by
  generalize hR : laws_heldStore a0 a1 = r
  unfold laws_heldStore at hR
  refine den_intro G_ok Try.func38 (by kernel_rfl) rfl Try.ntmps38 (by rw [Try.results38]) (by simp) rfl ?_
  intro c hL hc hk
  obtain ⟨hL0, hL1, _⟩ := hL
  have hw0 : bwStore a0 := Store_lens a0 hL0
  clear hL0 hL1
  simp only [pars, Nat.zero_add]
  have hk1 := laws_heldSpareS_k a0.Spares a1 hp0 (by omega) hp2
  refine AWP.seq ?_
  refine AWP.regS G_ok laws_heldStore_DD hc (by kernel_rfl) (fun K hK => ?_); simp only [ea, gv, sv, laws_markEntryS_sub, laws_markSpareS_sub, D_laws_heldEntryS, D_laws_heldSpareS, reduceCtorEq, reduceIte, Nat.reduceBEq, Nat.reduceAdd, Nat.reduceEqDiff, Nat.reduceLT, Nat.reduceLeDiff, Nat.reduceMul, Nat.reduceSub, BEq.rfl, beq_self_eq_true, Int.reduceToNat]
  (refine hK _ ?_)
  clear hK K
  refine AWP.seq ?_
  refine AWP.regS G_ok laws_heldStore_DD hc (by kernel_rfl) (fun K hK => ?_); simp only [ea, gv, sv, laws_markEntryS_sub, laws_markSpareS_sub, D_laws_heldEntryS, D_laws_heldSpareS, reduceCtorEq, reduceIte, Nat.reduceBEq, Nat.reduceAdd, Nat.reduceEqDiff, Nat.reduceLT, Nat.reduceLeDiff, Nat.reduceMul, Nat.reduceSub, BEq.rfl, beq_self_eq_true, Int.reduceToNat]
  (refine ⟨by (omega), hK _ ?_⟩)
  clear hK K
  refine AWP.seq ?_
  refine AWP.seq ?_
  refine AWP.regS G_ok laws_heldStore_DD hc (by kernel_rfl) (fun K hK => ?_); simp only [ea, gv, sv, laws_markEntryS_sub, laws_markSpareS_sub, D_laws_heldEntryS, D_laws_heldSpareS, reduceCtorEq, reduceIte, Nat.reduceBEq, Nat.reduceAdd, Nat.reduceEqDiff, Nat.reduceLT, Nat.reduceLeDiff, Nat.reduceMul, Nat.reduceSub, BEq.rfl, beq_self_eq_true, Int.reduceToNat]
  (refine hK _ ?_)
  clear hK K
  refine AWP.cond rfl (fun hb => ?_) (fun hb => ?_)
  · (simp only [hb, cond_true] at hR)
    refine AWP.seq ?_
    refine AWP.regS G_ok laws_heldStore_DD hc (by kernel_rfl) (fun K hK => ?_); simp only [ea, gv, sv, laws_markEntryS_sub, laws_markSpareS_sub, D_laws_heldEntryS, D_laws_heldSpareS, reduceCtorEq, reduceIte, Nat.reduceBEq, Nat.reduceAdd, Nat.reduceEqDiff, Nat.reduceLT, Nat.reduceLeDiff, Nat.reduceMul, Nat.reduceSub, BEq.rfl, beq_self_eq_true, Int.reduceToNat]
    (refine hK _ ?_)
    clear hK K
    refine AWP.ret ?_
    subst hR
    (simp only [en, si, ea, gv, sv, hk, reduceCtorEq, reduceIte, Nat.reduceBEq, Nat.reduceAdd, Nat.reduceEqDiff, Nat.reduceLT, Nat.reduceLeDiff, Nat.reduceMul, Nat.reduceSub, BEq.rfl, beq_self_eq_true, Int.reduceToNat]; done)
  · (simp only [hb, cond_false] at hR)
    refine AWP.skip ?_
    refine AWP.seq ?_
    refine AWP.regS G_ok laws_heldStore_DD hc (by kernel_rfl) (fun K hK => ?_); simp only [ea, gv, sv, laws_markEntryS_sub, laws_markSpareS_sub, D_laws_heldEntryS, D_laws_heldSpareS, reduceCtorEq, reduceIte, Nat.reduceBEq, Nat.reduceAdd, Nat.reduceEqDiff, Nat.reduceLT, Nat.reduceLeDiff, Nat.reduceMul, Nat.reduceSub, BEq.rfl, beq_self_eq_true, Int.reduceToNat]
    (refine ⟨by ((simp only [ob, ln, bdv, laws_markEntryS_len, laws_markSpareS_len, sv] at *; omega)), hK _ ?_⟩)
    clear hK K
    refine AWP.seq ?_
    refine AWP.seq ?_
    refine AWP.regS G_ok laws_heldStore_DD hc (by kernel_rfl) (fun K hK => ?_); simp only [ea, gv, sv, laws_markEntryS_sub, laws_markSpareS_sub, D_laws_heldEntryS, D_laws_heldSpareS, reduceCtorEq, reduceIte, Nat.reduceBEq, Nat.reduceAdd, Nat.reduceEqDiff, Nat.reduceLT, Nat.reduceLeDiff, Nat.reduceMul, Nat.reduceSub, BEq.rfl, beq_self_eq_true, Int.reduceToNat]
    (refine hK _ ?_)
    clear hK K
    refine AWP.cond rfl (fun hb => ?_) (fun hb => ?_)
    · (simp only [hb, cond_true] at hR)
      refine AWP.seq ?_
      refine AWP.regS G_ok laws_heldStore_DD hc (by kernel_rfl) (fun K hK => ?_); simp only [ea, gv, sv, laws_markEntryS_sub, laws_markSpareS_sub, D_laws_heldEntryS, D_laws_heldSpareS, reduceCtorEq, reduceIte, Nat.reduceBEq, Nat.reduceAdd, Nat.reduceEqDiff, Nat.reduceLT, Nat.reduceLeDiff, Nat.reduceMul, Nat.reduceSub, BEq.rfl, beq_self_eq_true, Int.reduceToNat]
      (refine hK _ ?_)
      clear hK K
      refine AWP.ret ?_
      subst hR
      (simp only [en, si, ea, gv, sv, hk, reduceCtorEq, reduceIte, Nat.reduceBEq, Nat.reduceAdd, Nat.reduceEqDiff, Nat.reduceLT, Nat.reduceLeDiff, Nat.reduceMul, Nat.reduceSub, BEq.rfl, beq_self_eq_true, Int.reduceToNat]; done)
    · (simp only [hb, cond_false] at hR)
      refine AWP.skip ?_
      refine AWP.seq ?_
      refine AWP.regS G_ok laws_heldStore_DD hc (by kernel_rfl) (fun K hK => ?_); simp only [ea, gv, sv, laws_markEntryS_sub, laws_markSpareS_sub, D_laws_heldEntryS, D_laws_heldSpareS, reduceCtorEq, reduceIte, Nat.reduceBEq, Nat.reduceAdd, Nat.reduceEqDiff, Nat.reduceLT, Nat.reduceLeDiff, Nat.reduceMul, Nat.reduceSub, BEq.rfl, beq_self_eq_true, Int.reduceToNat]
      (refine hK _ ?_)
      clear hK K
      refine AWP.ret ?_
      subst hR
      (simp only [en, si, ea, gv, sv, hk, reduceCtorEq, reduceIte, Nat.reduceBEq, Nat.reduceAdd, Nat.reduceEqDiff, Nat.reduceLT, Nat.reduceLeDiff, Nat.reduceMul, Nat.reduceSub, BEq.rfl, beq_self_eq_true, Int.reduceToNat]; done)
def D_laws_heldStore : DF
  | [x0, x1] => some (.int .i64 (laws_heldStore (rdG dStore x0) (rdI x1)), false, [wG eStore dStore x0, wI .i64 x1, 0 ≤ (rdI x1), (rdI x1) ≤ 1073741824, (rdG dStore x0).Spares.length < 1099511627776, (rdG dStore x0).Entries.length < 1099511627776])
  | _ => none
theorem D_laws_heldStore_ok : OkD Try.prog 38 D_laws_heldStore := by
  intro xs r z ob h ho
  unfold D_laws_heldStore at h
  split at h
  · simp only [Option.some.injEq, Prod.mk.injEq] at h
    obtain ⟨rfl, rfl, rfl⟩ := h
    obtain ⟨h0, h1, hp0, hp1, hp2, hp3, _⟩ := ho
    exact Den.sim (laws_heldStore_den _ _ hp0 hp1 hp2 hp3) (simOL_cons (wG_sim h0).1 <| simOL_cons (wI_sim h1).1 <| trivial) (noIdL_cons (wG_sim h0).2 <| noIdL_cons (wI_sim h1).2 <| rfl) rfl
  · cases h
end Go.Ab

namespace Go.Ab
open Go Go.Proofs
theorem laws_markStore_k (a : Store) (k : Int) (h0 : 0 ≤ k) (h1 : k ≤ 1073741824) (b1 : a.Spares.length < 1099511627776) (b2 : a.Entries.length < 1099511627776) : (laws_markStore a k).1 = k + 3 * a.Spares.length + 3 * a.Entries.length := by
  unfold laws_markStore
  simp only
  rw [laws_markEntryS_k _ _ (by rw [laws_markSpareS_k _ _ (by omega) (by omega) b1]; omega) (by rw [laws_markSpareS_k _ _ (by omega) (by omega) b1]; omega) b2, laws_markSpareS_k _ _ (by omega) (by omega) b1]
theorem laws_markStore_len (a : Store) (k : Int) : (laws_markStore a k).2.Spares.length = a.Spares.length ∧ (laws_markStore a k).2.Entries.length = a.Entries.length := by
  unfold laws_markStore
  simp only [laws_markSpareS_len, laws_markEntryS_len, and_self]
theorem laws_markStore_subS (a : Store) (k : Int) : subL (laws_markStore a k).2.Spares 0 a.Spares.length = (laws_markStore a k).2.Spares := by
  rw [← (laws_markStore_len a k).1]; exact subL_all _
theorem laws_markStore_subE (a : Store) (k : Int) : subL (laws_markStore a k).2.Entries 0 a.Entries.length = (laws_markStore a k).2.Entries := by
  rw [← (laws_markStore_len a k).2]; exact subL_all _
theorem laws_heldStore_mark (a : Store) (k : Int) (h0 : 0 ≤ k) (h1 : k ≤ 1073741824) (b1 : a.Spares.length < 1099511627776) (b2 : a.Entries.length < 1099511627776) : laws_heldStore (laws_markStore a k).2 k = (laws_markStore a k).1 ∧ ¬ (laws_markStore a k).1 < 0 := by
  have hk := laws_markStore_k a k h0 h1 b1 b2
  refine ⟨?_, by omega⟩
  rw [hk]
  have e1 := laws_heldSpareS_mark a.Spares k h0 (by omega) b1
  have e3 := laws_markSpareS_k a.Spares k h0 (by omega) b1
  have e2 := laws_heldEntryS_mark a.Entries (laws_markSpareS a.Spares k).1 (by omega) (by omega) b2
  have e4 := laws_markEntryS_k a.Entries (laws_markSpareS a.Spares k).1 (by omega) (by omega) b2
  unfold laws_heldStore laws_markStore
  simp only [e1.1, e2.1]
  rw [decide_eq_false e1.2, decide_eq_false e2.2]
  simp only [cond_false]
  omega
end Go.Ab

namespace Go.Ab
open Go Go.Proofs
theorem impl_TakeAll_1_DD : DOk Try.prog (DD [(71, dP D_impl_isEntry)]) := DD_cons D_impl_isEntry_ok.e <| DD_nil _
def impl_TakeAll_1 (a0 : Entry) : Bool :=
  ((!(impl_isEntry a0)) || decide (a0.Amount < 0))
theorem impl_TakeAll_1_den (a0 : Entry)  : Den Try.prog 111 [.agg (eEntry a0)] (.bool (impl_TakeAll_1 a0)) := by
  generalize hR : impl_TakeAll_1 a0 = r
  unfold impl_TakeAll_1 at hR
  refine den_intro G_ok Try.func111 (by kernel_rfl) rfl Try.ntmps111 (by rw [Try.results111]) (by simp) rfl ?_
  intro c hL hc hk
  obtain ⟨hL0, _⟩ := hL
  have hw0 : bwEntry a0 := Entry_lens a0 hL0
  clear hL0
  simp only [pars, Nat.zero_add]
  refine AWP.seq ?_
  refine AWP.regS G_ok impl_TakeAll_1_DD hc (by kernel_rfl) (fun K hK => ?_); simp only [ea, gv, sv, D_impl_isEntry, reduceCtorEq, reduceIte, Nat.reduceBEq, Nat.reduceAdd, Nat.reduceEqDiff, Nat.reduceLT, Nat.reduceLeDiff, Nat.reduceMul, Nat.reduceSub, BEq.rfl, beq_self_eq_true, Int.reduceToNat]
  (refine hK _ ?_)
  clear hK K
  refine AWP.seq ?_
  refine AWP.regS G_ok impl_TakeAll_1_DD hc (by kernel_rfl) (fun K hK => ?_); simp only [ea, gv, sv, D_impl_isEntry, reduceCtorEq, reduceIte, Nat.reduceBEq, Nat.reduceAdd, Nat.reduceEqDiff, Nat.reduceLT, Nat.reduceLeDiff, Nat.reduceMul, Nat.reduceSub, BEq.rfl, beq_self_eq_true, Int.reduceToNat]
  (refine hK _ ?_)
  clear hK K
  refine AWP.ret ?_
  subst hR
  (simp only [en, si, ea, gv, sv, hk, reduceCtorEq, reduceIte, Nat.reduceBEq, Nat.reduceAdd, Nat.reduceEqDiff, Nat.reduceLT, Nat.reduceLeDiff, Nat.reduceMul, Nat.reduceSub, BEq.rfl, beq_self_eq_true, Int.reduceToNat]; done)
def D_impl_TakeAll_1 : DF
  | [x0] => some (.bool (impl_TakeAll_1 (rdG dEntry x0)), false, [wG eEntry dEntry x0])
  | _ => none
theorem D_impl_TakeAll_1_ok : OkD Try.prog 111 D_impl_TakeAll_1 := by
  intro xs r z ob h ho
  unfold D_impl_TakeAll_1 at h
  split at h
  · simp only [Option.some.injEq, Prod.mk.injEq] at h
    obtain ⟨rfl, rfl, rfl⟩ := h
    obtain ⟨h0, _⟩ := ho
    exact Den.sim (impl_TakeAll_1_den _ ) (simOL_cons (wG_sim h0).1 <| trivial) (noIdL_cons (wG_sim h0).2 <| rfl) rfl
  · cases h
end Go.Ab

namespace Go.Ab
open Go Go.Proofs
theorem slices_IndexFunc_Entry__impl_TakeAll_1_DD : DOk Try.prog (DD [(111, dP D_impl_TakeAll_1)]) := DD_cons D_impl_TakeAll_1_ok.e <| DD_nil _
def slices_IndexFunc_Entry__impl_TakeAll_1_b1 (a0 : (List Entry)) (i1 : Nat) (s1 : Unit) : Except (Int) (Unit) :=
  (bif (impl_TakeAll_1 (a0.getD i1 default)) then .error (i1 : Int) else .ok ())
def slices_IndexFunc_Entry__impl_TakeAll_1 (a0 : (List Entry)) : Int :=
  (match loopR (slices_IndexFunc_Entry__impl_TakeAll_1_b1 a0) (a0.length - 0) 0 () with | .error e => e | .ok s1 => (-1))
theorem slices_IndexFunc_Entry__impl_TakeAll_1_den (a0 : (List Entry))  : Den Try.prog 129 [encL 3 eEntry a0, .fn 111 0 []] (.int .i64 (slices_IndexFunc_Entry__impl_TakeAll_1 a0)) := by
  generalize hR : slices_IndexFunc_Entry__impl_TakeAll_1 a0 = r
  unfold slices_IndexFunc_Entry__impl_TakeAll_1 at hR
  refine den_intro G_ok Try.func129 (by kernel_rfl) rfl Try.ntmps129 (by rw [Try.results129]) (by simp) rfl ?_
  intro c hL hc hk
  obtain ⟨hL0, hL1, _⟩ := hL
  have hw0 : a0.length < 9223372036854775808 := Nat.lt_succ_of_le (lens_encL hL0).1
  have hw1 : ∀ v ∈ a0, bwEntry v := fun v hv => Entry_lens v ((lens_encL hL0).2 v hv)
  clear hL0 hL1
  simp only [pars, Nat.zero_add]
  refine AWP.seq ?_
  refine AWP.regS G_ok slices_IndexFunc_Entry__impl_TakeAll_1_DD hc (by kernel_rfl) (fun K hK => ?_); simp only [ea, gv, sv, D_impl_TakeAll_1, reduceCtorEq, reduceIte, Nat.reduceBEq, Nat.reduceAdd, Nat.reduceEqDiff, Nat.reduceLT, Nat.reduceLeDiff, Nat.reduceMul, Nat.reduceSub, BEq.rfl, beq_self_eq_true, Int.reduceToNat]
  (refine hK _ ?_)
  clear hK K
  refine AWP.seq ?_
  refine AWP.seq ?_
  refine AWP.regS G_ok slices_IndexFunc_Entry__impl_TakeAll_1_DD hc (by kernel_rfl) (fun K hK => ?_); simp only [ea, gv, sv, D_impl_TakeAll_1, reduceCtorEq, reduceIte, Nat.reduceBEq, Nat.reduceAdd, Nat.reduceEqDiff, Nat.reduceLT, Nat.reduceLeDiff, Nat.reduceMul, Nat.reduceSub, BEq.rfl, beq_self_eq_true, Int.reduceToNat]
  (refine hK _ ?_)
  clear hK K
  refine AWP.block ?_
  generalize hz1 : loopR (slices_IndexFunc_Entry__impl_TakeAll_1_b1 a0) (a0.length - 0) 0 () = z1 at hR
  refine AWP.range (slices_IndexFunc_Entry__impl_TakeAll_1_b1 a0) (fun i1 s1 => ⟨[(0, encL 3 eEntry a0), (1, .fn 111 0 []), (7, .int .i64 (a0.length : Int)), (8, .int .i64 (i1 : Int))], []⟩) (fun i1 s1 => True) (a0.length) 0 () [] hz1 (by (omega)) (by (trivial)) (by (simp only [si, ea, gv, sv, hk, reduceCtorEq, reduceIte, Nat.reduceBEq, Nat.reduceAdd, Nat.reduceEqDiff, Nat.reduceLT, Nat.reduceLeDiff, Nat.reduceMul, Nat.reduceSub, BEq.rfl, beq_self_eq_true, Int.reduceToNat]; trivial)) ?_
  clear hz1
  intro i1 s1 hi1 hW1 hz1
  refine AWP.seq ?_
  refine AWP.regS G_ok slices_IndexFunc_Entry__impl_TakeAll_1_DD hc (by kernel_rfl) (fun K hK => ?_); simp only [ea, gv, sv, D_impl_TakeAll_1, reduceCtorEq, reduceIte, Nat.reduceBEq, Nat.reduceAdd, Nat.reduceEqDiff, Nat.reduceLT, Nat.reduceLeDiff, Nat.reduceMul, Nat.reduceSub, BEq.rfl, beq_self_eq_true, Int.reduceToNat]
  (refine hK _ ?_)
  clear hK K
  refine AWP.seq ?_
  refine AWP.cond rfl (fun hb => ?_) (fun hb => ?_)
  · have hlt1 : i1 < a0.length := by ((simp only [ob, ln, bdv, sv] at *; omega))
    rw [loopR_lt hlt1] at hz1; simp only [slices_IndexFunc_Entry__impl_TakeAll_1_b1] at hz1
    refine AWP.skip ?_
    refine AWP.seq ?_
    refine AWP.block ?_
    refine AWP.seq ?_
    refine AWP.regS G_ok slices_IndexFunc_Entry__impl_TakeAll_1_DD hc (by kernel_rfl) (fun K hK => ?_); simp only [ea, gv, sv, D_impl_TakeAll_1, reduceCtorEq, reduceIte, Nat.reduceBEq, Nat.reduceAdd, Nat.reduceEqDiff, Nat.reduceLT, Nat.reduceLeDiff, Nat.reduceMul, Nat.reduceSub, BEq.rfl, beq_self_eq_true, Int.reduceToNat]
    (refine hK _ ?_)
    clear hK K
    refine AWP.seq ?_
    refine AWP.regS G_ok slices_IndexFunc_Entry__impl_TakeAll_1_DD hc (by kernel_rfl) (fun K hK => ?_); simp only [ea, gv, sv, D_impl_TakeAll_1, reduceCtorEq, reduceIte, Nat.reduceBEq, Nat.reduceAdd, Nat.reduceEqDiff, Nat.reduceLT, Nat.reduceLeDiff, Nat.reduceMul, Nat.reduceSub, BEq.rfl, beq_self_eq_true, Int.reduceToNat]
    (refine ⟨by (omega), hK _ ?_⟩)
    clear hK K
    refine AWP.cond rfl (fun hb => ?_) (fun hb => ?_)
    · (simp only [hb, cond_true] at hz1)
      refine AWP.seq ?_
      refine AWP.regS G_ok slices_IndexFunc_Entry__impl_TakeAll_1_DD hc (by kernel_rfl) (fun K hK => ?_); simp only [ea, gv, sv, D_impl_TakeAll_1, reduceCtorEq, reduceIte, Nat.reduceBEq, Nat.reduceAdd, Nat.reduceEqDiff, Nat.reduceLT, Nat.reduceLeDiff, Nat.reduceMul, Nat.reduceSub, BEq.rfl, beq_self_eq_true, Int.reduceToNat]
      (refine hK _ ?_)
      clear hK K
      refine AWP.ret ?_
      subst hz1
      dsimp only at hR
      subst hR
      (simp only [en, si, ea, gv, sv, hk, reduceCtorEq, reduceIte, Nat.reduceBEq, Nat.reduceAdd, Nat.reduceEqDiff, Nat.reduceLT, Nat.reduceLeDiff, Nat.reduceMul, Nat.reduceSub, BEq.rfl, beq_self_eq_true, Int.reduceToNat]; done)
    · (simp only [hb, cond_false] at hz1)
      refine AWP.skip ?_
      refine AWP.regS G_ok slices_IndexFunc_Entry__impl_TakeAll_1_DD hc (by kernel_rfl) (fun K hK => ?_); simp only [ea, gv, sv, D_impl_TakeAll_1, reduceCtorEq, reduceIte, Nat.reduceBEq, Nat.reduceAdd, Nat.reduceEqDiff, Nat.reduceLT, Nat.reduceLeDiff, Nat.reduceMul, Nat.reduceSub, BEq.rfl, beq_self_eq_true, Int.reduceToNat]
      (refine hK _ ?_)
      clear hK K
      exact ⟨_, [], hlt1, by (trivial), hz1, by (simp only [si, ea, gv, sv, hk, reduceCtorEq, reduceIte, Nat.reduceBEq, Nat.reduceAdd, Nat.reduceEqDiff, Nat.reduceLT, Nat.reduceLeDiff, Nat.reduceMul, Nat.reduceSub, BEq.rfl, beq_self_eq_true, Int.reduceToNat]; (and_intros <;> first | trivial | (rw [IntKind.wrap_i64]; omega)))⟩
  · obtain rfl : i1 = a0.length := by ((simp only [ob, ln, bdv, sv] at *; omega))
    rw [loopR_ge (Nat.le_refl _)] at hz1; subst hz1; dsimp only at hR
    refine AWP.exit ?_; refine exitTo_here ?_
    refine AWP.seq ?_
    refine AWP.regS G_ok slices_IndexFunc_Entry__impl_TakeAll_1_DD hc (by kernel_rfl) (fun K hK => ?_); simp only [ea, gv, sv, D_impl_TakeAll_1, reduceCtorEq, reduceIte, Nat.reduceBEq, Nat.reduceAdd, Nat.reduceEqDiff, Nat.reduceLT, Nat.reduceLeDiff, Nat.reduceMul, Nat.reduceSub, BEq.rfl, beq_self_eq_true, Int.reduceToNat]
    (refine hK _ ?_)
    clear hK K
    refine AWP.ret ?_
    subst hR
    (simp only [en, si, ea, gv, sv, hk, reduceCtorEq, reduceIte, Nat.reduceBEq, Nat.reduceAdd, Nat.reduceEqDiff, Nat.reduceLT, Nat.reduceLeDiff, Nat.reduceMul, Nat.reduceSub, BEq.rfl, beq_self_eq_true, Int.reduceToNat]; done)
def D_slices_IndexFunc_Entry__impl_TakeAll_1 : DF
  | [x0, (.fn f111_1 kf111_1 [])] => some (.int .i64 (slices_IndexFunc_Entry__impl_TakeAll_1 (rdL dEntry x0)), false, [wL 3 eEntry dEntry x0, f111_1 = 111, kf111_1 = 0])
  | _ => none
theorem D_slices_IndexFunc_Entry__impl_TakeAll_1_ok : OkD Try.prog 129 D_slices_IndexFunc_Entry__impl_TakeAll_1 := by
  intro xs r z ob h ho
  unfold D_slices_IndexFunc_Entry__impl_TakeAll_1 at h
  split at h
  · simp only [Option.some.injEq, Prod.mk.injEq] at h
    obtain ⟨rfl, rfl, rfl⟩ := h
    obtain ⟨h0, qf111_1, qkf111_1, _⟩ := ho
    exact Den.sim (slices_IndexFunc_Entry__impl_TakeAll_1_den _ ) (simOL_cons (wL_sim h0).1 <| simOL_cons (by subst qf111_1 qkf111_1; exact simO_refl _) <| trivial) (noIdL_cons (wL_sim h0).2 <| noIdL_cons (by rfl) <| rfl) rfl
  · cases h
end Go.Ab

namespace Go.Ab
open Go Go.Proofs
theorem slices_ContainsFunc_Entry__impl_TakeAll_1_DD : DOk Try.prog (DD [(129, dP D_slices_IndexFunc_Entry__impl_TakeAll_1)]) := DD_cons D_slices_IndexFunc_Entry__impl_TakeAll_1_ok.e <| DD_nil _
def slices_ContainsFunc_Entry__impl_TakeAll_1 (a0 : (List Entry)) : Bool :=
  decide (0 ≤ (slices_IndexFunc_Entry__impl_TakeAll_1 a0))
theorem slices_ContainsFunc_Entry__impl_TakeAll_1_den (a0 : (List Entry))  : Den Try.prog 110 [encL 3 eEntry a0, .fn 111 0 []] (.bool (slices_ContainsFunc_Entry__impl_TakeAll_1 a0)) := by
  generalize hR : slices_ContainsFunc_Entry__impl_TakeAll_1 a0 = r
  unfold slices_ContainsFunc_Entry__impl_TakeAll_1 at hR
  refine den_intro G_ok Try.func110 (by kernel_rfl) rfl Try.ntmps110 (by rw [Try.results110]) (by simp) rfl ?_
  intro c hL hc hk
  obtain ⟨hL0, hL1, _⟩ := hL
  have hw0 : a0.length < 9223372036854775808 := Nat.lt_succ_of_le (lens_encL hL0).1
  have hw1 : ∀ v ∈ a0, bwEntry v := fun v hv => Entry_lens v ((lens_encL hL0).2 v hv)
  clear hL0 hL1
  simp only [pars, Nat.zero_add]
  refine AWP.seq ?_
  refine AWP.regS G_ok slices_ContainsFunc_Entry__impl_TakeAll_1_DD hc (by kernel_rfl) (fun K hK => ?_); simp only [ea, gv, sv, D_slices_IndexFunc_Entry__impl_TakeAll_1, reduceCtorEq, reduceIte, Nat.reduceBEq, Nat.reduceAdd, Nat.reduceEqDiff, Nat.reduceLT, Nat.reduceLeDiff, Nat.reduceMul, Nat.reduceSub, BEq.rfl, beq_self_eq_true, Int.reduceToNat]
  (refine hK _ ?_)
  clear hK K
  refine AWP.seq ?_
  refine AWP.regS G_ok slices_ContainsFunc_Entry__impl_TakeAll_1_DD hc (by kernel_rfl) (fun K hK => ?_); simp only [ea, gv, sv, D_slices_IndexFunc_Entry__impl_TakeAll_1, reduceCtorEq, reduceIte, Nat.reduceBEq, Nat.reduceAdd, Nat.reduceEqDiff, Nat.reduceLT, Nat.reduceLeDiff, Nat.reduceMul, Nat.reduceSub, BEq.rfl, beq_self_eq_true, Int.reduceToNat]
  (refine hK _ ?_)
  clear hK K
  refine AWP.ret ?_
  subst hR
  (simp only [en, si, ea, gv, sv, hk, reduceCtorEq, reduceIte, Nat.reduceBEq, Nat.reduceAdd, Nat.reduceEqDiff, Nat.reduceLT, Nat.reduceLeDiff, Nat.reduceMul, Nat.reduceSub, BEq.rfl, beq_self_eq_true, Int.reduceToNat]; done)
def D_slices_ContainsFunc_Entry__impl_TakeAll_1 : DF
  | [x0, (.fn f111_1 kf111_1 [])] => some (.bool (slices_ContainsFunc_Entry__impl_TakeAll_1 (rdL dEntry x0)), false, [wL 3 eEntry dEntry x0, f111_1 = 111, kf111_1 = 0])
  | _ => none
theorem D_slices_ContainsFunc_Entry__impl_TakeAll_1_ok : OkD Try.prog 110 D_slices_ContainsFunc_Entry__impl_TakeAll_1 := by
  intro xs r z ob h ho
  unfold D_slices_ContainsFunc_Entry__impl_TakeAll_1 at h
  split at h
  · simp only [Option.some.injEq, Prod.mk.injEq] at h
    obtain ⟨rfl, rfl, rfl⟩ := h
    obtain ⟨h0, qf111_1, qkf111_1, _⟩ := ho
    exact Den.sim (slices_ContainsFunc_Entry__impl_TakeAll_1_den _ ) (simOL_cons (wL_sim h0).1 <| simOL_cons (by subst qf111_1 qkf111_1; exact simO_refl _) <| trivial) (noIdL_cons (wL_sim h0).2 <| noIdL_cons (by rfl) <| rfl) rfl
  · cases h
end Go.Ab

namespace Go.Ab
open Go Go.Proofs
theorem impl_TakeAll_DD : DOk Try.prog (DD [(102, dP D_impl_isDay), (105, dP D_impl_Store_put), (110, dP D_slices_ContainsFunc_Entry__impl_TakeAll_1), (18, dP D_impl_ValidStore), (95, dP D_impl_clone_Spare), (97, dP D_impl_clone_Entry)]) := DD_cons D_impl_isDay_ok.e <| DD_cons D_impl_Store_put_ok.e <| DD_cons D_slices_ContainsFunc_Entry__impl_TakeAll_1_ok.e <| DD_cons D_impl_ValidStore_ok.e <| DD_cons D_impl_clone_Spare_ok.e <| DD_cons D_impl_clone_Entry_ok.e <| DD_nil _
def impl_TakeAll_b1 (a0 : Store) (a1 : Int) (a2 : (List Entry)) (i1 : Nat) (s1 : List Spare × List Entry) : Except ((Store × Int)) (List Spare × List Entry) :=
  (bif (((impl_Store_put ({ Spares := s1.1, Entries := s1.2 : Store }) ({ Day := a1, Item := (a2.getD i1 default).Item, Amount := IntKind.wrap .i64 (0 - ((a2.getD i1 default).Amount)) : Entry })).2) != 0) then .error ({ Spares := [], Entries := [] : Store }, (impl_Store_put ({ Spares := s1.1, Entries := s1.2 : Store }) ({ Day := a1, Item := (a2.getD i1 default).Item, Amount := IntKind.wrap .i64 (0 - ((a2.getD i1 default).Amount)) : Entry })).2) else .ok (((impl_Store_put ({ Spares := s1.1, Entries := s1.2 : Store }) ({ Day := a1, Item := (a2.getD i1 default).Item, Amount := IntKind.wrap .i64 (0 - ((a2.getD i1 default).Amount)) : Entry })).1).Spares, ((impl_Store_put ({ Spares := s1.1, Entries := s1.2 : Store }) ({ Day := a1, Item := (a2.getD i1 default).Item, Amount := IntKind.wrap .i64 (0 - ((a2.getD i1 default).Amount)) : Entry })).1).Entries))
def impl_TakeAll (a0 : Store) (a1 : Int) (a2 : (List Entry)) : (Store × Int) :=
  (bif ((!(impl_ValidStore a0)) || (slices_ContainsFunc_Entry__impl_TakeAll_1 a2)) then ({ Spares := [], Entries := [] : Store }, 1) else (bif (!(impl_isDay a1)) then ({ Spares := [], Entries := [] : Store }, 2) else (match loopR (impl_TakeAll_b1 a0 a1 a2) (a2.length - 0) 0 ((impl_clone_Spare a0.Spares), (impl_clone_Entry a0.Entries)) with | .error e => e | .ok s1 => ({ Spares := s1.1, Entries := s1.2 : Store }, 0))))
theorem impl_TakeAll_den (a0 : Store) (a1 : Int) (a2 : (List Entry)) (hb0 : bdStore a0) (hb1 : a2.length < 1099511627776) (hb2 : ∀ v ∈ a2, bdEntry v) : Den Try.prog 59 [.agg (eStore a0), .int .i64 a1, encL 3 eEntry a2] (.tup [.agg (eStoreO ((impl_TakeAll a0 a1 a2).1)), .int .i64 ((impl_TakeAll a0 a1 a2).2)]) := by
  generalize hR : impl_TakeAll a0 a1 a2 = r
  unfold impl_TakeAll at hR
  refine den_intro G_ok Try.func59 (by kernel_rfl) rfl Try.ntmps59 (by rw [Try.results59]) (by simp) rfl ?_
  intro c hL hc hk
  obtain ⟨hL0, hL1, hL2, _⟩ := hL
  have hw0 : bwStore a0 := Store_lens a0 hL0
  have hw1 : a2.length < 9223372036854775808 := Nat.lt_succ_of_le (lens_encL hL2).1
  have hw2 : ∀ v ∈ a2, bwEntry v := fun v hv => Entry_lens v ((lens_encL hL2).2 v hv)
  clear hL0 hL1 hL2
  simp only [pars, Nat.zero_add]
  refine AWP.seq ?_
  refine AWP.regS G_ok impl_TakeAll_DD hc (by kernel_rfl) (fun K hK => ?_); simp only [ea, gv, sv, D_impl_isDay, D_impl_Store_put, D_slices_ContainsFunc_Entry__impl_TakeAll_1, D_impl_ValidStore, D_impl_clone_Spare, D_impl_clone_Entry, reduceCtorEq, reduceIte, Nat.reduceBEq, Nat.reduceAdd, Nat.reduceEqDiff, Nat.reduceLT, Nat.reduceLeDiff, Nat.reduceMul, Nat.reduceSub, BEq.rfl, beq_self_eq_true, Int.reduceToNat]
  (refine hK _ ?_)
  clear hK K
  refine AWP.seq ?_
  refine AWP.seq ?_
  refine AWP.regS G_ok impl_TakeAll_DD hc (by kernel_rfl) (fun K hK => ?_); simp only [ea, gv, sv, D_impl_isDay, D_impl_Store_put, D_slices_ContainsFunc_Entry__impl_TakeAll_1, D_impl_ValidStore, D_impl_clone_Spare, D_impl_clone_Entry, reduceCtorEq, reduceIte, Nat.reduceBEq, Nat.reduceAdd, Nat.reduceEqDiff, Nat.reduceLT, Nat.reduceLeDiff, Nat.reduceMul, Nat.reduceSub, BEq.rfl, beq_self_eq_true, Int.reduceToNat]
  (refine ⟨by (trivial), hK _ ?_⟩)
  clear hK K
  refine AWP.cond rfl (fun hb => ?_) (fun hb => ?_)
  · (simp only [hb, cond_true] at hR)
    refine AWP.seq ?_
    refine AWP.regS G_ok impl_TakeAll_DD hc (by kernel_rfl) (fun K hK => ?_); simp only [ea, gv, sv, D_impl_isDay, D_impl_Store_put, D_slices_ContainsFunc_Entry__impl_TakeAll_1, D_impl_ValidStore, D_impl_clone_Spare, D_impl_clone_Entry, reduceCtorEq, reduceIte, Nat.reduceBEq, Nat.reduceAdd, Nat.reduceEqDiff, Nat.reduceLT, Nat.reduceLeDiff, Nat.reduceMul, Nat.reduceSub, BEq.rfl, beq_self_eq_true, Int.reduceToNat]
    (refine hK _ ?_)
    clear hK K
    refine AWP.ret ?_
    subst hR
    (simp only [en, si, ea, gv, sv, hk, reduceCtorEq, reduceIte, Nat.reduceBEq, Nat.reduceAdd, Nat.reduceEqDiff, Nat.reduceLT, Nat.reduceLeDiff, Nat.reduceMul, Nat.reduceSub, BEq.rfl, beq_self_eq_true, Int.reduceToNat]; done)
  · (simp only [hb, cond_false] at hR)
    refine AWP.skip ?_
    refine AWP.seq ?_
    refine AWP.seq ?_
    refine AWP.regS G_ok impl_TakeAll_DD hc (by kernel_rfl) (fun K hK => ?_); simp only [ea, gv, sv, D_impl_isDay, D_impl_Store_put, D_slices_ContainsFunc_Entry__impl_TakeAll_1, D_impl_ValidStore, D_impl_clone_Spare, D_impl_clone_Entry, reduceCtorEq, reduceIte, Nat.reduceBEq, Nat.reduceAdd, Nat.reduceEqDiff, Nat.reduceLT, Nat.reduceLeDiff, Nat.reduceMul, Nat.reduceSub, BEq.rfl, beq_self_eq_true, Int.reduceToNat]
    (refine hK _ ?_)
    clear hK K
    refine AWP.cond rfl (fun hb => ?_) (fun hb => ?_)
    · (simp only [hb, cond_true] at hR)
      refine AWP.seq ?_
      refine AWP.regS G_ok impl_TakeAll_DD hc (by kernel_rfl) (fun K hK => ?_); simp only [ea, gv, sv, D_impl_isDay, D_impl_Store_put, D_slices_ContainsFunc_Entry__impl_TakeAll_1, D_impl_ValidStore, D_impl_clone_Spare, D_impl_clone_Entry, reduceCtorEq, reduceIte, Nat.reduceBEq, Nat.reduceAdd, Nat.reduceEqDiff, Nat.reduceLT, Nat.reduceLeDiff, Nat.reduceMul, Nat.reduceSub, BEq.rfl, beq_self_eq_true, Int.reduceToNat]
      (refine hK _ ?_)
      clear hK K
      refine AWP.ret ?_
      subst hR
      (simp only [en, si, ea, gv, sv, hk, reduceCtorEq, reduceIte, Nat.reduceBEq, Nat.reduceAdd, Nat.reduceEqDiff, Nat.reduceLT, Nat.reduceLeDiff, Nat.reduceMul, Nat.reduceSub, BEq.rfl, beq_self_eq_true, Int.reduceToNat]; done)
    · (simp only [hb, cond_false] at hR)
      refine AWP.skip ?_
      refine AWP.seq ?_
      refine AWP.regP mixed G_ok impl_TakeAll_DD hc 8 [0, 1, 3, 4] (.alt 2 [] [3, 4] (.alt 5 [6] [6] (.alt 7 [] [6] .leaf .stop) (.alt 7 [] [3, 4] (.alt 5 [6] [6] .leaf .stop) .stop)) (.alt 7 [] [0, 1, 3, 4] (.alt 2 [] [3, 4] (.alt 5 [6] [6] .leaf .stop) .stop) .stop)) (by kernel_rfl) (by kernel_rfl) (by kernel_rfl) (fun K hK => ?_)
      refine join_sim ⟨[(1, .int .i64 a1), (2, encL 3 eEntry a2), (6, .ptr 0 0), (8, .ptr 1 0)], [.box [.nils, .nils], .box [.ref 2 3 0 ((impl_clone_Spare a0.Spares).length), .ref 3 3 0 ((impl_clone_Entry a0.Entries).length)], .arr 63 3 (impl_clone_Spare a0.Spares).length (fun j => eSpare ((impl_clone_Spare a0.Spares).getD j default)), .arr 66 3 (impl_clone_Entry a0.Entries).length (fun j => eEntry ((impl_clone_Entry a0.Entries).getD j default))]⟩ hK ?_ (fun hJ => ?_)
      rotate_left
      · simp only [rootP, runN, runP, recheck, nthO, ea, gv, sv, D_impl_isDay, D_impl_Store_put, D_slices_ContainsFunc_Entry__impl_TakeAll_1, D_impl_ValidStore, D_impl_clone_Spare, D_impl_clone_Entry, reduceCtorEq, reduceIte, Nat.reduceBEq, Nat.reduceAdd, Nat.reduceEqDiff, Nat.reduceLT, Nat.reduceLeDiff, Nat.reduceMul, Nat.reduceSub, BEq.rfl, beq_self_eq_true, Int.reduceToNat]
        repeat' apply And.intro
        all_goals first | (refine hJ _ [1, 4, 2, 3] ?_; (simp only [si, ea, gv, sv, hk, reduceCtorEq, reduceIte, Nat.reduceBEq, Nat.reduceAdd, Nat.reduceEqDiff, Nat.reduceLT, Nat.reduceLeDiff, Nat.reduceMul, Nat.reduceSub, BEq.rfl, beq_self_eq_true, Int.reduceToNat]; trivial)) | (refine hJ _ [1, 3, 2, 4] ?_; (simp only [si, ea, gv, sv, hk, reduceCtorEq, reduceIte, Nat.reduceBEq, Nat.reduceAdd, Nat.reduceEqDiff, Nat.reduceLT, Nat.reduceLeDiff, Nat.reduceMul, Nat.reduceSub, BEq.rfl, beq_self_eq_true, Int.reduceToNat]; trivial)) | (refine hJ _ [1, 2, 3, 4] ?_; (simp only [si, ea, gv, sv, hk, reduceCtorEq, reduceIte, Nat.reduceBEq, Nat.reduceAdd, Nat.reduceEqDiff, Nat.reduceLT, Nat.reduceLeDiff, Nat.reduceMul, Nat.reduceSub, BEq.rfl, beq_self_eq_true, Int.reduceToNat]; trivial)) | (first | (simp only [ob, ln, bdv, impl_clone_Spare_id, impl_clone_Entry_id, sv] at *; omega) | ((try clear hK K); (repeat' (intro _)) <;> (simp only [ob, ln, bdv, impl_clone_Spare_id, impl_clone_Entry_id, sv] at *; (simp_all; done))))
      clear hK K
      refine AWP.seq ?_
      refine AWP.seq ?_
      refine AWP.regS G_ok impl_TakeAll_DD hc (by kernel_rfl) (fun K hK => ?_); simp only [ea, gv, sv, D_impl_isDay, D_impl_Store_put, D_slices_ContainsFunc_Entry__impl_TakeAll_1, D_impl_ValidStore, D_impl_clone_Spare, D_impl_clone_Entry, reduceCtorEq, reduceIte, Nat.reduceBEq, Nat.reduceAdd, Nat.reduceEqDiff, Nat.reduceLT, Nat.reduceLeDiff, Nat.reduceMul, Nat.reduceSub, BEq.rfl, beq_self_eq_true, Int.reduceToNat]
      (refine hK _ ?_)
      clear hK K
      refine AWP.block ?_
      generalize hz1 : loopR (impl_TakeAll_b1 a0 a1 a2) (a2.length - 0) 0 ((impl_clone_Spare a0.Spares), (impl_clone_Entry a0.Entries)) = z1 at hR
      refine AWP.range (impl_TakeAll_b1 a0 a1 a2) (fun i1 s1 => ⟨[(1, .int .i64 a1), (6, .ptr 0 0), (8, .ptr 1 0), (32, encL 3 eEntry a2), (33, .int .i64 (a2.length : Int)), (34, .int .i64 (i1 : Int))], [.box [.nils, .nils], .box [.ref 2 3 0 s1.1.length, .ref 3 3 0 s1.2.length], .arr 63 3 s1.1.length (fun j => eSpare (s1.1.getD j default)), .arr 66 3 s1.2.length (fun j => eEntry (s1.2.getD j default))]⟩) (fun i1 s1 => s1.2.length ≤ 48 ∧ s1.1.length ≤ 16 ∧ (∀ v ∈ s1.1, bdSpare v) ∧ ∀ v ∈ s1.2, bdEntry v) (a2.length) 0 ((impl_clone_Spare a0.Spares), (impl_clone_Entry a0.Entries)) [0, 1, 2, 3] hz1 (by (omega)) (by (have hv := impl_ValidStore_len a0 (by simp only [Bool.or_eq_false_iff, Bool.not_eq_false'] at *; simp_all); simp only [impl_clone_Spare_id, impl_clone_Entry_id]; exact ⟨hv.2, hv.1, hb0.1.2, hb0.2.2⟩)) (by (simp only [si, ea, gv, sv, hk, reduceCtorEq, reduceIte, Nat.reduceBEq, Nat.reduceAdd, Nat.reduceEqDiff, Nat.reduceLT, Nat.reduceLeDiff, Nat.reduceMul, Nat.reduceSub, BEq.rfl, beq_self_eq_true, Int.reduceToNat]; trivial)) ?_
      clear hz1
      intro i1 s1 hi1 hW1 hz1
      have hV1 := hW1; obtain ⟨hV1_0, hV1_1, hV1_2, hV1_3⟩ := hV1
      refine AWP.seq ?_
      refine AWP.regS G_ok impl_TakeAll_DD hc (by kernel_rfl) (fun K hK => ?_); simp only [ea, gv, sv, D_impl_isDay, D_impl_Store_put, D_slices_ContainsFunc_Entry__impl_TakeAll_1, D_impl_ValidStore, D_impl_clone_Spare, D_impl_clone_Entry, reduceCtorEq, reduceIte, Nat.reduceBEq, Nat.reduceAdd, Nat.reduceEqDiff, Nat.reduceLT, Nat.reduceLeDiff, Nat.reduceMul, Nat.reduceSub, BEq.rfl, beq_self_eq_true, Int.reduceToNat]
      (refine hK _ ?_)
      clear hK K
      refine AWP.seq ?_
      refine AWP.cond rfl (fun hb => ?_) (fun hb => ?_)
      · have hlt1 : i1 < a2.length := by ((simp only [ob, ln, bdv, impl_clone_Spare_id, impl_clone_Entry_id, sv] at *; omega))
        rw [loopR_lt hlt1] at hz1; simp only [impl_TakeAll_b1] at hz1
        refine AWP.skip ?_
        refine AWP.seq ?_
        refine AWP.block ?_
        refine AWP.seq ?_
        refine AWP.regS G_ok impl_TakeAll_DD hc (by kernel_rfl) (fun K hK => ?_); simp only [ea, gv, sv, D_impl_isDay, D_impl_Store_put, D_slices_ContainsFunc_Entry__impl_TakeAll_1, D_impl_ValidStore, D_impl_clone_Spare, D_impl_clone_Entry, reduceCtorEq, reduceIte, Nat.reduceBEq, Nat.reduceAdd, Nat.reduceEqDiff, Nat.reduceLT, Nat.reduceLeDiff, Nat.reduceMul, Nat.reduceSub, BEq.rfl, beq_self_eq_true, Int.reduceToNat]
        (refine ⟨by (omega), hK _ ?_⟩)
        clear hK K
        refine AWP.seq ?_
        refine AWP.regS G_ok impl_TakeAll_DD hc (by kernel_rfl) (fun K hK => ?_); simp only [ea, gv, sv, D_impl_isDay, D_impl_Store_put, D_slices_ContainsFunc_Entry__impl_TakeAll_1, D_impl_ValidStore, D_impl_clone_Spare, D_impl_clone_Entry, reduceCtorEq, reduceIte, Nat.reduceBEq, Nat.reduceAdd, Nat.reduceEqDiff, Nat.reduceLT, Nat.reduceLeDiff, Nat.reduceMul, Nat.reduceSub, BEq.rfl, beq_self_eq_true, Int.reduceToNat]
        (refine ⟨by (((try clear hK K); (repeat' first | apply And.intro | intro _) <;> first | omega | solve_by_elim | (right; (simp only [si, ea, gv, sv, hk, reduceCtorEq, reduceIte, Nat.reduceBEq, Nat.reduceAdd, Nat.reduceEqDiff, Nat.reduceLT, Nat.reduceLeDiff, Nat.reduceMul, Nat.reduceSub, BEq.rfl, beq_self_eq_true, Int.reduceToNat]; (and_intros <;> (simp only [ob, ln, bdv, impl_clone_Spare_id, impl_clone_Entry_id, sv] at *; (grind [impl_ValidStore_len]))))) | (simp only [ob, ln, bdv, impl_clone_Spare_id, impl_clone_Entry_id, sv] at *; (simp_all; done)))), hK _ ?_⟩)
        clear hK K
        refine AWP.seq ?_
        refine AWP.seq ?_
        refine AWP.regS G_ok impl_TakeAll_DD hc (by kernel_rfl) (fun K hK => ?_); simp only [ea, gv, sv, D_impl_isDay, D_impl_Store_put, D_slices_ContainsFunc_Entry__impl_TakeAll_1, D_impl_ValidStore, D_impl_clone_Spare, D_impl_clone_Entry, reduceCtorEq, reduceIte, Nat.reduceBEq, Nat.reduceAdd, Nat.reduceEqDiff, Nat.reduceLT, Nat.reduceLeDiff, Nat.reduceMul, Nat.reduceSub, BEq.rfl, beq_self_eq_true, Int.reduceToNat]
        (refine hK _ ?_)
        clear hK K
        refine AWP.cond rfl (fun hb => ?_) (fun hb => ?_)
        · (simp only [hb, cond_true] at hz1)
          refine AWP.seq ?_
          refine AWP.regS G_ok impl_TakeAll_DD hc (by kernel_rfl) (fun K hK => ?_); simp only [ea, gv, sv, D_impl_isDay, D_impl_Store_put, D_slices_ContainsFunc_Entry__impl_TakeAll_1, D_impl_ValidStore, D_impl_clone_Spare, D_impl_clone_Entry, reduceCtorEq, reduceIte, Nat.reduceBEq, Nat.reduceAdd, Nat.reduceEqDiff, Nat.reduceLT, Nat.reduceLeDiff, Nat.reduceMul, Nat.reduceSub, BEq.rfl, beq_self_eq_true, Int.reduceToNat]
          (refine hK _ ?_)
          clear hK K
          refine AWP.ret ?_
          subst hz1
          dsimp only at hR
          subst hR
          (simp only [en, si, ea, gv, sv, hk, reduceCtorEq, reduceIte, Nat.reduceBEq, Nat.reduceAdd, Nat.reduceEqDiff, Nat.reduceLT, Nat.reduceLeDiff, Nat.reduceMul, Nat.reduceSub, BEq.rfl, beq_self_eq_true, Int.reduceToNat]; done)
        · (simp only [hb, cond_false] at hz1)
          refine AWP.skip ?_
          refine AWP.regS G_ok impl_TakeAll_DD hc (by kernel_rfl) (fun K hK => ?_); simp only [ea, gv, sv, D_impl_isDay, D_impl_Store_put, D_slices_ContainsFunc_Entry__impl_TakeAll_1, D_impl_ValidStore, D_impl_clone_Spare, D_impl_clone_Entry, reduceCtorEq, reduceIte, Nat.reduceBEq, Nat.reduceAdd, Nat.reduceEqDiff, Nat.reduceLT, Nat.reduceLeDiff, Nat.reduceMul, Nat.reduceSub, BEq.rfl, beq_self_eq_true, Int.reduceToNat]
          (refine hK _ ?_)
          clear hK K
          refine AWP.regS G_ok impl_TakeAll_DD hc (by kernel_rfl) (fun K hK => ?_); simp only [ea, gv, sv, D_impl_isDay, D_impl_Store_put, D_slices_ContainsFunc_Entry__impl_TakeAll_1, D_impl_ValidStore, D_impl_clone_Spare, D_impl_clone_Entry, reduceCtorEq, reduceIte, Nat.reduceBEq, Nat.reduceAdd, Nat.reduceEqDiff, Nat.reduceLT, Nat.reduceLeDiff, Nat.reduceMul, Nat.reduceSub, BEq.rfl, beq_self_eq_true, Int.reduceToNat]
          (refine hK _ ?_)
          clear hK K
          exact ⟨_, [0, 1, 5, 6], hlt1, by (have hk9 := impl_Store_put_keep ({ Spares := s1.1, Entries := s1.2 : Store }) ({ Day := a1, Item := (a2.getD i1 default).Item, Amount := IntKind.wrap .i64 (0 - ((a2.getD i1 default).Amount)) : Entry }) (by simp only; omega) (by simpa using hb); refine ⟨hk9.2.1, by rw [hk9.1]; exact hW1.2.1, by rw [hk9.1]; exact hW1.2.2.1, fun v hv => ?_⟩; rcases hk9.2.2.1 v hv with h | h; exact hW1.2.2.2 v h; subst h; exact bd_getD (p := bdEntry) hb2 (by decide) i1), hz1, by (simp only [si, ea, gv, sv, hk, reduceCtorEq, reduceIte, Nat.reduceBEq, Nat.reduceAdd, Nat.reduceEqDiff, Nat.reduceLT, Nat.reduceLeDiff, Nat.reduceMul, Nat.reduceSub, BEq.rfl, beq_self_eq_true, Int.reduceToNat]; (and_intros <;> first | trivial | (rw [IntKind.wrap_i64]; omega)))⟩
      · obtain rfl : i1 = a2.length := by ((simp only [ob, ln, bdv, impl_clone_Spare_id, impl_clone_Entry_id, sv] at *; omega))
        rw [loopR_ge (Nat.le_refl _)] at hz1; subst hz1; dsimp only at hR
        refine AWP.exit ?_; refine exitTo_here ?_
        refine AWP.seq ?_
        refine AWP.regS G_ok impl_TakeAll_DD hc (by kernel_rfl) (fun K hK => ?_); simp only [ea, gv, sv, D_impl_isDay, D_impl_Store_put, D_slices_ContainsFunc_Entry__impl_TakeAll_1, D_impl_ValidStore, D_impl_clone_Spare, D_impl_clone_Entry, reduceCtorEq, reduceIte, Nat.reduceBEq, Nat.reduceAdd, Nat.reduceEqDiff, Nat.reduceLT, Nat.reduceLeDiff, Nat.reduceMul, Nat.reduceSub, BEq.rfl, beq_self_eq_true, Int.reduceToNat]
        (refine hK _ ?_)
        clear hK K
        refine AWP.ret ?_
        subst hR
        (simp only [en, si, ea, gv, sv, hk, reduceCtorEq, reduceIte, Nat.reduceBEq, Nat.reduceAdd, Nat.reduceEqDiff, Nat.reduceLT, Nat.reduceLeDiff, Nat.reduceMul, Nat.reduceSub, BEq.rfl, beq_self_eq_true, Int.reduceToNat]; (and_intros <;> omega))
def D_impl_TakeAll : DF
  | [x0, x1, x2] => some (.tup [.agg (eStoreO ((impl_TakeAll (rdG dStore x0) (rdI x1) (rdL dEntry x2)).1)), .int .i64 ((impl_TakeAll (rdG dStore x0) (rdI x1) (rdL dEntry x2)).2)], false, [wG eStore dStore x0, wI .i64 x1, wL 3 eEntry dEntry x2, bdStore (rdG dStore x0), (rdL dEntry x2).length < 1099511627776, ∀ v ∈ (rdL dEntry x2), bdEntry v])
  | _ => none
def Dz_impl_TakeAll : DF
  | [x0, x1, x2] => some (.tup [.agg (eStoreO ((impl_TakeAll (rdG dStore x0) (rdI x1) (rdL dEntry x2)).1)), .int .i64 ((impl_TakeAll (rdG dStore x0) (rdI x1) (rdL dEntry x2)).2)], true, [wG eStore dStore x0, wI .i64 x1, wL 3 eEntry dEntry x2, bdStore (rdG dStore x0), (rdL dEntry x2).length < 1099511627776, ∀ v ∈ (rdL dEntry x2), bdEntry v])
  | _ => none
theorem D_impl_TakeAll_ok : OkD Try.prog 59 D_impl_TakeAll := by
  intro xs r z ob h ho
  unfold D_impl_TakeAll at h
  split at h
  · simp only [Option.some.injEq, Prod.mk.injEq] at h
    obtain ⟨rfl, rfl, rfl⟩ := h
    obtain ⟨h0, h1, h2, hb0, hb1, hb2, _⟩ := ho
    exact Den.sim (impl_TakeAll_den _ _ _ hb0 hb1 hb2) (simOL_cons (wG_sim h0).1 <| simOL_cons (wI_sim h1).1 <| simOL_cons (wL_sim h2).1 <| trivial) (noIdL_cons (wG_sim h0).2 <| noIdL_cons (wI_sim h1).2 <| noIdL_cons (wL_sim h2).2 <| rfl) rfl
  · cases h
theorem Dz_impl_TakeAll_ok : OkD Try.prog 59 Dz_impl_TakeAll := by
  intro xs r z ob h ho
  unfold Dz_impl_TakeAll at h
  split at h
  · simp only [Option.some.injEq, Prod.mk.injEq] at h
    obtain ⟨rfl, rfl, rfl⟩ := h
    obtain ⟨h0, h1, h2, hb0, hb1, hb2, _⟩ := ho
    exact Den.sim (impl_TakeAll_den _ _ _ hb0 hb1 hb2) (simOL_cons (wG_sim h0).1 <| simOL_cons (wI_sim h1).1 <| simOL_cons (wL_sim h2).1 <| trivial) (noIdL_cons (wG_sim h0).2 <| noIdL_cons (wI_sim h1).2 <| noIdL_cons (wL_sim h2).2 <| rfl) rfl
  · cases h
end Go.Ab
