/- The program's SameVisits returns what the reference's returns, for all arguments. No conditions. -/
import Derived.Test.YtlkapdaalmfoeaaSvA
import Derived.Deep.Slices
import Derived.Deep.Strs
import Derived.Test.YtlkapdaalmfoeaaRows
namespace Go.Ab
open Go Go.Proofs Go.Deep Go.ChangeShapes Go.WideShapes Go.ChangeAt Go.RowKit
set_option linter.unusedSimpArgs false

theorem vis_cells {H : Type} {enc : TypeId × Value → H} {W : World} {base : Nat} {sp : Nat → Bool} {hd : Bool} {fuel : Nat} {cs : List Value} {x : DataW H × List MemPlace}
    (h : DataW.trod enc Try.prog W base sp hd fuel 33 cs = some x) : ∃ v : Vis, cs = [.int .i64 v.a, .int .i64 v.b, .int .i64 v.c] := by
  obtain ⟨y0, y1, y2, n, _, hl, h0, h1, h2⟩ := trod_struct3 Try.underlying33 h
  have e33 : Try.prog.cellsOf 33 = 3 := by kernel_rfl
  have e2 : Try.prog.cellsOf 2 = 1 := by kernel_rfl
  simp only [e33, e2] at hl h0 h1 h2
  match cs, hl with
  | [c0, c1, c2], _ =>
    obtain ⟨n0, e0, _⟩ := DataW.trod_int Try.underlying2 h0
    obtain ⟨n1, e1, _⟩ := DataW.trod_int Try.underlying2 h1
    obtain ⟨n2, e2, _⟩ := DataW.trod_int Try.underlying2 h2
    simp at e0 e1 e2
    subst e0; subst e1; subst e2
    exact ⟨⟨n0, n1, n2⟩, rfl⟩

theorem vis_list {H : Type} {enc : TypeId × Value → H} {W : World} {base : Nat} {v : Value} {d : DataW H} {ps : List MemPlace} (hval : Value.okWide Try.prog W .any base 22 v) (h : DataW.Trod enc Try.prog W 0 (fun _ => true) true 22 v d ps) :
    ∃ a : List Vis, a.length ≤ 9223372036854775807 ∧ Rep W (fun _ => False) (encL 3 eVis a) noMap v [] := by
  obtain ⟨fuel, h⟩ := h
  obtain ⟨oa, len, cap, rfl⟩ := okWide_slice Try.underlying22 hval
  have e33 : Try.prog.cellsOf 33 = 3 := by kernel_rfl
  rcases open_slice Try.underlying22 h with ⟨h1, _⟩ | ⟨a, len', cap', m, n, D, Pl, h1, hb, hl, hm, hme, _, hel⟩
  · simp [Value.cells] at h1
    obtain ⟨rfl, rfl, rfl⟩ := h1
    exact ⟨[], by simp, by simp [encL, Rep]⟩
  · simp [Value.cells] at h1
    obtain ⟨rfl, rfl, rfl⟩ := h1
    simp only [if_true] at hme
    subst hme
    have hhas : a.spot = none ∧ a.block < W.heap.size := by
      simp only [Value.okWide, Try.underlying22, Cell.okWide, Cell.ok, World.has] at hval
      obtain ⟨_, _, _, h4, row, cells, h5, _⟩ := hval
      refine ⟨h4, ?_⟩
      rcases Nat.lt_or_ge a.block W.heap.size with h | h
      · exact h
      · simp [World.shape?, Array.getElem?_eq_none h] at h5
    obtain ⟨b, o, sp⟩ := a
    obtain ⟨rfl, hblt⟩ := hhas
    have hex : ∀ i, ∃ u : Vis, i < len → ∀ j x, [Value.int .i64 u.a, .int .i64 u.b, .int .i64 u.c][j]? = some x → W.cell? ⟨b, o + i * 3 + j, none⟩ = some x ∧ x.oneCell' = true := by
      intro i
      by_cases hi : i < len
      · obtain ⟨cs, hc, ht⟩ := hel i (by omega)
        obtain ⟨u, rfl⟩ := vis_cells ht
        refine ⟨u, fun _ j x hx => ?_⟩
        obtain ⟨_, _, hc3⟩ := World.cells?_some hc
        rw [e33] at hc3
        have hj : j < 3 := by
          rcases Nat.lt_or_ge j 3 with h | h
          · exact h
          · rw [List.getElem?_eq_none (by simpa using h)] at hx; cases hx
        have := hc3 j hj
        rw [hx] at this
        rw [Addr.add_lit, Addr.add_lit] at this
        refine ⟨this, ?_⟩
        match j, hj with
        | 0, _ => simp at hx; subst hx; rfl
        | 1, _ => simp at hx; subst hx; rfl
        | 2, _ => simp at hx; subst hx; rfl
      · exact ⟨default, fun h => absurd h hi⟩
    obtain ⟨g, hg⟩ := Classical.axiomOfChoice hex
    refine ⟨(List.range len).map g, ?_, ?_⟩
    · simp only [List.length_map, List.length_range]
      have : maxLen = 9223372036854775807 := by decide
      omega
    · simp only [encL, Rep]
      refine .inr ⟨b, o, m, fun i => [Value.int .i64 (g i).a, .int .i64 (g i).b, .int .i64 (g i).c], fun _ => [], by simp, by simpa using hl, hblt, ?_, by simp, trivial, by simp⟩
      intro i hi
      simp at hi
      have : ((List.range len).map g).getD i default = g i := by simp [List.getD_eq_getElem?_getD, hi]
      rw [this]
      refine ⟨?_, rfl, fun j u hu => hg i hi j u hu⟩
      simp only [eVis, RepL, Rep]
      exact ⟨_, _, [], [], rfl, rfl, ⟨rfl, rfl⟩, _, _, [], [], rfl, rfl, ⟨rfl, rfl⟩, _, _, [], [], rfl, rfl, ⟨rfl, rfl⟩, rfl, rfl⟩
end Go.Ab

namespace Go.Proofs.Ytlkapdaalmfoeaa
open Go Go.Ab Go.Proofs Go.Deep Go.ChangeShapes Go.WideShapes Go.ChangeAt Go.RowKit
theorem own1 : ownKnob Try.prog.godebug = none := by kernel_rfl
theorem laid1 : laidOutB Try.prog = true := by kernel_rfl

set_option maxRecDepth 100000 in
theorem same_lifted (os : Os) (started : os.Started) (H : Type) (enc : TypeId × Value → H) :
    ReturnsInHanded {} Try.checked os 3 .any (Rows.fnExactSameVisitsSpec.pre6 enc Try.prog Try.f3 Rows.fnExactSameVisitsRow.domain false) (Rows.fnExactSameVisitsSpec.post enc Try.prog Try.f3 false true false false) := by
  refine returnsInHanded_of_change (C := Try.checked) own1 started (by kernel_rfl) Try.func3
    (ChangeSpec.witness6 (enc := enc) (C := Try.checked) false ⟨#[], #[.slice none 0 0, .slice none 0 0], []⟩ 8 (by kernel_rfl) (by kernel_rfl) (by kernel_rfl) (by kernel_rfl)) ?_
  intro W base args ds gs before hval0 hW hcnd _
  have hval : ∀ (j : Nat) t v, Try.f3.params[j]? = some t → args[j]? = some v → Value.okWide Try.prog W .any base t v := hval0
  have hW' := hW
  obtain ⟨p, q, hA0, hV, rfl, hfz, hnd⟩ := hW
  have hA : DataW.TrodAll enc Try.prog W 0 (fun _ => true) true Try.f3.params.toList args.toList ds p := hA0
  rw [Try.params3] at hA hval
  obtain ⟨v0, v1, d0, d1, p0, p1, rfl, rfl, rfl, h0, h1⟩ := trodAll_two hA
  obtain ⟨a, ha, hra⟩ := vis_list (hval 0 22 v0 rfl rfl) h0
  obtain ⟨b, hb, hrb⟩ := vis_list (hval 1 22 v1 rfl rfl) h1
  have hgs : gs = [] := by
    cases gs with
    | nil => rfl
    | cons _ _ => exact hV.elim
  subst hgs
  exact law_post (tb := 4) laid1 rfl Try.underlying4 rfl (by kernel_rfl) (fun _ _ => ⟨rfl, rfl, rfl⟩) hW' (f3_den a b ha hb) (by simp only [RepL]; exact ⟨v0, [v1], [], [], rfl, rfl, hra, v1, [], [], [], rfl, rfl, hrb, rfl, rfl⟩)

theorem same_holds : Rows.FnExactSameVisitsSaid :=
  OpenClaim.holds_of_wide 3 Try.f3 rfl rfl rfl rfl rfl rfl rfl ⟨rfl, rfl, rfl, rfl, rfl⟩ rfl rfl rfl rfl rfl (by kernel_rfl) Try.func3 (by kernel_rfl)
    (of_decide_eq_true (by kernel_rfl)) (by unfold Func.isWrapper; first | (rw [if_pos (by decide +kernel)]; kernel_rfl) | (rw [if_neg (by decide +kernel)]; exact ⟨rfl, rfl⟩))
    (fun os started H enc _ => same_lifted os started H enc)
end Go.Proofs.Ytlkapdaalmfoeaa
