/- A part of a proof: walks of functions and lemmas of our own. No conditions. -/
import Derived.Test.YtpakbdamggpneaaGreatDoorTAk
import Derived.Test.YtpakbdamggpneaaGreatDoorTAs
import Derived.Test.YtpakbdamggpneaaGreatDoorTAn
import Derived.Test.YtpakbdamggpneaaGreatDoorTAo
import Derived.Test.YtpakbdamggpneaaGreatDoorTAm
import Derived.Test.YtpakbdamggpneaaGreatDoorTAq
import Derived.Test.YtpakbdamggpneaaGreatDoorTAi
import Derived.Test.YtpakbdamggpneaaGreatDoorTAj
import Derived.Test.YtpakbdamggpneaaGreatDoorRows
set_option linter.unusedSectionVars false
set_option linter.unusedVariables false
set_option linter.unusedSimpArgs false
namespace Go.Ab
open Go Go.Proofs
theorem impl_ReadEntry_DD : DOk Tryz.prog (DD [(12, dP D_impl_EntryText), (28, dP D_impl_SplitWords), (29, dP D_impl_ReadDate), (30, dP D_impl_ReadDecimal)]) := DD_cons D_impl_EntryText_ok.e <| DD_cons D_impl_SplitWords_ok.e <| DD_cons D_impl_ReadDate_ok.e <| DD_cons D_impl_ReadDecimal_ok.e <| DD_nil _
def impl_ReadEntry (a0 : (List UInt8)) : (Entry × Bool) :=
  (bif (((impl_SplitWords a0).length : Int) != 3) then ({ Day := 0, Item := [], Amount := 0 : Entry }, false) else (bif (((!((impl_ReadDate ((impl_SplitWords a0).getD 0 default)).2)) || (!((impl_ReadDecimal ((impl_SplitWords a0).getD 2 default)).2))) || ((impl_EntryText ({ Day := (impl_ReadDate ((impl_SplitWords a0).getD 0 default)).1, Item := ((impl_SplitWords a0).getD 1 default), Amount := (impl_ReadDecimal ((impl_SplitWords a0).getD 2 default)).1 : Entry })) != a0)) then ({ Day := 0, Item := [], Amount := 0 : Entry }, false) else ({ Day := (impl_ReadDate ((impl_SplitWords a0).getD 0 default)).1, Item := ((impl_SplitWords a0).getD 1 default), Amount := (impl_ReadDecimal ((impl_SplitWords a0).getD 2 default)).1 : Entry }, true)))
theorem impl_ReadEntry_den (a0 : (List UInt8)) (hb0 : a0.length < 1099511627776) (hp0 : a0.length ≤ 1048576) : Den Tryz.prog 11 [.str a0] (.tup [.agg (eEntry ((impl_ReadEntry a0).1)), .bool ((impl_ReadEntry a0).2)]) := by
  generalize hR : impl_ReadEntry a0 = r
  unfold impl_ReadEntry at hR
  refine den_intro G_ok Tryz.func11 (by kernel_rfl) rfl Tryz.ntmps11 (by rw [Tryz.results11]) (by simp) rfl ?_
  intro c hL hc hk
  obtain ⟨hL0, _⟩ := hL
  have hw0 : a0.length < 9223372036854775808 := Nat.lt_succ_of_le hL0
  clear hL0
  simp only [pars, Nat.zero_add]
  have hs9 := impl_SplitWords_len a0 (by omega)
  have hs0 := getD_len hs9 0
  have hs1 := getD_len hs9 1
  have hs2 := getD_len hs9 2
  refine AWP.seq ?_
  refine AWP.regS G_ok impl_ReadEntry_DD hc (by kernel_rfl) (fun K hK => ?_); simp only [ea, gv, sv, D_impl_EntryText, D_impl_SplitWords, D_impl_ReadDate, D_impl_ReadDecimal, reduceCtorEq, reduceIte, Nat.reduceBEq, Nat.reduceAdd, Nat.reduceEqDiff, Nat.reduceLT, Nat.reduceLeDiff, Nat.reduceMul, Nat.reduceSub, BEq.rfl, beq_self_eq_true, Int.reduceToNat]
  (refine hK _ ?_)
  clear hK K
  refine AWP.seq ?_
  refine AWP.regS G_ok impl_ReadEntry_DD hc (by kernel_rfl) (fun K hK => ?_); simp only [ea, gv, sv, D_impl_EntryText, D_impl_SplitWords, D_impl_ReadDate, D_impl_ReadDecimal, reduceCtorEq, reduceIte, Nat.reduceBEq, Nat.reduceAdd, Nat.reduceEqDiff, Nat.reduceLT, Nat.reduceLeDiff, Nat.reduceMul, Nat.reduceSub, BEq.rfl, beq_self_eq_true, Int.reduceToNat]
  (refine ⟨by (trivial), hK _ ?_⟩)
  clear hK K
  refine AWP.seq ?_
  refine AWP.seq ?_
  refine AWP.regS G_ok impl_ReadEntry_DD hc (by kernel_rfl) (fun K hK => ?_); simp only [ea, gv, sv, D_impl_EntryText, D_impl_SplitWords, D_impl_ReadDate, D_impl_ReadDecimal, reduceCtorEq, reduceIte, Nat.reduceBEq, Nat.reduceAdd, Nat.reduceEqDiff, Nat.reduceLT, Nat.reduceLeDiff, Nat.reduceMul, Nat.reduceSub, BEq.rfl, beq_self_eq_true, Int.reduceToNat]
  (refine hK _ ?_)
  clear hK K
  refine AWP.cond rfl (fun hb => ?_) (fun hb => ?_)
  · (simp only [hb, cond_true] at hR)
    refine AWP.seq ?_
    refine AWP.regS G_ok impl_ReadEntry_DD hc (by kernel_rfl) (fun K hK => ?_); simp only [ea, gv, sv, D_impl_EntryText, D_impl_SplitWords, D_impl_ReadDate, D_impl_ReadDecimal, reduceCtorEq, reduceIte, Nat.reduceBEq, Nat.reduceAdd, Nat.reduceEqDiff, Nat.reduceLT, Nat.reduceLeDiff, Nat.reduceMul, Nat.reduceSub, BEq.rfl, beq_self_eq_true, Int.reduceToNat]
    (refine hK _ ?_)
    clear hK K
    refine AWP.ret ?_
    subst hR
    (simp only [en, si, ea, gv, sv, hk, reduceCtorEq, reduceIte, Nat.reduceBEq, Nat.reduceAdd, Nat.reduceEqDiff, Nat.reduceLT, Nat.reduceLeDiff, Nat.reduceMul, Nat.reduceSub, BEq.rfl, beq_self_eq_true, Int.reduceToNat]; done)
  · (simp only [hb, cond_false] at hR)
    refine AWP.skip ?_
    refine AWP.seq ?_
    refine AWP.regS G_ok impl_ReadEntry_DD hc (by kernel_rfl) (fun K hK => ?_); simp only [ea, gv, sv, D_impl_EntryText, D_impl_SplitWords, D_impl_ReadDate, D_impl_ReadDecimal, reduceCtorEq, reduceIte, Nat.reduceBEq, Nat.reduceAdd, Nat.reduceEqDiff, Nat.reduceLT, Nat.reduceLeDiff, Nat.reduceMul, Nat.reduceSub, BEq.rfl, beq_self_eq_true, Int.reduceToNat]
    (refine ⟨by ((simp only [ob, ln, bdv, sv] at *; omega)), hK _ ?_⟩)
    clear hK K
    refine AWP.seq ?_
    refine AWP.regS G_ok impl_ReadEntry_DD hc (by kernel_rfl) (fun K hK => ?_); simp only [ea, gv, sv, D_impl_EntryText, D_impl_SplitWords, D_impl_ReadDate, D_impl_ReadDecimal, reduceCtorEq, reduceIte, Nat.reduceBEq, Nat.reduceAdd, Nat.reduceEqDiff, Nat.reduceLT, Nat.reduceLeDiff, Nat.reduceMul, Nat.reduceSub, BEq.rfl, beq_self_eq_true, Int.reduceToNat]
    (refine ⟨by ((simp only [ob, ln, bdv, sv] at *; omega)), hK _ ?_⟩)
    clear hK K
    refine AWP.seq ?_
    refine AWP.regS G_ok impl_ReadEntry_DD hc (by kernel_rfl) (fun K hK => ?_); simp only [ea, gv, sv, D_impl_EntryText, D_impl_SplitWords, D_impl_ReadDate, D_impl_ReadDecimal, reduceCtorEq, reduceIte, Nat.reduceBEq, Nat.reduceAdd, Nat.reduceEqDiff, Nat.reduceLT, Nat.reduceLeDiff, Nat.reduceMul, Nat.reduceSub, BEq.rfl, beq_self_eq_true, Int.reduceToNat]
    (refine ⟨by ((simp only [ob, ln, bdv, sv] at *; omega)), hK _ ?_⟩)
    clear hK K
    refine AWP.seq ?_
    refine AWP.seq ?_
    refine AWP.regS G_ok impl_ReadEntry_DD hc (by kernel_rfl) (fun K hK => ?_); simp only [ea, gv, sv, D_impl_EntryText, D_impl_SplitWords, D_impl_ReadDate, D_impl_ReadDecimal, reduceCtorEq, reduceIte, Nat.reduceBEq, Nat.reduceAdd, Nat.reduceEqDiff, Nat.reduceLT, Nat.reduceLeDiff, Nat.reduceMul, Nat.reduceSub, BEq.rfl, beq_self_eq_true, Int.reduceToNat]
    (refine ⟨by ((simp only [ob, ln, bdv, sv] at *; omega)), hK _ ?_⟩)
    clear hK K
    refine AWP.cond rfl (fun hb => ?_) (fun hb => ?_)
    · (simp only [hb, cond_true] at hR)
      refine AWP.seq ?_
      refine AWP.regS G_ok impl_ReadEntry_DD hc (by kernel_rfl) (fun K hK => ?_); simp only [ea, gv, sv, D_impl_EntryText, D_impl_SplitWords, D_impl_ReadDate, D_impl_ReadDecimal, reduceCtorEq, reduceIte, Nat.reduceBEq, Nat.reduceAdd, Nat.reduceEqDiff, Nat.reduceLT, Nat.reduceLeDiff, Nat.reduceMul, Nat.reduceSub, BEq.rfl, beq_self_eq_true, Int.reduceToNat]
      (refine hK _ ?_)
      clear hK K
      refine AWP.ret ?_
      subst hR
      (simp only [en, si, ea, gv, sv, hk, reduceCtorEq, reduceIte, Nat.reduceBEq, Nat.reduceAdd, Nat.reduceEqDiff, Nat.reduceLT, Nat.reduceLeDiff, Nat.reduceMul, Nat.reduceSub, BEq.rfl, beq_self_eq_true, Int.reduceToNat]; done)
    · (simp only [hb, cond_false] at hR)
      refine AWP.skip ?_
      refine AWP.seq ?_
      refine AWP.regS G_ok impl_ReadEntry_DD hc (by kernel_rfl) (fun K hK => ?_); simp only [ea, gv, sv, D_impl_EntryText, D_impl_SplitWords, D_impl_ReadDate, D_impl_ReadDecimal, reduceCtorEq, reduceIte, Nat.reduceBEq, Nat.reduceAdd, Nat.reduceEqDiff, Nat.reduceLT, Nat.reduceLeDiff, Nat.reduceMul, Nat.reduceSub, BEq.rfl, beq_self_eq_true, Int.reduceToNat]
      (refine hK _ ?_)
      clear hK K
      refine AWP.ret ?_
      subst hR
      (simp only [en, si, ea, gv, sv, hk, reduceCtorEq, reduceIte, Nat.reduceBEq, Nat.reduceAdd, Nat.reduceEqDiff, Nat.reduceLT, Nat.reduceLeDiff, Nat.reduceMul, Nat.reduceSub, BEq.rfl, beq_self_eq_true, Int.reduceToNat]; done)
def D_impl_ReadEntry : DF
  | [x0] => some (.tup [.agg (eEntry ((impl_ReadEntry (rdS x0)).1)), .bool ((impl_ReadEntry (rdS x0)).2)], false, [wS x0, (rdS x0).length < 1099511627776, (rdS x0).length ≤ 1048576])
  | _ => none
theorem D_impl_ReadEntry_ok : OkD Tryz.prog 11 D_impl_ReadEntry := by
  intro xs r z ob h ho
  unfold D_impl_ReadEntry at h
  split at h
  · simp only [Option.some.injEq, Prod.mk.injEq] at h
    obtain ⟨rfl, rfl, rfl⟩ := h
    obtain ⟨h0, hb0, hp0, _⟩ := ho
    exact Den.sim (impl_ReadEntry_den _ hb0 hp0) (simOL_cons (wS_sim h0).1 <| trivial) (noIdL_cons (wS_sim h0).2 <| rfl) rfl
  · cases h
end Go.Ab

namespace Go.Ab
open Go Go.Proofs
def spec_l29Read (a0 : (List UInt8)) : (Entry × Bool) :=
  (bif (((spec_l01Split a0 32).length : Int) != 3) then ({ Day := 0, Item := [], Amount := 0 : Entry }, false) else (bif (((!((spec_l03Read ((spec_l01Split a0 32).getD 0 default)).2)) || (!((spec_l01Number ((spec_l01Split a0 32).getD 2 default)).2))) || (!(spec_l29Entry ({ Day := (spec_l03Read ((spec_l01Split a0 32).getD 0 default)).1, Item := ((spec_l01Split a0 32).getD 1 default), Amount := (spec_l01Number ((spec_l01Split a0 32).getD 2 default)).1 : Entry })))) then ({ Day := 0, Item := [], Amount := 0 : Entry }, false) else ({ Day := (spec_l03Read ((spec_l01Split a0 32).getD 0 default)).1, Item := ((spec_l01Split a0 32).getD 1 default), Amount := (spec_l01Number ((spec_l01Split a0 32).getD 2 default)).1 : Entry }, true)))
end Go.Ab

namespace Go.Ab
open Go Go.Proofs
def spec_ReadEntry (a0 : (List UInt8)) : (Entry × Bool) :=
  ((spec_l29Read a0).1, (spec_l29Read a0).2)
end Go.Ab

namespace Go.Ab
open Go Go.Proofs
theorem entryOk (e : Entry) : impl_isEntry e = spec_l29Entry e := by
  unfold impl_isEntry spec_l29Entry
  rw [name_eq]; rfl
def EP (a : List UInt8) (e : Entry) : Prop := spec_l29Entry e = true ∧ a = impl_EntryText e
theorem entry_text {e : Entry} (h : spec_l29Entry e = true) : impl_EntryText e = impl_DateText e.Day ++ 32 :: (e.Item ++ 32 :: Lib.itoa e.Amount) ∧ 0 ≤ e.Day ∧ e.Day ≤ 99999 ∧ e.Amount.natAbs < E18 ∧ impl_IsName e.Item = true := by
  have hr := spec_l29Entry_rng e h
  refine ⟨?_, hr.1, hr.2.1, by unfold E18; omega, ?_⟩
  · unfold impl_EntryText
    rw [entryOk, h]
    simp only [Bool.not_true, cond_false, impl_Decimal_eq]
    simp
  · rw [name_eq]
    simp only [spec_l29Entry, Bool.and_eq_true] at h
    exact h.1.1.2
theorem no32_date {a : Int} (h1 : 0 ≤ a) (h2 : a ≤ 99999) : (32 : UInt8) ∉ impl_DateText a ∧ impl_DateText a ≠ [] ∧ (impl_DateText a).length ≤ 1048576 := by
  obtain ⟨y, m, d, _, _, _, _, _, _, _, _, e⟩ := dateText_D10 h1 h2
  obtain ⟨p1, _⟩ := pad4_dig (y := y) (by omega)
  obtain ⟨p3, _⟩ := pad2_dig (m := m) (by omega)
  obtain ⟨p5, _⟩ := pad2_dig (m := d) (by omega)
  rw [e]
  refine ⟨fun hm => ?_, by simp [D10, pad4], by simp [D10, pad4, pad2]⟩
  unfold D10 at hm
  simp only [List.mem_append, List.mem_cons] at hm
  rcases hm with hm | hm | hm | hm | hm
  · have := p1 32 hm; simp at this
  · simp at hm
  · have := p3 32 hm; simp at this
  · simp at hm
  · have := p5 32 hm; simp at this
theorem no32_itoa (n : Int) : (32 : UInt8) ∉ Lib.itoa n ∧ Lib.itoa n ≠ [] := by
  obtain ⟨d1, _, d3, _⟩ := decDigits_all n.natAbs
  by_cases h : n < 0
  · rw [itoa_neg' h]
    refine ⟨fun hm => ?_, by simp⟩
    rcases List.mem_cons.1 hm with hm | hm
    · simp at hm
    · have := d1 32 hm; simp at this
  · rw [itoa_nn h]
    exact ⟨fun hm => by have := d1 32 hm; simp at this, d3⟩
theorem no32_name {s : List UInt8} (h : impl_IsName s = true) : (32 : UInt8) ∉ s ∧ s ≠ [] := by
  obtain ⟨h1, _, h3⟩ := (isName_iff s).1 h
  refine ⟨fun hm => ?_, h1⟩
  obtain ⟨j, hj, e⟩ := List.getElem_of_mem hm
  have := h3 j hj
  have hg : s.getD j 0 = 32 := by simp [List.getD, List.getElem?_eq_getElem hj, e]
  rw [hg] at this
  rcases this with ⟨h, _⟩ | ⟨_, h, _⟩ <;> simp at h
theorem split_entry {e : Entry} (h : spec_l29Entry e = true) : splitC 32 (impl_EntryText e) = [impl_DateText e.Day, e.Item, Lib.itoa e.Amount] := by
  obtain ⟨ht, h1, h2, h3, h4⟩ := entry_text h
  rw [ht, splitC_cons _ _ _ (no32_date h1 h2).1, splitC_cons _ _ _ (no32_name h4).1, splitC_none _ _ (no32_itoa e.Amount).1]
theorem read_date_text {a : Int} (h1 : 0 ≤ a) (h2 : a ≤ 99999) : spec_l03Read (impl_DateText a) = (a, true) := by
  rcases l03Read_spec (impl_DateText a) with ⟨a', h1', h2', e, h⟩ | ⟨h, _⟩
  · rw [h, dateText_inj h1 h2 h1' h2' e]
  · exact absurd rfl (h a h1 h2)
theorem read_itoa {n : Int} (h : n.natAbs < E18) (hl : (Lib.itoa n).length ≤ 1048576) : spec_l01Number (Lib.itoa n) = (n, true) := by
  rcases l01Number_spec (Lib.itoa n) hl with ⟨n', h', e, hr⟩ | ⟨hn, _⟩
  · rw [hr, itoa_inj e]
  · exact absurd rfl (hn n h)
abbrev E0 : Entry := { Day := 0, Item := [], Amount := 0 }
theorem itoa_len3 {n : Int} (h : n.natAbs < E18) : (Lib.itoa n).length ≤ 1048576 := by
  have h18 := (decDigits_len18 n.natAbs).2 h
  by_cases hn : n < 0
  · rw [itoa_neg' hn]; simp only [List.length_cons]; omega
  · rw [itoa_nn hn]; omega
theorem impl_read2 (a : List UInt8) (ha : a.length ≤ 1048576) (e : Entry) (h : EP a e) : impl_ReadEntry a = (e, true) := by
  obtain ⟨hv, ht⟩ := h
  obtain ⟨_, h1, h2, h3, h4⟩ := entry_text hv
  have hf : (splitC 32 a).filter (· != []) = [impl_DateText e.Day, e.Item, Lib.itoa e.Amount] := by
    rw [ht, split_entry hv]
    have n1 := (no32_date h1 h2).2.1
    have n2 := (no32_name h4).2
    have n3 := (no32_itoa e.Amount).2
    simp [List.filter_cons, n1, n2, n3]
  unfold impl_ReadEntry
  rw [impl_SplitWords_eq, hf]
  show (bif (((!((impl_ReadDate (impl_DateText e.Day)).2)) || (!((impl_ReadDecimal (Lib.itoa e.Amount)).2))) || ((impl_EntryText ({ Day := (impl_ReadDate (impl_DateText e.Day)).1, Item := e.Item, Amount := (impl_ReadDecimal (Lib.itoa e.Amount)).1 : Entry })) != a)) then (E0, false) else ({ Day := (impl_ReadDate (impl_DateText e.Day)).1, Item := e.Item, Amount := (impl_ReadDecimal (Lib.itoa e.Amount)).1 : Entry }, true)) = _
  have hd : impl_ReadDecimal (Lib.itoa e.Amount) = readDecL (Lib.itoa e.Amount) := rfl
  rw [date_read_eq _ (no32_date h1 h2).2.2, read_date_text h1 h2, hd, number_eq _ (itoa_len3 h3), read_itoa h3 (itoa_len3 h3)]
  simp only
  rw [show ({ Day := e.Day, Item := e.Item, Amount := e.Amount : Entry }) = e from rfl, ← ht]
  simp
end Go.Ab

namespace Go.Ab
open Go Go.Proofs
theorem impl_TakeAll_1_DD : DOk Tryz.prog (DD [(31, dP D_impl_isEntry)]) := DD_cons D_impl_isEntry_ok.e <| DD_nil _
def impl_TakeAll_1 (a0 : Entry) : Bool :=
  ((!(impl_isEntry a0)) || decide (a0.Amount < 0))
theorem impl_TakeAll_1_den (a0 : Entry)  : Den Tryz.prog 41 [.agg (eEntry a0)] (.bool (impl_TakeAll_1 a0)) := by
  generalize hR : impl_TakeAll_1 a0 = r
  unfold impl_TakeAll_1 at hR
  refine den_intro G_ok Tryz.func41 (by kernel_rfl) rfl Tryz.ntmps41 (by rw [Tryz.results41]) (by simp) rfl ?_
  intro c hL hc hk
  obtain ⟨hL0, _⟩ := hL
  have hw0 : bwEntry a0 := Entry_lens a0 hL0
  clear hL0
  simp only [pars, Nat.zero_add]
  refine AWP.seq ?_
  refine AWP.regS G_ok impl_TakeAll_1_DD hc (by kernel_rfl) (fun K hK => ?_); simp only [ea, gv, sv, D_impl_isEntry, reduceCtorEq, reduceIte, Nat.reduceBEq, Nat.reduceAdd, Nat.reduceEqDiff, Nat.reduceLT, Nat.reduceLeDiff, Nat.reduceMul, Nat.reduceSub, BEq.rfl, beq_self_eq_true, Int.reduceToNat]
  (refine hK _ ?_)
  clear hK K
  refine AWP.seq ?_
  refine AWP.regS G_ok impl_TakeAll_1_DD hc (by kernel_rfl) (fun K hK => ?_); simp only [ea, gv, sv, D_impl_isEntry, reduceCtorEq, reduceIte, Nat.reduceBEq, Nat.reduceAdd, Nat.reduceEqDiff, Nat.reduceLT, Nat.reduceLeDiff, Nat.reduceMul, Nat.reduceSub, BEq.rfl, beq_self_eq_true, Int.reduceToNat]
  (refine hK _ ?_)
  clear hK K
  refine AWP.ret ?_
  subst hR
  (simp only [en, si, ea, gv, sv, hk, reduceCtorEq, reduceIte, Nat.reduceBEq, Nat.reduceAdd, Nat.reduceEqDiff, Nat.reduceLT, Nat.reduceLeDiff, Nat.reduceMul, Nat.reduceSub, BEq.rfl, beq_self_eq_true, Int.reduceToNat]; done)
def D_impl_TakeAll_1 : DF
  | [x0] => some (.bool (impl_TakeAll_1 (rdG dEntry x0)), false, [wG eEntry dEntry x0])
  | _ => none
theorem D_impl_TakeAll_1_ok : OkD Tryz.prog 41 D_impl_TakeAll_1 := by
  intro xs r z ob h ho
  unfold D_impl_TakeAll_1 at h
  split at h
  · simp only [Option.some.injEq, Prod.mk.injEq] at h
    obtain ⟨rfl, rfl, rfl⟩ := h
    obtain ⟨h0, _⟩ := ho
    exact Den.sim (impl_TakeAll_1_den _ ) (simOL_cons (wG_sim h0).1 <| trivial) (noIdL_cons (wG_sim h0).2 <| rfl) rfl
  · cases h
end Go.Ab

namespace Go.Ab
open Go Go.Proofs
theorem slices_IndexFunc_Entry__impl_TakeAll_1_DD : DOk Tryz.prog (DD [(41, dP D_impl_TakeAll_1)]) := DD_cons D_impl_TakeAll_1_ok.e <| DD_nil _
def slices_IndexFunc_Entry__impl_TakeAll_1_b1 (a0 : (List Entry)) (i1 : Nat) (s1 : Unit) : Except (Int) (Unit) :=
  (bif (impl_TakeAll_1 (a0.getD i1 default)) then .error (i1 : Int) else .ok ())
def slices_IndexFunc_Entry__impl_TakeAll_1 (a0 : (List Entry)) : Int :=
  (match loopR (slices_IndexFunc_Entry__impl_TakeAll_1_b1 a0) (a0.length - 0) 0 () with | .error e => e | .ok s1 => (-1))
theorem slices_IndexFunc_Entry__impl_TakeAll_1_den (a0 : (List Entry))  : Den Tryz.prog 79 [encL 3 eEntry a0, .fn 41 0 []] (.int .i64 (slices_IndexFunc_Entry__impl_TakeAll_1 a0)) := by
  generalize hR : slices_IndexFunc_Entry__impl_TakeAll_1 a0 = r
  unfold slices_IndexFunc_Entry__impl_TakeAll_1 at hR
  refine den_intro G_ok Tryz.func79 (by kernel_rfl) rfl Tryz.ntmps79 (by rw [Tryz.results79]) (by simp) rfl ?_
  intro c hL hc hk
  obtain ⟨hL0, hL1, _⟩ := hL
  have hw0 : a0.length < 9223372036854775808 := Nat.lt_succ_of_le (lens_encL hL0).1
  have hw1 : ∀ v ∈ a0, bwEntry v := fun v hv => Entry_lens v ((lens_encL hL0).2 v hv)
  clear hL0 hL1
  simp only [pars, Nat.zero_add]
  refine AWP.seq ?_
  refine AWP.regS G_ok slices_IndexFunc_Entry__impl_TakeAll_1_DD hc (by kernel_rfl) (fun K hK => ?_); simp only [ea, gv, sv, D_impl_TakeAll_1, reduceCtorEq, reduceIte, Nat.reduceBEq, Nat.reduceAdd, Nat.reduceEqDiff, Nat.reduceLT, Nat.reduceLeDiff, Nat.reduceMul, Nat.reduceSub, BEq.rfl, beq_self_eq_true, Int.reduceToNat]
  (refine hK _ ?_)
  clear hK K
  refine AWP.seq ?_
  refine AWP.seq ?_
  refine AWP.regS G_ok slices_IndexFunc_Entry__impl_TakeAll_1_DD hc (by kernel_rfl) (fun K hK => ?_); simp only [ea, gv, sv, D_impl_TakeAll_1, reduceCtorEq, reduceIte, Nat.reduceBEq, Nat.reduceAdd, Nat.reduceEqDiff, Nat.reduceLT, Nat.reduceLeDiff, Nat.reduceMul, Nat.reduceSub, BEq.rfl, beq_self_eq_true, Int.reduceToNat]
  (refine hK _ ?_)
  clear hK K
  refine AWP.block ?_
  generalize hz1 : loopR (slices_IndexFunc_Entry__impl_TakeAll_1_b1 a0) (a0.length - 0) 0 () = z1 at hR
  refine AWP.range (slices_IndexFunc_Entry__impl_TakeAll_1_b1 a0) (fun i1 s1 => ⟨[(0, encL 3 eEntry a0), (1, .fn 41 0 []), (7, .int .i64 (a0.length : Int)), (8, .int .i64 (i1 : Int))], []⟩) (fun i1 s1 => True) (a0.length) 0 () [] hz1 (by (omega)) (by (trivial)) (by (simp only [si, ea, gv, sv, hk, reduceCtorEq, reduceIte, Nat.reduceBEq, Nat.reduceAdd, Nat.reduceEqDiff, Nat.reduceLT, Nat.reduceLeDiff, Nat.reduceMul, Nat.reduceSub, BEq.rfl, beq_self_eq_true, Int.reduceToNat]; trivial)) ?_
  clear hz1
  intro i1 s1 hi1 hW1 hz1
  refine AWP.seq ?_
  refine AWP.regS G_ok slices_IndexFunc_Entry__impl_TakeAll_1_DD hc (by kernel_rfl) (fun K hK => ?_); simp only [ea, gv, sv, D_impl_TakeAll_1, reduceCtorEq, reduceIte, Nat.reduceBEq, Nat.reduceAdd, Nat.reduceEqDiff, Nat.reduceLT, Nat.reduceLeDiff, Nat.reduceMul, Nat.reduceSub, BEq.rfl, beq_self_eq_true, Int.reduceToNat]
  (refine hK _ ?_)
  clear hK K
  refine AWP.seq ?_
  refine AWP.cond rfl (fun hb => ?_) (fun hb => ?_)
  · have hlt1 : i1 < a0.length := by ((simp only [ob, ln, bdv, sv] at *; omega))
    rw [loopR_lt hlt1] at hz1; simp only [slices_IndexFunc_Entry__impl_TakeAll_1_b1] at hz1
    refine AWP.skip ?_
    refine AWP.seq ?_
    refine AWP.block ?_
    refine AWP.seq ?_
    refine AWP.regS G_ok slices_IndexFunc_Entry__impl_TakeAll_1_DD hc (by kernel_rfl) (fun K hK => ?_); simp only [ea, gv, sv, D_impl_TakeAll_1, reduceCtorEq, reduceIte, Nat.reduceBEq, Nat.reduceAdd, Nat.reduceEqDiff, Nat.reduceLT, Nat.reduceLeDiff, Nat.reduceMul, Nat.reduceSub, BEq.rfl, beq_self_eq_true, Int.reduceToNat]
    (refine hK _ ?_)
    clear hK K
    refine AWP.seq ?_
    refine AWP.regS G_ok slices_IndexFunc_Entry__impl_TakeAll_1_DD hc (by kernel_rfl) (fun K hK => ?_); simp only [ea, gv, sv, D_impl_TakeAll_1, reduceCtorEq, reduceIte, Nat.reduceBEq, Nat.reduceAdd, Nat.reduceEqDiff, Nat.reduceLT, Nat.reduceLeDiff, Nat.reduceMul, Nat.reduceSub, BEq.rfl, beq_self_eq_true, Int.reduceToNat]
    (refine ⟨by (omega), hK _ ?_⟩)
    clear hK K
    refine AWP.cond rfl (fun hb => ?_) (fun hb => ?_)
    · (simp only [hb, cond_true] at hz1)
      refine AWP.seq ?_
      refine AWP.regS G_ok slices_IndexFunc_Entry__impl_TakeAll_1_DD hc (by kernel_rfl) (fun K hK => ?_); simp only [ea, gv, sv, D_impl_TakeAll_1, reduceCtorEq, reduceIte, Nat.reduceBEq, Nat.reduceAdd, Nat.reduceEqDiff, Nat.reduceLT, Nat.reduceLeDiff, Nat.reduceMul, Nat.reduceSub, BEq.rfl, beq_self_eq_true, Int.reduceToNat]
      (refine hK _ ?_)
      clear hK K
      refine AWP.ret ?_
      subst hz1
      dsimp only at hR
      subst hR
      (simp only [en, si, ea, gv, sv, hk, reduceCtorEq, reduceIte, Nat.reduceBEq, Nat.reduceAdd, Nat.reduceEqDiff, Nat.reduceLT, Nat.reduceLeDiff, Nat.reduceMul, Nat.reduceSub, BEq.rfl, beq_self_eq_true, Int.reduceToNat]; done)
    · (simp only [hb, cond_false] at hz1)
      refine AWP.skip ?_
      refine AWP.regS G_ok slices_IndexFunc_Entry__impl_TakeAll_1_DD hc (by kernel_rfl) (fun K hK => ?_); simp only [ea, gv, sv, D_impl_TakeAll_1, reduceCtorEq, reduceIte, Nat.reduceBEq, Nat.reduceAdd, Nat.reduceEqDiff, Nat.reduceLT, Nat.reduceLeDiff, Nat.reduceMul, Nat.reduceSub, BEq.rfl, beq_self_eq_true, Int.reduceToNat]
      (refine hK _ ?_)
      clear hK K
      exact ⟨_, [], hlt1, by (trivial), hz1, by (simp only [si, ea, gv, sv, hk, reduceCtorEq, reduceIte, Nat.reduceBEq, Nat.reduceAdd, Nat.reduceEqDiff, Nat.reduceLT, Nat.reduceLeDiff, Nat.reduceMul, Nat.reduceSub, BEq.rfl, beq_self_eq_true, Int.reduceToNat]; (and_intros <;> first | trivial | (rw [IntKind.wrap_i64]; omega)))⟩
  · obtain rfl : i1 = a0.length := by ((simp only [ob, ln, bdv, sv] at *; omega))
    rw [loopR_ge (Nat.le_refl _)] at hz1; subst hz1; dsimp only at hR
    refine AWP.exit ?_; refine exitTo_here ?_
    refine AWP.seq ?_
    refine AWP.regS G_ok slices_IndexFunc_Entry__impl_TakeAll_1_DD hc (by kernel_rfl) (fun K hK => ?_); simp only [ea, gv, sv, D_impl_TakeAll_1, reduceCtorEq, reduceIte, Nat.reduceBEq, Nat.reduceAdd, Nat.reduceEqDiff, Nat.reduceLT, Nat.reduceLeDiff, Nat.reduceMul, Nat.reduceSub, BEq.rfl, beq_self_eq_true, Int.reduceToNat]
    (refine hK _ ?_)
    clear hK K
    refine AWP.ret ?_
    subst hR
    (simp only [en, si, ea, gv, sv, hk, reduceCtorEq, reduceIte, Nat.reduceBEq, Nat.reduceAdd, Nat.reduceEqDiff, Nat.reduceLT, Nat.reduceLeDiff, Nat.reduceMul, Nat.reduceSub, BEq.rfl, beq_self_eq_true, Int.reduceToNat]; done)
def D_slices_IndexFunc_Entry__impl_TakeAll_1 : DF
  | [x0, (.fn f41_1 kf41_1 [])] => some (.int .i64 (slices_IndexFunc_Entry__impl_TakeAll_1 (rdL dEntry x0)), false, [wL 3 eEntry dEntry x0, f41_1 = 41, kf41_1 = 0])
  | _ => none
theorem D_slices_IndexFunc_Entry__impl_TakeAll_1_ok : OkD Tryz.prog 79 D_slices_IndexFunc_Entry__impl_TakeAll_1 := by
  intro xs r z ob h ho
  unfold D_slices_IndexFunc_Entry__impl_TakeAll_1 at h
  split at h
  · simp only [Option.some.injEq, Prod.mk.injEq] at h
    obtain ⟨rfl, rfl, rfl⟩ := h
    obtain ⟨h0, qf41_1, qkf41_1, _⟩ := ho
    exact Den.sim (slices_IndexFunc_Entry__impl_TakeAll_1_den _ ) (simOL_cons (wL_sim h0).1 <| simOL_cons (by subst qf41_1 qkf41_1; exact simO_refl _) <| trivial) (noIdL_cons (wL_sim h0).2 <| noIdL_cons (by rfl) <| rfl) rfl
  · cases h
end Go.Ab

namespace Go.Ab
open Go Go.Proofs
theorem slices_ContainsFunc_Entry__impl_TakeAll_1_DD : DOk Tryz.prog (DD [(79, dP D_slices_IndexFunc_Entry__impl_TakeAll_1)]) := DD_cons D_slices_IndexFunc_Entry__impl_TakeAll_1_ok.e <| DD_nil _
def slices_ContainsFunc_Entry__impl_TakeAll_1 (a0 : (List Entry)) : Bool :=
  decide (0 ≤ (slices_IndexFunc_Entry__impl_TakeAll_1 a0))
theorem slices_ContainsFunc_Entry__impl_TakeAll_1_den (a0 : (List Entry))  : Den Tryz.prog 40 [encL 3 eEntry a0, .fn 41 0 []] (.bool (slices_ContainsFunc_Entry__impl_TakeAll_1 a0)) := by
  generalize hR : slices_ContainsFunc_Entry__impl_TakeAll_1 a0 = r
  unfold slices_ContainsFunc_Entry__impl_TakeAll_1 at hR
  refine den_intro G_ok Tryz.func40 (by kernel_rfl) rfl Tryz.ntmps40 (by rw [Tryz.results40]) (by simp) rfl ?_
  intro c hL hc hk
  obtain ⟨hL0, hL1, _⟩ := hL
  have hw0 : a0.length < 9223372036854775808 := Nat.lt_succ_of_le (lens_encL hL0).1
  have hw1 : ∀ v ∈ a0, bwEntry v := fun v hv => Entry_lens v ((lens_encL hL0).2 v hv)
  clear hL0 hL1
  simp only [pars, Nat.zero_add]
  refine AWP.seq ?_
  refine AWP.regS G_ok slices_ContainsFunc_Entry__impl_TakeAll_1_DD hc (by kernel_rfl) (fun K hK => ?_); simp only [ea, gv, sv, D_slices_IndexFunc_Entry__impl_TakeAll_1, reduceCtorEq, reduceIte, Nat.reduceBEq, Nat.reduceAdd, Nat.reduceEqDiff, Nat.reduceLT, Nat.reduceLeDiff, Nat.reduceMul, Nat.reduceSub, BEq.rfl, beq_self_eq_true, Int.reduceToNat]
  (refine hK _ ?_)
  clear hK K
  refine AWP.seq ?_
  refine AWP.regS G_ok slices_ContainsFunc_Entry__impl_TakeAll_1_DD hc (by kernel_rfl) (fun K hK => ?_); simp only [ea, gv, sv, D_slices_IndexFunc_Entry__impl_TakeAll_1, reduceCtorEq, reduceIte, Nat.reduceBEq, Nat.reduceAdd, Nat.reduceEqDiff, Nat.reduceLT, Nat.reduceLeDiff, Nat.reduceMul, Nat.reduceSub, BEq.rfl, beq_self_eq_true, Int.reduceToNat]
  (refine hK _ ?_)
  clear hK K
  refine AWP.ret ?_
  subst hR
  (simp only [en, si, ea, gv, sv, hk, reduceCtorEq, reduceIte, Nat.reduceBEq, Nat.reduceAdd, Nat.reduceEqDiff, Nat.reduceLT, Nat.reduceLeDiff, Nat.reduceMul, Nat.reduceSub, BEq.rfl, beq_self_eq_true, Int.reduceToNat]; done)
def D_slices_ContainsFunc_Entry__impl_TakeAll_1 : DF
  | [x0, (.fn f41_1 kf41_1 [])] => some (.bool (slices_ContainsFunc_Entry__impl_TakeAll_1 (rdL dEntry x0)), false, [wL 3 eEntry dEntry x0, f41_1 = 41, kf41_1 = 0])
  | _ => none
theorem D_slices_ContainsFunc_Entry__impl_TakeAll_1_ok : OkD Tryz.prog 40 D_slices_ContainsFunc_Entry__impl_TakeAll_1 := by
  intro xs r z ob h ho
  unfold D_slices_ContainsFunc_Entry__impl_TakeAll_1 at h
  split at h
  · simp only [Option.some.injEq, Prod.mk.injEq] at h
    obtain ⟨rfl, rfl, rfl⟩ := h
    obtain ⟨h0, qf41_1, qkf41_1, _⟩ := ho
    exact Den.sim (slices_ContainsFunc_Entry__impl_TakeAll_1_den _ ) (simOL_cons (wL_sim h0).1 <| simOL_cons (by subst qf41_1 qkf41_1; exact simO_refl _) <| trivial) (noIdL_cons (wL_sim h0).2 <| noIdL_cons (by rfl) <| rfl) rfl
  · cases h
end Go.Ab

namespace Go.Ab
open Go Go.Proofs
theorem impl_TakeAll_DD : DOk Tryz.prog (DD [(34, dP D_impl_ValidStore), (35, dP D_impl_Store_put), (37, dP D_impl_clone_Spare), (39, dP D_impl_clone_Entry), (40, dP D_slices_ContainsFunc_Entry__impl_TakeAll_1), (42, dP D_impl_isDay)]) := DD_cons D_impl_ValidStore_ok.e <| DD_cons D_impl_Store_put_ok.e <| DD_cons D_impl_clone_Spare_ok.e <| DD_cons D_impl_clone_Entry_ok.e <| DD_cons D_slices_ContainsFunc_Entry__impl_TakeAll_1_ok.e <| DD_cons D_impl_isDay_ok.e <| DD_nil _
def impl_TakeAll_b1 (a0 : Store) (a1 : Int) (a2 : (List Entry)) (i1 : Nat) (s1 : List Spare × List Entry) : Except ((Store × Int)) (List Spare × List Entry) :=
  (bif (((impl_Store_put ({ Spares := s1.1, Entries := s1.2 : Store }) ({ Day := a1, Item := (a2.getD i1 default).Item, Amount := IntKind.wrap .i64 (0 - ((a2.getD i1 default).Amount)) : Entry })).2) != 0) then .error ({ Spares := [], Entries := [] : Store }, (impl_Store_put ({ Spares := s1.1, Entries := s1.2 : Store }) ({ Day := a1, Item := (a2.getD i1 default).Item, Amount := IntKind.wrap .i64 (0 - ((a2.getD i1 default).Amount)) : Entry })).2) else .ok (((impl_Store_put ({ Spares := s1.1, Entries := s1.2 : Store }) ({ Day := a1, Item := (a2.getD i1 default).Item, Amount := IntKind.wrap .i64 (0 - ((a2.getD i1 default).Amount)) : Entry })).1).Spares, ((impl_Store_put ({ Spares := s1.1, Entries := s1.2 : Store }) ({ Day := a1, Item := (a2.getD i1 default).Item, Amount := IntKind.wrap .i64 (0 - ((a2.getD i1 default).Amount)) : Entry })).1).Entries))
def impl_TakeAll (a0 : Store) (a1 : Int) (a2 : (List Entry)) : (Store × Int) :=
  (bif ((!(impl_ValidStore a0)) || (slices_ContainsFunc_Entry__impl_TakeAll_1 a2)) then ({ Spares := [], Entries := [] : Store }, 1) else (bif (!(impl_isDay a1)) then ({ Spares := [], Entries := [] : Store }, 2) else (match loopR (impl_TakeAll_b1 a0 a1 a2) (a2.length - 0) 0 ((impl_clone_Spare a0.Spares), (impl_clone_Entry a0.Entries)) with | .error e => e | .ok s1 => ({ Spares := s1.1, Entries := s1.2 : Store }, 0))))
theorem impl_TakeAll_den (a0 : Store) (a1 : Int) (a2 : (List Entry)) (hb0 : bdStore a0) (hb1 : a2.length < 1099511627776) (hb2 : ∀ v ∈ a2, bdEntry v) : Den Tryz.prog 16 [.agg (eStore a0), .int .i64 a1, encL 3 eEntry a2] (.tup [.agg (eStoreO ((impl_TakeAll a0 a1 a2).1)), .int .i64 ((impl_TakeAll a0 a1 a2).2)]) := by
  generalize hR : impl_TakeAll a0 a1 a2 = r
  unfold impl_TakeAll at hR
  refine den_intro G_ok Tryz.func16 (by kernel_rfl) rfl Tryz.ntmps16 (by rw [Tryz.results16]) (by simp) rfl ?_
  intro c hL hc hk
  obtain ⟨hL0, hL1, hL2, _⟩ := hL
  have hw0 : bwStore a0 := Store_lens a0 hL0
  have hw1 : a2.length < 9223372036854775808 := Nat.lt_succ_of_le (lens_encL hL2).1
  have hw2 : ∀ v ∈ a2, bwEntry v := fun v hv => Entry_lens v ((lens_encL hL2).2 v hv)
  clear hL0 hL1 hL2
  simp only [pars, Nat.zero_add]
  refine AWP.seq ?_
  refine AWP.regS G_ok impl_TakeAll_DD hc (by kernel_rfl) (fun K hK => ?_); simp only [ea, gv, sv, D_impl_ValidStore, D_impl_Store_put, D_impl_clone_Spare, D_impl_clone_Entry, D_slices_ContainsFunc_Entry__impl_TakeAll_1, D_impl_isDay, reduceCtorEq, reduceIte, Nat.reduceBEq, Nat.reduceAdd, Nat.reduceEqDiff, Nat.reduceLT, Nat.reduceLeDiff, Nat.reduceMul, Nat.reduceSub, BEq.rfl, beq_self_eq_true, Int.reduceToNat]
  (refine hK _ ?_)
  clear hK K
  refine AWP.seq ?_
  refine AWP.seq ?_
  refine AWP.regS G_ok impl_TakeAll_DD hc (by kernel_rfl) (fun K hK => ?_); simp only [ea, gv, sv, D_impl_ValidStore, D_impl_Store_put, D_impl_clone_Spare, D_impl_clone_Entry, D_slices_ContainsFunc_Entry__impl_TakeAll_1, D_impl_isDay, reduceCtorEq, reduceIte, Nat.reduceBEq, Nat.reduceAdd, Nat.reduceEqDiff, Nat.reduceLT, Nat.reduceLeDiff, Nat.reduceMul, Nat.reduceSub, BEq.rfl, beq_self_eq_true, Int.reduceToNat]
  (refine ⟨by (trivial), hK _ ?_⟩)
  clear hK K
  refine AWP.cond rfl (fun hb => ?_) (fun hb => ?_)
  · (simp only [hb, cond_true] at hR)
    refine AWP.seq ?_
    refine AWP.regS G_ok impl_TakeAll_DD hc (by kernel_rfl) (fun K hK => ?_); simp only [ea, gv, sv, D_impl_ValidStore, D_impl_Store_put, D_impl_clone_Spare, D_impl_clone_Entry, D_slices_ContainsFunc_Entry__impl_TakeAll_1, D_impl_isDay, reduceCtorEq, reduceIte, Nat.reduceBEq, Nat.reduceAdd, Nat.reduceEqDiff, Nat.reduceLT, Nat.reduceLeDiff, Nat.reduceMul, Nat.reduceSub, BEq.rfl, beq_self_eq_true, Int.reduceToNat]
    (refine hK _ ?_)
    clear hK K
    refine AWP.ret ?_
    subst hR
    (simp only [en, si, ea, gv, sv, hk, reduceCtorEq, reduceIte, Nat.reduceBEq, Nat.reduceAdd, Nat.reduceEqDiff, Nat.reduceLT, Nat.reduceLeDiff, Nat.reduceMul, Nat.reduceSub, BEq.rfl, beq_self_eq_true, Int.reduceToNat]; done)
  · (simp only [hb, cond_false] at hR)
    refine AWP.skip ?_
    refine AWP.seq ?_
    refine AWP.seq ?_
    refine AWP.regS G_ok impl_TakeAll_DD hc (by kernel_rfl) (fun K hK => ?_); simp only [ea, gv, sv, D_impl_ValidStore, D_impl_Store_put, D_impl_clone_Spare, D_impl_clone_Entry, D_slices_ContainsFunc_Entry__impl_TakeAll_1, D_impl_isDay, reduceCtorEq, reduceIte, Nat.reduceBEq, Nat.reduceAdd, Nat.reduceEqDiff, Nat.reduceLT, Nat.reduceLeDiff, Nat.reduceMul, Nat.reduceSub, BEq.rfl, beq_self_eq_true, Int.reduceToNat]
    (refine hK _ ?_)
    clear hK K
    refine AWP.cond rfl (fun hb => ?_) (fun hb => ?_)
    · (simp only [hb, cond_true] at hR)
      refine AWP.seq ?_
      refine AWP.regS G_ok impl_TakeAll_DD hc (by kernel_rfl) (fun K hK => ?_); simp only [ea, gv, sv, D_impl_ValidStore, D_impl_Store_put, D_impl_clone_Spare, D_impl_clone_Entry, D_slices_ContainsFunc_Entry__impl_TakeAll_1, D_impl_isDay, reduceCtorEq, reduceIte, Nat.reduceBEq, Nat.reduceAdd, Nat.reduceEqDiff, Nat.reduceLT, Nat.reduceLeDiff, Nat.reduceMul, Nat.reduceSub, BEq.rfl, beq_self_eq_true, Int.reduceToNat]
      (refine hK _ ?_)
      clear hK K
      refine AWP.ret ?_
      subst hR
      (simp only [en, si, ea, gv, sv, hk, reduceCtorEq, reduceIte, Nat.reduceBEq, Nat.reduceAdd, Nat.reduceEqDiff, Nat.reduceLT, Nat.reduceLeDiff, Nat.reduceMul, Nat.reduceSub, BEq.rfl, beq_self_eq_true, Int.reduceToNat]; done)
    · (simp only [hb, cond_false] at hR)
      refine AWP.skip ?_
      refine AWP.seq ?_
      refine AWP.regP mixed G_ok impl_TakeAll_DD hc 8 [0, 1, 3, 4] (.alt 2 [] [3, 4] (.alt 5 [6] [6] (.alt 7 [] [6] .leaf .stop) (.alt 7 [] [3, 4] (.alt 5 [6] [6] .leaf .stop) .stop)) (.alt 7 [] [0, 1, 3, 4] (.alt 2 [] [3, 4] (.alt 5 [6] [6] .leaf .stop) .stop) .stop)) (by kernel_rfl) (by kernel_rfl) (by kernel_rfl) (fun K hK => ?_)
      refine join_sim ⟨[(1, .int .i64 a1), (2, encL 3 eEntry a2), (6, .ptr 0 0), (8, .ptr 1 0)], [.box [.nils, .nils], .box [.ref 2 3 0 ((impl_clone_Spare a0.Spares).length), .ref 3 3 0 ((impl_clone_Entry a0.Entries).length)], .arr 30 3 (impl_clone_Spare a0.Spares).length (fun j => eSpare ((impl_clone_Spare a0.Spares).getD j default)), .arr 33 3 (impl_clone_Entry a0.Entries).length (fun j => eEntry ((impl_clone_Entry a0.Entries).getD j default))]⟩ hK ?_ (fun hJ => ?_)
      rotate_left
      · simp only [rootP, runN, runP, recheck, nthO, ea, gv, sv, D_impl_ValidStore, D_impl_Store_put, D_impl_clone_Spare, D_impl_clone_Entry, D_slices_ContainsFunc_Entry__impl_TakeAll_1, D_impl_isDay, reduceCtorEq, reduceIte, Nat.reduceBEq, Nat.reduceAdd, Nat.reduceEqDiff, Nat.reduceLT, Nat.reduceLeDiff, Nat.reduceMul, Nat.reduceSub, BEq.rfl, beq_self_eq_true, Int.reduceToNat]
        repeat' apply And.intro
        all_goals first | (refine hJ _ [1, 4, 2, 3] ?_; (simp only [si, ea, gv, sv, hk, reduceCtorEq, reduceIte, Nat.reduceBEq, Nat.reduceAdd, Nat.reduceEqDiff, Nat.reduceLT, Nat.reduceLeDiff, Nat.reduceMul, Nat.reduceSub, BEq.rfl, beq_self_eq_true, Int.reduceToNat]; trivial)) | (refine hJ _ [1, 3, 2, 4] ?_; (simp only [si, ea, gv, sv, hk, reduceCtorEq, reduceIte, Nat.reduceBEq, Nat.reduceAdd, Nat.reduceEqDiff, Nat.reduceLT, Nat.reduceLeDiff, Nat.reduceMul, Nat.reduceSub, BEq.rfl, beq_self_eq_true, Int.reduceToNat]; trivial)) | (refine hJ _ [1, 2, 3, 4] ?_; (simp only [si, ea, gv, sv, hk, reduceCtorEq, reduceIte, Nat.reduceBEq, Nat.reduceAdd, Nat.reduceEqDiff, Nat.reduceLT, Nat.reduceLeDiff, Nat.reduceMul, Nat.reduceSub, BEq.rfl, beq_self_eq_true, Int.reduceToNat]; trivial)) | (first | (simp only [ob, ln, bdv, impl_clone_Spare_id, impl_clone_Entry_id, sv] at *; omega) | ((try clear hK K); (repeat' (intro _)) <;> (simp only [ob, ln, bdv, impl_clone_Spare_id, impl_clone_Entry_id, sv] at *; (simp_all; done))))
      clear hK K
      refine AWP.seq ?_
      refine AWP.seq ?_
      refine AWP.regS G_ok impl_TakeAll_DD hc (by kernel_rfl) (fun K hK => ?_); simp only [ea, gv, sv, D_impl_ValidStore, D_impl_Store_put, D_impl_clone_Spare, D_impl_clone_Entry, D_slices_ContainsFunc_Entry__impl_TakeAll_1, D_impl_isDay, reduceCtorEq, reduceIte, Nat.reduceBEq, Nat.reduceAdd, Nat.reduceEqDiff, Nat.reduceLT, Nat.reduceLeDiff, Nat.reduceMul, Nat.reduceSub, BEq.rfl, beq_self_eq_true, Int.reduceToNat]
      (refine hK _ ?_)
      clear hK K
      refine AWP.block ?_
      generalize hz1 : loopR (impl_TakeAll_b1 a0 a1 a2) (a2.length - 0) 0 ((impl_clone_Spare a0.Spares), (impl_clone_Entry a0.Entries)) = z1 at hR
      refine AWP.range (impl_TakeAll_b1 a0 a1 a2) (fun i1 s1 => ⟨[(1, .int .i64 a1), (6, .ptr 0 0), (8, .ptr 1 0), (32, encL 3 eEntry a2), (33, .int .i64 (a2.length : Int)), (34, .int .i64 (i1 : Int))], [.box [.nils, .nils], .box [.ref 2 3 0 s1.1.length, .ref 3 3 0 s1.2.length], .arr 30 3 s1.1.length (fun j => eSpare (s1.1.getD j default)), .arr 33 3 s1.2.length (fun j => eEntry (s1.2.getD j default))]⟩) (fun i1 s1 => s1.2.length ≤ 48 ∧ s1.1.length ≤ 16 ∧ (∀ v ∈ s1.1, bdSpare v) ∧ ∀ v ∈ s1.2, bdEntry v) (a2.length) 0 ((impl_clone_Spare a0.Spares), (impl_clone_Entry a0.Entries)) [0, 1, 2, 3] hz1 (by (omega)) (by (have hv := impl_ValidStore_len a0 (by simp only [Bool.or_eq_false_iff, Bool.not_eq_false'] at *; simp_all); simp only [impl_clone_Spare_id, impl_clone_Entry_id]; exact ⟨hv.2, hv.1, hb0.1.2, hb0.2.2⟩)) (by (simp only [si, ea, gv, sv, hk, reduceCtorEq, reduceIte, Nat.reduceBEq, Nat.reduceAdd, Nat.reduceEqDiff, Nat.reduceLT, Nat.reduceLeDiff, Nat.reduceMul, Nat.reduceSub, BEq.rfl, beq_self_eq_true, Int.reduceToNat]; trivial)) ?_
      clear hz1
      intro i1 s1 hi1 hW1 hz1
      have hV1 := hW1; obtain ⟨hV1_0, hV1_1, hV1_2, hV1_3⟩ := hV1
      refine AWP.seq ?_
      refine AWP.regS G_ok impl_TakeAll_DD hc (by kernel_rfl) (fun K hK => ?_); simp only [ea, gv, sv, D_impl_ValidStore, D_impl_Store_put, D_impl_clone_Spare, D_impl_clone_Entry, D_slices_ContainsFunc_Entry__impl_TakeAll_1, D_impl_isDay, reduceCtorEq, reduceIte, Nat.reduceBEq, Nat.reduceAdd, Nat.reduceEqDiff, Nat.reduceLT, Nat.reduceLeDiff, Nat.reduceMul, Nat.reduceSub, BEq.rfl, beq_self_eq_true, Int.reduceToNat]
      (refine hK _ ?_)
      clear hK K
      refine AWP.seq ?_
      refine AWP.cond rfl (fun hb => ?_) (fun hb => ?_)
      · have hlt1 : i1 < a2.length := by ((simp only [ob, ln, bdv, impl_clone_Spare_id, impl_clone_Entry_id, sv] at *; omega))
        rw [loopR_lt hlt1] at hz1; simp only [impl_TakeAll_b1] at hz1
        refine AWP.skip ?_
        refine AWP.seq ?_
        refine AWP.block ?_
        refine AWP.seq ?_
        refine AWP.regS G_ok impl_TakeAll_DD hc (by kernel_rfl) (fun K hK => ?_); simp only [ea, gv, sv, D_impl_ValidStore, D_impl_Store_put, D_impl_clone_Spare, D_impl_clone_Entry, D_slices_ContainsFunc_Entry__impl_TakeAll_1, D_impl_isDay, reduceCtorEq, reduceIte, Nat.reduceBEq, Nat.reduceAdd, Nat.reduceEqDiff, Nat.reduceLT, Nat.reduceLeDiff, Nat.reduceMul, Nat.reduceSub, BEq.rfl, beq_self_eq_true, Int.reduceToNat]
        (refine ⟨by (omega), hK _ ?_⟩)
        clear hK K
        refine AWP.seq ?_
        refine AWP.regS G_ok impl_TakeAll_DD hc (by kernel_rfl) (fun K hK => ?_); simp only [ea, gv, sv, D_impl_ValidStore, D_impl_Store_put, D_impl_clone_Spare, D_impl_clone_Entry, D_slices_ContainsFunc_Entry__impl_TakeAll_1, D_impl_isDay, reduceCtorEq, reduceIte, Nat.reduceBEq, Nat.reduceAdd, Nat.reduceEqDiff, Nat.reduceLT, Nat.reduceLeDiff, Nat.reduceMul, Nat.reduceSub, BEq.rfl, beq_self_eq_true, Int.reduceToNat]
        (refine ⟨by (((try clear hK K); (repeat' first | apply And.intro | intro _) <;> first | omega | solve_by_elim | (right; (simp only [si, ea, gv, sv, hk, reduceCtorEq, reduceIte, Nat.reduceBEq, Nat.reduceAdd, Nat.reduceEqDiff, Nat.reduceLT, Nat.reduceLeDiff, Nat.reduceMul, Nat.reduceSub, BEq.rfl, beq_self_eq_true, Int.reduceToNat]; (and_intros <;> (simp only [ob, ln, bdv, impl_clone_Spare_id, impl_clone_Entry_id, sv] at *; (grind [impl_ValidStore_len]))))) | (simp only [ob, ln, bdv, impl_clone_Spare_id, impl_clone_Entry_id, sv] at *; (simp_all; done)))), hK _ ?_⟩)
        clear hK K
        refine AWP.seq ?_
        refine AWP.seq ?_
        refine AWP.regS G_ok impl_TakeAll_DD hc (by kernel_rfl) (fun K hK => ?_); simp only [ea, gv, sv, D_impl_ValidStore, D_impl_Store_put, D_impl_clone_Spare, D_impl_clone_Entry, D_slices_ContainsFunc_Entry__impl_TakeAll_1, D_impl_isDay, reduceCtorEq, reduceIte, Nat.reduceBEq, Nat.reduceAdd, Nat.reduceEqDiff, Nat.reduceLT, Nat.reduceLeDiff, Nat.reduceMul, Nat.reduceSub, BEq.rfl, beq_self_eq_true, Int.reduceToNat]
        (refine hK _ ?_)
        clear hK K
        refine AWP.cond rfl (fun hb => ?_) (fun hb => ?_)
        · (simp only [hb, cond_true] at hz1)
          refine AWP.seq ?_
          refine AWP.regS G_ok impl_TakeAll_DD hc (by kernel_rfl) (fun K hK => ?_); simp only [ea, gv, sv, D_impl_ValidStore, D_impl_Store_put, D_impl_clone_Spare, D_impl_clone_Entry, D_slices_ContainsFunc_Entry__impl_TakeAll_1, D_impl_isDay, reduceCtorEq, reduceIte, Nat.reduceBEq, Nat.reduceAdd, Nat.reduceEqDiff, Nat.reduceLT, Nat.reduceLeDiff, Nat.reduceMul, Nat.reduceSub, BEq.rfl, beq_self_eq_true, Int.reduceToNat]
          (refine hK _ ?_)
          clear hK K
          refine AWP.ret ?_
          subst hz1
          dsimp only at hR
          subst hR
          (simp only [en, si, ea, gv, sv, hk, reduceCtorEq, reduceIte, Nat.reduceBEq, Nat.reduceAdd, Nat.reduceEqDiff, Nat.reduceLT, Nat.reduceLeDiff, Nat.reduceMul, Nat.reduceSub, BEq.rfl, beq_self_eq_true, Int.reduceToNat]; done)
        · (simp only [hb, cond_false] at hz1)
          refine AWP.skip ?_
          refine AWP.regS G_ok impl_TakeAll_DD hc (by kernel_rfl) (fun K hK => ?_); simp only [ea, gv, sv, D_impl_ValidStore, D_impl_Store_put, D_impl_clone_Spare, D_impl_clone_Entry, D_slices_ContainsFunc_Entry__impl_TakeAll_1, D_impl_isDay, reduceCtorEq, reduceIte, Nat.reduceBEq, Nat.reduceAdd, Nat.reduceEqDiff, Nat.reduceLT, Nat.reduceLeDiff, Nat.reduceMul, Nat.reduceSub, BEq.rfl, beq_self_eq_true, Int.reduceToNat]
          (refine hK _ ?_)
          clear hK K
          refine AWP.regS G_ok impl_TakeAll_DD hc (by kernel_rfl) (fun K hK => ?_); simp only [ea, gv, sv, D_impl_ValidStore, D_impl_Store_put, D_impl_clone_Spare, D_impl_clone_Entry, D_slices_ContainsFunc_Entry__impl_TakeAll_1, D_impl_isDay, reduceCtorEq, reduceIte, Nat.reduceBEq, Nat.reduceAdd, Nat.reduceEqDiff, Nat.reduceLT, Nat.reduceLeDiff, Nat.reduceMul, Nat.reduceSub, BEq.rfl, beq_self_eq_true, Int.reduceToNat]
          (refine hK _ ?_)
          clear hK K
          exact ⟨_, [0, 1, 5, 6], hlt1, by (have hk9 := impl_Store_put_keep ({ Spares := s1.1, Entries := s1.2 : Store }) ({ Day := a1, Item := (a2.getD i1 default).Item, Amount := IntKind.wrap .i64 (0 - ((a2.getD i1 default).Amount)) : Entry }) (by simp only; omega) (by simpa using hb); refine ⟨hk9.2.1, by rw [hk9.1]; exact hW1.2.1, by rw [hk9.1]; exact hW1.2.2.1, fun v hv => ?_⟩; rcases hk9.2.2.1 v hv with h | h; exact hW1.2.2.2 v h; subst h; exact bd_getD (p := bdEntry) hb2 (by decide) i1), hz1, by (simp only [si, ea, gv, sv, hk, reduceCtorEq, reduceIte, Nat.reduceBEq, Nat.reduceAdd, Nat.reduceEqDiff, Nat.reduceLT, Nat.reduceLeDiff, Nat.reduceMul, Nat.reduceSub, BEq.rfl, beq_self_eq_true, Int.reduceToNat]; (and_intros <;> first | trivial | (rw [IntKind.wrap_i64]; omega)))⟩
      · obtain rfl : i1 = a2.length := by ((simp only [ob, ln, bdv, impl_clone_Spare_id, impl_clone_Entry_id, sv] at *; omega))
        rw [loopR_ge (Nat.le_refl _)] at hz1; subst hz1; dsimp only at hR
        refine AWP.exit ?_; refine exitTo_here ?_
        refine AWP.seq ?_
        refine AWP.regS G_ok impl_TakeAll_DD hc (by kernel_rfl) (fun K hK => ?_); simp only [ea, gv, sv, D_impl_ValidStore, D_impl_Store_put, D_impl_clone_Spare, D_impl_clone_Entry, D_slices_ContainsFunc_Entry__impl_TakeAll_1, D_impl_isDay, reduceCtorEq, reduceIte, Nat.reduceBEq, Nat.reduceAdd, Nat.reduceEqDiff, Nat.reduceLT, Nat.reduceLeDiff, Nat.reduceMul, Nat.reduceSub, BEq.rfl, beq_self_eq_true, Int.reduceToNat]
        (refine hK _ ?_)
        clear hK K
        refine AWP.ret ?_
        subst hR
        (simp only [en, si, ea, gv, sv, hk, reduceCtorEq, reduceIte, Nat.reduceBEq, Nat.reduceAdd, Nat.reduceEqDiff, Nat.reduceLT, Nat.reduceLeDiff, Nat.reduceMul, Nat.reduceSub, BEq.rfl, beq_self_eq_true, Int.reduceToNat]; (and_intros <;> omega))
def D_impl_TakeAll : DF
  | [x0, x1, x2] => some (.tup [.agg (eStoreO ((impl_TakeAll (rdG dStore x0) (rdI x1) (rdL dEntry x2)).1)), .int .i64 ((impl_TakeAll (rdG dStore x0) (rdI x1) (rdL dEntry x2)).2)], false, [wG eStore dStore x0, wI .i64 x1, wL 3 eEntry dEntry x2, bdStore (rdG dStore x0), (rdL dEntry x2).length < 1099511627776, ∀ v ∈ (rdL dEntry x2), bdEntry v])
  | _ => none
def Dz_impl_TakeAll : DF
  | [x0, x1, x2] => some (.tup [.agg (eStoreO ((impl_TakeAll (rdG dStore x0) (rdI x1) (rdL dEntry x2)).1)), .int .i64 ((impl_TakeAll (rdG dStore x0) (rdI x1) (rdL dEntry x2)).2)], true, [wG eStore dStore x0, wI .i64 x1, wL 3 eEntry dEntry x2, bdStore (rdG dStore x0), (rdL dEntry x2).length < 1099511627776, ∀ v ∈ (rdL dEntry x2), bdEntry v])
  | _ => none
theorem D_impl_TakeAll_ok : OkD Tryz.prog 16 D_impl_TakeAll := by
  intro xs r z ob h ho
  unfold D_impl_TakeAll at h
  split at h
  · simp only [Option.some.injEq, Prod.mk.injEq] at h
    obtain ⟨rfl, rfl, rfl⟩ := h
    obtain ⟨h0, h1, h2, hb0, hb1, hb2, _⟩ := ho
    exact Den.sim (impl_TakeAll_den _ _ _ hb0 hb1 hb2) (simOL_cons (wG_sim h0).1 <| simOL_cons (wI_sim h1).1 <| simOL_cons (wL_sim h2).1 <| trivial) (noIdL_cons (wG_sim h0).2 <| noIdL_cons (wI_sim h1).2 <| noIdL_cons (wL_sim h2).2 <| rfl) rfl
  · cases h
theorem Dz_impl_TakeAll_ok : OkD Tryz.prog 16 Dz_impl_TakeAll := by
  intro xs r z ob h ho
  unfold Dz_impl_TakeAll at h
  split at h
  · simp only [Option.some.injEq, Prod.mk.injEq] at h
    obtain ⟨rfl, rfl, rfl⟩ := h
    obtain ⟨h0, h1, h2, hb0, hb1, hb2, _⟩ := ho
    exact Den.sim (impl_TakeAll_den _ _ _ hb0 hb1 hb2) (simOL_cons (wG_sim h0).1 <| simOL_cons (wI_sim h1).1 <| simOL_cons (wL_sim h2).1 <| trivial) (noIdL_cons (wG_sim h0).2 <| noIdL_cons (wI_sim h1).2 <| noIdL_cons (wL_sim h2).2 <| rfl) rfl
  · cases h
end Go.Ab

namespace Go.Ab
open Go Go.Proofs
theorem loopR_keep {ρ σ : Type} {b : Nat → σ → Except ρ σ} (I : Nat → σ → Prop) : ∀ {k i : Nat} {s t : σ}, loopR b k i s = .ok t → I i s → (∀ j u v, i ≤ j → j < i + k → I j u → b j u = .ok v → I (j + 1) v) → I (i + k) t
  | 0, i, s, t, h, h0, _ => by simp only [loopR, Except.ok.injEq] at h; subst h; exact h0
  | k + 1, i, s, t, h, h0, hb => by
    simp only [loopR] at h
    cases hq : b i s with
    | error e => rw [hq] at h; simp at h
    | ok v =>
      rw [hq] at h
      have := loopR_keep I (k := k) (i := i + 1) h (hb i s v (Nat.le_refl _) (by omega) h0 hq) (fun j u v h1 h2 => hb j u v (by omega) (by omega))
      rw [show i + 1 + k = i + (k + 1) by omega] at this
      exact this
end Go.Ab

namespace Go.Ab
open Go Go.Proofs
theorem impl_TakeAll_len (a : Store) (d : Int) (n : List Entry) : (impl_TakeAll a d n).1.Spares.length ≤ 16 ∧ (impl_TakeAll a d n).1.Entries.length ≤ 48 := by
  unfold impl_TakeAll
  cases hv : impl_ValidStore a with
  | false => simp
  | true =>
    have hl := impl_ValidStore_len a hv
    cases slices_ContainsFunc_Entry__impl_TakeAll_1 n with
    | true => simp
    | false =>
      cases impl_isDay d with
      | false => simp
      | true =>
        simp only [Bool.not_true, Bool.or_self, cond_false]
        split
        · rename_i e he
          obtain ⟨j, t, h1, h2, h3⟩ := loopR_error he
          simp only [impl_TakeAll_b1, Bool.cond_eq_ite] at h3
          split at h3
          · simp only [Except.error.injEq] at h3
            rw [← h3]; simp
          · cases h3
        · rename_i s hs
          have := loopR_keep (fun i s => s.1.length ≤ 16 ∧ s.2.length ≤ 48) hs (by simp only [impl_clone_Spare_id, impl_clone_Entry_id]; exact hl) (by
            intro j u v g1 g2 g3 g4
            simp only [impl_TakeAll_b1, Bool.cond_eq_ite] at g4
            split at g4
            · cases g4
            · simp only [Except.ok.injEq] at g4
              have := impl_Store_put_len { Spares := u.1, Entries := u.2 : Store } ({ Day := d, Item := (n.getD j default).Item, Amount := IntKind.wrap .i64 (0 - ((n.getD j default).Amount)) : Entry }) (by simp only; omega)
              simp only at this
              rw [← g4]
              simp only
              omega)
          exact this
end Go.Ab

namespace Go.Ab
open Go Go.Proofs
theorem needs_eq (n : List Entry) : slices_ContainsFunc_Entry__impl_TakeAll_1 n = n.any (fun e => !(spec_l29Entry e) || decide (e.Amount < 0)) := by
  unfold slices_ContainsFunc_Entry__impl_TakeAll_1 slices_IndexFunc_Entry__impl_TakeAll_1
  have e : ∀ x, impl_TakeAll_1 x = (!(spec_l29Entry x) || decide (x.Amount < 0)) := fun x => by unfold impl_TakeAll_1; rw [isEntry_eq]
  rcases loopR_first (b := slices_IndexFunc_Entry__impl_TakeAll_1_b1 n) (fun j => impl_TakeAll_1 (n.getD j default)) (fun j => (j : Int)) (k := n.length - 0) (i := 0) (s := ()) (fun j u _ _ => rfl) with ⟨j, _, h2, h3, h4, h5⟩ | ⟨h1, h2⟩
  · rw [h5]
    simp only [Int.natCast_nonneg, decide_true]
    symm
    rw [List.any_eq_true]
    refine ⟨n.getD j default, ?_, by rw [← e]; exact h3⟩
    rw [List.getD_eq_getElem?_getD, List.getElem?_eq_getElem (by omega), Option.getD_some]; exact List.getElem_mem _
  · rw [h2]
    simp only
    symm
    rw [show decide ((0 : Int) ≤ -1) = false from rfl, List.any_eq_false]
    intro x hx
    obtain ⟨i, hi, rfl⟩ := List.getElem_of_mem hx
    have := h1 i (by omega) (by omega)
    rw [List.getD_eq_getElem?_getD, List.getElem?_eq_getElem hi, Option.getD_some] at this
    rw [← e, this]; simp
def stepI (d : Int) (e : Entry) (s : List Spare × List Entry) : Except (Store × Int) (List Spare × List Entry) :=
  (bif (((impl_Store_put ({ Spares := s.1, Entries := s.2 : Store }) ({ Day := d, Item := e.Item, Amount := IntKind.wrap .i64 (0 - e.Amount) : Entry })).2) != 0) then .error ({ Spares := [], Entries := [] : Store }, (impl_Store_put ({ Spares := s.1, Entries := s.2 : Store }) ({ Day := d, Item := e.Item, Amount := IntKind.wrap .i64 (0 - e.Amount) : Entry })).2) else .ok (((impl_Store_put ({ Spares := s.1, Entries := s.2 : Store }) ({ Day := d, Item := e.Item, Amount := IntKind.wrap .i64 (0 - e.Amount) : Entry })).1).Spares, ((impl_Store_put ({ Spares := s.1, Entries := s.2 : Store }) ({ Day := d, Item := e.Item, Amount := IntKind.wrap .i64 (0 - e.Amount) : Entry })).1).Entries))
end Go.Ab

namespace Go.Ab
open Go Go.Proofs
theorem spec_SameStore_DD : DOk Tryz.prog (DD []) := DD_nil _
def spec_SameStore_b1 (a0 : Store) (a1 : Store) (i1 : Nat) (s1 : Unit) : Except (Bool) (Unit) :=
  (bif (!(((a0.Spares.getD i1 default).Name) == ((a1.Spares.getD i1 default).Name) && (((a0.Spares.getD i1 default).Least) == ((a1.Spares.getD i1 default).Least) && ((a0.Spares.getD i1 default).Most) == ((a1.Spares.getD i1 default).Most)))) then .error false else .ok ())
def spec_SameStore_b2 (a0 : Store) (a1 : Store) (s1 : Unit) (i2 : Nat) (s2 : Unit) : Except (Bool) (Unit) :=
  (bif (!(((a0.Entries.getD i2 default).Day) == ((a1.Entries.getD i2 default).Day) && (((a0.Entries.getD i2 default).Item) == ((a1.Entries.getD i2 default).Item) && ((a0.Entries.getD i2 default).Amount) == ((a1.Entries.getD i2 default).Amount)))) then .error false else .ok ())
def spec_SameStore (a0 : Store) (a1 : Store) : Bool :=
  (bif (((a0.Spares.length : Int) != (a1.Spares.length : Int)) || ((a0.Entries.length : Int) != (a1.Entries.length : Int))) then false else (match loopR (spec_SameStore_b1 a0 a1) (a0.Spares.length - 0) 0 () with | .error e => e | .ok s1 => (match loopR (spec_SameStore_b2 a0 a1 s1) (a0.Entries.length - 0) 0 () with | .error e => e | .ok s2 => true)))
theorem spec_SameStore_den (a0 : Store) (a1 : Store)  : Den Tryz.prog 15 [.agg (eStore a0), .agg (eStore a1)] (.bool (spec_SameStore a0 a1)) := by
  generalize hR : spec_SameStore a0 a1 = r
  unfold spec_SameStore at hR
  refine den_intro G_ok Tryz.func15 (by kernel_rfl) rfl Tryz.ntmps15 (by rw [Tryz.results15]) (by simp) rfl ?_
  intro c hL hc hk
  obtain ⟨hL0, hL1, _⟩ := hL
  have hw0 : bwStore a0 := Store_lens a0 hL0
  have hw1 : bwStore a1 := Store_lens a1 hL1
  clear hL0 hL1
  simp only [pars, Nat.zero_add]
  refine AWP.seq ?_
  refine AWP.regS G_ok spec_SameStore_DD hc (by kernel_rfl) (fun K hK => ?_); simp only [ea, gv, sv, reduceCtorEq, reduceIte, Nat.reduceBEq, Nat.reduceAdd, Nat.reduceEqDiff, Nat.reduceLT, Nat.reduceLeDiff, Nat.reduceMul, Nat.reduceSub, BEq.rfl, beq_self_eq_true, Int.reduceToNat]
  (refine hK _ ?_)
  clear hK K
  refine AWP.seq ?_
  refine AWP.seq ?_
  refine AWP.regS G_ok spec_SameStore_DD hc (by kernel_rfl) (fun K hK => ?_); simp only [ea, gv, sv, reduceCtorEq, reduceIte, Nat.reduceBEq, Nat.reduceAdd, Nat.reduceEqDiff, Nat.reduceLT, Nat.reduceLeDiff, Nat.reduceMul, Nat.reduceSub, BEq.rfl, beq_self_eq_true, Int.reduceToNat]
  (refine hK _ ?_)
  clear hK K
  refine AWP.cond rfl (fun hb => ?_) (fun hb => ?_)
  · (simp only [hb, cond_true] at hR)
    refine AWP.seq ?_
    refine AWP.regS G_ok spec_SameStore_DD hc (by kernel_rfl) (fun K hK => ?_); simp only [ea, gv, sv, reduceCtorEq, reduceIte, Nat.reduceBEq, Nat.reduceAdd, Nat.reduceEqDiff, Nat.reduceLT, Nat.reduceLeDiff, Nat.reduceMul, Nat.reduceSub, BEq.rfl, beq_self_eq_true, Int.reduceToNat]
    (refine hK _ ?_)
    clear hK K
    refine AWP.ret ?_
    subst hR
    (simp only [en, si, ea, gv, sv, hk, reduceCtorEq, reduceIte, Nat.reduceBEq, Nat.reduceAdd, Nat.reduceEqDiff, Nat.reduceLT, Nat.reduceLeDiff, Nat.reduceMul, Nat.reduceSub, BEq.rfl, beq_self_eq_true, Int.reduceToNat]; done)
  · (simp only [hb, cond_false] at hR)
    refine AWP.skip ?_
    refine AWP.seq ?_
    refine AWP.seq ?_
    refine AWP.regS G_ok spec_SameStore_DD hc (by kernel_rfl) (fun K hK => ?_); simp only [ea, gv, sv, reduceCtorEq, reduceIte, Nat.reduceBEq, Nat.reduceAdd, Nat.reduceEqDiff, Nat.reduceLT, Nat.reduceLeDiff, Nat.reduceMul, Nat.reduceSub, BEq.rfl, beq_self_eq_true, Int.reduceToNat]
    (refine hK _ ?_)
    clear hK K
    refine AWP.block ?_
    refine AWP.lensS 8 rfl (fun hLn1 => ?_)
    generalize hz1 : loopR (spec_SameStore_b1 a0 a1) (a0.Spares.length - 0) 0 () = z1 at hR
    refine AWP.range (spec_SameStore_b1 a0 a1) (fun i1 s1 => ⟨[(2, .ptr 0 0), (3, .ptr 1 0), (5, .int .i64 (i1 : Int))], [.box [encL 3 eSpare a0.Spares, encL 3 eEntry a0.Entries], .box [encL 3 eSpare a1.Spares, encL 3 eEntry a1.Entries]]⟩) (fun i1 s1 => True) (a0.Spares.length) 0 () [0, 1] hz1 (by (omega)) (by (trivial)) (by (simp only [si, ea, gv, sv, hk, reduceCtorEq, reduceIte, Nat.reduceBEq, Nat.reduceAdd, Nat.reduceEqDiff, Nat.reduceLT, Nat.reduceLeDiff, Nat.reduceMul, Nat.reduceSub, BEq.rfl, beq_self_eq_true, Int.reduceToNat]; trivial)) ?_
    clear hz1
    intro i1 s1 hi1 hW1 hz1
    refine AWP.seq ?_
    refine AWP.seq ?_
    refine AWP.regS G_ok spec_SameStore_DD hc (by kernel_rfl) (fun K hK => ?_); simp only [ea, gv, sv, reduceCtorEq, reduceIte, Nat.reduceBEq, Nat.reduceAdd, Nat.reduceEqDiff, Nat.reduceLT, Nat.reduceLeDiff, Nat.reduceMul, Nat.reduceSub, BEq.rfl, beq_self_eq_true, Int.reduceToNat]
    (refine hK _ ?_)
    clear hK K
    refine AWP.cond rfl (fun hb => ?_) (fun hb => ?_)
    · have hlt1 : i1 < a0.Spares.length := by ((simp only [ob, ln, bdv, sv] at *; omega))
      rw [loopR_lt hlt1] at hz1; simp only [spec_SameStore_b1] at hz1
      refine AWP.skip ?_
      refine AWP.seq ?_
      refine AWP.block ?_
      refine AWP.seq ?_
      refine AWP.regD mixed G_ok spec_SameStore_DD hc 10 (by kernel_rfl) (by kernel_rfl) (fun K hK => ?_); simp only [ea, gv, sv, reduceCtorEq, reduceIte, Nat.reduceBEq, Nat.reduceAdd, Nat.reduceEqDiff, Nat.reduceLT, Nat.reduceLeDiff, Nat.reduceMul, Nat.reduceSub, BEq.rfl, beq_self_eq_true, Int.reduceToNat]
      (refine ⟨by ((simp only [ob, ln, bdv, sv] at *; omega)), hK _ ?_⟩)
      clear hK K
      refine AWP.cond rfl (fun hb => ?_) (fun hb => ?_)
      · (simp only [hb, cond_true] at hz1)
        refine AWP.seq ?_
        refine AWP.regS G_ok spec_SameStore_DD hc (by kernel_rfl) (fun K hK => ?_); simp only [ea, gv, sv, reduceCtorEq, reduceIte, Nat.reduceBEq, Nat.reduceAdd, Nat.reduceEqDiff, Nat.reduceLT, Nat.reduceLeDiff, Nat.reduceMul, Nat.reduceSub, BEq.rfl, beq_self_eq_true, Int.reduceToNat]
        (refine hK _ ?_)
        clear hK K
        refine AWP.ret ?_
        subst hz1
        dsimp only at hR
        subst hR
        (simp only [en, si, ea, gv, sv, hk, reduceCtorEq, reduceIte, Nat.reduceBEq, Nat.reduceAdd, Nat.reduceEqDiff, Nat.reduceLT, Nat.reduceLeDiff, Nat.reduceMul, Nat.reduceSub, BEq.rfl, beq_self_eq_true, Int.reduceToNat]; done)
      · (simp only [hb, cond_false] at hz1)
        refine AWP.skip ?_
        refine AWP.regS G_ok spec_SameStore_DD hc (by kernel_rfl) (fun K hK => ?_); simp only [ea, gv, sv, reduceCtorEq, reduceIte, Nat.reduceBEq, Nat.reduceAdd, Nat.reduceEqDiff, Nat.reduceLT, Nat.reduceLeDiff, Nat.reduceMul, Nat.reduceSub, BEq.rfl, beq_self_eq_true, Int.reduceToNat]
        (refine hK _ ?_)
        clear hK K
        exact ⟨_, [0, 1], hlt1, by (trivial), hz1, by (simp only [si, ea, gv, sv, hk, reduceCtorEq, reduceIte, Nat.reduceBEq, Nat.reduceAdd, Nat.reduceEqDiff, Nat.reduceLT, Nat.reduceLeDiff, Nat.reduceMul, Nat.reduceSub, BEq.rfl, beq_self_eq_true, Int.reduceToNat]; (and_intros <;> first | trivial | (rw [IntKind.wrap_i64]; omega)))⟩
    · obtain rfl : i1 = a0.Spares.length := by ((simp only [ob, ln, bdv, sv] at *; omega))
      rw [loopR_ge (Nat.le_refl _)] at hz1; subst hz1; dsimp only at hR
      refine AWP.exit ?_; refine exitTo_here ?_
      refine AWP.seq ?_
      refine AWP.seq ?_
      refine AWP.regS G_ok spec_SameStore_DD hc (by kernel_rfl) (fun K hK => ?_); simp only [ea, gv, sv, reduceCtorEq, reduceIte, Nat.reduceBEq, Nat.reduceAdd, Nat.reduceEqDiff, Nat.reduceLT, Nat.reduceLeDiff, Nat.reduceMul, Nat.reduceSub, BEq.rfl, beq_self_eq_true, Int.reduceToNat]
      (refine hK _ ?_)
      clear hK K
      refine AWP.block ?_
      generalize hz2 : loopR (spec_SameStore_b2 a0 a1 s1) (a0.Entries.length - 0) 0 () = z2 at hR
      refine AWP.range (spec_SameStore_b2 a0 a1 s1) (fun i2 s2 => ⟨[(2, .ptr 0 0), (3, .ptr 1 0), (6, .int .i64 (i2 : Int))], [.box [encL 3 eSpare a0.Spares, encL 3 eEntry a0.Entries], .box [encL 3 eSpare a1.Spares, encL 3 eEntry a1.Entries]]⟩) (fun i2 s2 => True) (a0.Entries.length) 0 () [0, 1] hz2 (by (omega)) (by (trivial)) (by (simp only [si, ea, gv, sv, hk, reduceCtorEq, reduceIte, Nat.reduceBEq, Nat.reduceAdd, Nat.reduceEqDiff, Nat.reduceLT, Nat.reduceLeDiff, Nat.reduceMul, Nat.reduceSub, BEq.rfl, beq_self_eq_true, Int.reduceToNat]; trivial)) ?_
      clear hz2
      intro i2 s2 hi2 hW2 hz2
      refine AWP.seq ?_
      refine AWP.seq ?_
      refine AWP.regS G_ok spec_SameStore_DD hc (by kernel_rfl) (fun K hK => ?_); simp only [ea, gv, sv, reduceCtorEq, reduceIte, Nat.reduceBEq, Nat.reduceAdd, Nat.reduceEqDiff, Nat.reduceLT, Nat.reduceLeDiff, Nat.reduceMul, Nat.reduceSub, BEq.rfl, beq_self_eq_true, Int.reduceToNat]
      (refine hK _ ?_)
      clear hK K
      refine AWP.cond rfl (fun hb => ?_) (fun hb => ?_)
      · have hlt2 : i2 < a0.Entries.length := by ((simp only [ob, ln, bdv, sv] at *; omega))
        rw [loopR_lt hlt2] at hz2; simp only [spec_SameStore_b2] at hz2
        refine AWP.skip ?_
        refine AWP.seq ?_
        refine AWP.block ?_
        refine AWP.seq ?_
        refine AWP.regD mixed G_ok spec_SameStore_DD hc 10 (by kernel_rfl) (by kernel_rfl) (fun K hK => ?_); simp only [ea, gv, sv, reduceCtorEq, reduceIte, Nat.reduceBEq, Nat.reduceAdd, Nat.reduceEqDiff, Nat.reduceLT, Nat.reduceLeDiff, Nat.reduceMul, Nat.reduceSub, BEq.rfl, beq_self_eq_true, Int.reduceToNat]
        (refine ⟨by ((simp only [ob, ln, bdv, sv] at *; omega)), hK _ ?_⟩)
        clear hK K
        refine AWP.cond rfl (fun hb => ?_) (fun hb => ?_)
        · (simp only [hb, cond_true] at hz2)
          refine AWP.seq ?_
          refine AWP.regS G_ok spec_SameStore_DD hc (by kernel_rfl) (fun K hK => ?_); simp only [ea, gv, sv, reduceCtorEq, reduceIte, Nat.reduceBEq, Nat.reduceAdd, Nat.reduceEqDiff, Nat.reduceLT, Nat.reduceLeDiff, Nat.reduceMul, Nat.reduceSub, BEq.rfl, beq_self_eq_true, Int.reduceToNat]
          (refine hK _ ?_)
          clear hK K
          refine AWP.ret ?_
          subst hz2
          dsimp only at hR
          subst hR
          (simp only [en, si, ea, gv, sv, hk, reduceCtorEq, reduceIte, Nat.reduceBEq, Nat.reduceAdd, Nat.reduceEqDiff, Nat.reduceLT, Nat.reduceLeDiff, Nat.reduceMul, Nat.reduceSub, BEq.rfl, beq_self_eq_true, Int.reduceToNat]; done)
        · (simp only [hb, cond_false] at hz2)
          refine AWP.skip ?_
          refine AWP.regS G_ok spec_SameStore_DD hc (by kernel_rfl) (fun K hK => ?_); simp only [ea, gv, sv, reduceCtorEq, reduceIte, Nat.reduceBEq, Nat.reduceAdd, Nat.reduceEqDiff, Nat.reduceLT, Nat.reduceLeDiff, Nat.reduceMul, Nat.reduceSub, BEq.rfl, beq_self_eq_true, Int.reduceToNat]
          (refine hK _ ?_)
          clear hK K
          exact ⟨_, [0, 1], hlt2, by (trivial), hz2, by (simp only [si, ea, gv, sv, hk, reduceCtorEq, reduceIte, Nat.reduceBEq, Nat.reduceAdd, Nat.reduceEqDiff, Nat.reduceLT, Nat.reduceLeDiff, Nat.reduceMul, Nat.reduceSub, BEq.rfl, beq_self_eq_true, Int.reduceToNat]; (and_intros <;> first | trivial | (simp only [ob, ln, bdv, sv] at *; omega)))⟩
      · obtain rfl : i2 = a0.Entries.length := by ((simp only [ob, ln, bdv, sv] at *; omega))
        rw [loopR_ge (Nat.le_refl _)] at hz2; subst hz2; dsimp only at hR
        refine AWP.exit ?_; refine exitTo_here ?_
        refine AWP.seq ?_
        refine AWP.regS G_ok spec_SameStore_DD hc (by kernel_rfl) (fun K hK => ?_); simp only [ea, gv, sv, reduceCtorEq, reduceIte, Nat.reduceBEq, Nat.reduceAdd, Nat.reduceEqDiff, Nat.reduceLT, Nat.reduceLeDiff, Nat.reduceMul, Nat.reduceSub, BEq.rfl, beq_self_eq_true, Int.reduceToNat]
        (refine hK _ ?_)
        clear hK K
        refine AWP.ret ?_
        subst hR
        (simp only [en, si, ea, gv, sv, hk, reduceCtorEq, reduceIte, Nat.reduceBEq, Nat.reduceAdd, Nat.reduceEqDiff, Nat.reduceLT, Nat.reduceLeDiff, Nat.reduceMul, Nat.reduceSub, BEq.rfl, beq_self_eq_true, Int.reduceToNat]; done)
def D_spec_SameStore : DF
  | [x0, x1] => some (.bool (spec_SameStore (rdG dStore x0) (rdG dStore x1)), false, [wG eStore dStore x0, wG eStore dStore x1])
  | _ => none
theorem D_spec_SameStore_ok : OkD Tryz.prog 15 D_spec_SameStore := by
  intro xs r z ob h ho
  unfold D_spec_SameStore at h
  split at h
  · simp only [Option.some.injEq, Prod.mk.injEq] at h
    obtain ⟨rfl, rfl, rfl⟩ := h
    obtain ⟨h0, h1, _⟩ := ho
    exact Den.sim (spec_SameStore_den _ _ ) (simOL_cons (wG_sim h0).1 <| simOL_cons (wG_sim h1).1 <| trivial) (noIdL_cons (wG_sim h0).2 <| noIdL_cons (wG_sim h1).2 <| rfl) rfl
  · cases h
end Go.Ab

namespace Go.Ab
open Go Go.Proofs
theorem bw_put (st : Store) (ha : bwStore st) (e : Entry) (he : e.Item.length < 9223372036854775808) (hl : st.Entries.length ≤ 48) (pre post : List Entry) (h : st.Entries = pre ++ post) :
    bwStore ⟨st.Spares, pre ++ e :: post⟩ := by
  have h2 := ha.2.2
  rw [h] at hl h2
  refine ⟨ha.1, ⟨by simp only [List.length_append, List.length_cons] at hl ⊢; omega, fun v hv => ?_⟩⟩
  rcases List.mem_append.1 hv with h | h
  · exact h2 v (List.mem_append_left _ h)
  · rcases List.mem_cons.1 h with h | h
    · subst h; exact he
    · exact h2 v (List.mem_append_right _ h)
theorem count_loop (d : Int) (l : List Entry) (hl : l.length ≤ 48) : ∀ (t : List Entry) (s : Int), 0 ≤ s → s + t.length ≤ 48 →
    loopL (fun (x : Entry) (s : Int) => (bif decide (x.Day ≤ d) then (.ok (IntKind.wrap .i64 (s + 1)) : Except Bool Int) else .ok s)) t s = .ok (s + ((t.filter (fun x => decide (x.Day ≤ d))).length : Int))
  | [], s, _, _ => by simp [loopL]
  | x :: t, s, h0, h1 => by
    simp only [List.length_cons] at h1
    rw [loopL_cons]
    cases hx : decide (x.Day ≤ d) with
    | true =>
      have hw : IntKind.wrap .i64 (s + 1) = s + 1 := by rw [IntKind.wrap_i64]; omega
      simp only [cond_true, hw]
      rw [count_loop d l hl t (s + 1) (by omega) (by omega), List.filter_cons, hx]
      simp only [if_true, List.length_cons]
      congr 1; omega
    | false =>
      simp only [cond_false]
      rw [count_loop d l hl t s h0 (by omega), List.filter_cons, hx]
      simp
theorem filter_pre (d : Int) (pre post : List Entry) (h1 : ∀ x ∈ pre, x.Day ≤ d) (h2 : ∀ x ∈ post, d < x.Day) : (pre ++ post).filter (fun x => decide (x.Day ≤ d)) = pre := by
  rw [List.filter_append, List.filter_eq_self.2 (fun x hx => decide_eq_true (h1 x hx)), List.filter_eq_nil_iff.2 (fun x hx => by have := h2 x hx; simp; omega), List.append_nil]
theorem drop_add (st : Store) (hok : OkS st) (ha : bwStore st) (i : Nat) (hi : i < st.Spares.length) (hl : st.Entries.length ≤ 9) (e : Entry) (he : e.Item = (st.Spares.getD i default).Name) (hd : spec_l03Day e.Day = true)
    (h0 : e.Amount ≠ 0) (h1 : -1000 ≤ e.Amount) (h2 : e.Amount ≤ 1000) :
    (∃ st', impl_AddEntry st e = (st', 0) ∧ impl_DropEntry st' ((st.Entries.filter (fun x => decide (x.Day ≤ e.Day))).length : Int) = (st, 0)) ∨ (impl_AddEntry st e).2 = 6 := by
  have hadd := add_at st hok ha (by omega) i hi e he hd h0 h1 h2
  cases hf : spec_l29Flow (spec_l29Put st e) (i : Int) with
  | false => right; rw [hadd, hf]; rfl
  | true =>
    left
    rw [hf, cond_true] at hadd
    obtain ⟨pre, post, p1, p2, p3, p4⟩ := split_at st hok e
    have hok' : OkS (spec_l29Put st e) := by
      have h9 := specAdd_ok st e (by rw [← addE_eq _ _ ha, hadd])
      rwa [← addE_eq _ _ ha, hadd] at h9
    have hlen : pre.length + post.length ≤ 9 := by rw [← List.length_append, ← p1]; exact hl
    refine ⟨_, hadd, ?_⟩
    rw [p1, filter_pre e.Day pre post p2 p3]
    rw [p4] at hok' ⊢
    have hit : e.Item.length < 9223372036854775808 := by rw [he]; exact ha.1.2 _ (by rw [List.getD_eq_getElem?_getD, List.getElem?_eq_getElem hi, Option.getD_some]; exact List.getElem_mem hi)
    have hb := bw_put st ha e hit (by omega) pre post p1
    unfold impl_DropEntry
    rw [validStore_eq _ hb, (specOk_iff _).2 hok']
    simp only [Bool.not_true, cond_false]
    have hat : impl_at (pre.length : Int) ((pre ++ e :: post).length : Int) = true := by
      unfold impl_at
      simp only [List.length_append, List.length_cons, Bool.and_eq_true, decide_eq_true_eq]
      omega
    rw [hat]
    simp only [Bool.not_true, cond_false, impl_clone_Spare_id, impl_clone_Entry_id]
    have hw : IntKind.wrap .i64 ((pre.length : Int) + 1) = (pre.length : Int) + 1 := by rw [IntKind.wrap_i64]; omega
    have hdel : slices_Delete_Entry (pre ++ e :: post) (pre.length : Int) ((pre.length : Int) + 1) = pre ++ post := by
      unfold slices_Delete_Entry
      simp only [Int.toNat_natCast]
      have : ((pre.length : Int) + 1).toNat = pre.length + 1 := by omega
      rw [this, List.take_left' rfl, ← List.drop_drop, List.drop_left' rfl]
      simp
    rw [hw, hdel, ← p1]
    have hst : (⟨st.Spares, st.Entries⟩ : Store) = st := rfl
    rw [hst, validStore_eq _ ha, (specOk_iff _).2 hok]
    rfl
end Go.Ab

namespace Go.Ab
open Go Go.Proofs
theorem same_step_Spare (a b : Spare) : ((a.Name == b.Name && (a.Least == b.Least && a.Most == b.Most))) = decide (a = b) := by
  cases a; cases b
  apply Bool.eq_iff_iff.2
  simp [Spare.mk.injEq]
end Go.Ab

namespace Go.Ab
open Go Go.Proofs
theorem same_step_Entry (a b : Entry) : ((a.Day == b.Day && (a.Item == b.Item && a.Amount == b.Amount))) = decide (a = b) := by
  cases a; cases b
  apply Bool.eq_iff_iff.2
  simp [Entry.mk.injEq]
end Go.Ab

namespace Go.Ab
open Go Go.Proofs
theorem spec_SameStore_dec (a b : Store) : spec_SameStore a b = decide (a = b) := by
  unfold spec_SameStore
  rw [loopR_any (b := spec_SameStore_b1 a b) (fun j => !decide (a.Spares.getD j default = b.Spares.getD j default)) false (fun j u _ _ => by simp only [spec_SameStore_b1, same_step_Spare])]
  have h2 : ∀ s, loopR (spec_SameStore_b2 a b s) (a.Entries.length - 0) 0 () = _ := fun s => loopR_any (b := spec_SameStore_b2 a b s) (fun j => !decide (a.Entries.getD j default = b.Entries.getD j default)) false (fun j u _ _ => by simp only [spec_SameStore_b2, same_step_Entry])
  simp only [Nat.sub_zero, Nat.zero_add] at h2 ⊢
  simp only [h2]
  clear h2
  obtain ⟨s, e⟩ := a
  obtain ⟨t, f⟩ := b
  simp only
  by_cases l1 : s.length = t.length
  · by_cases l2 : e.length = f.length
    · rw [any_ne s t l1, any_ne e f l2]
      by_cases h1 : s = t <;> by_cases h2 : e = f <;> simp [h1, h2]
    · have : ¬ e = f := fun h => l2 (by rw [h])
      have hc : (((s.length : Int) != (t.length : Int)) || ((e.length : Int) != (f.length : Int))) = true := by simp; omega
      rw [hc]; simp [this]
  · have : ¬ s = t := fun h => l1 (by rw [h])
    have hc : (((s.length : Int) != (t.length : Int)) || ((e.length : Int) != (f.length : Int))) = true := by simp; omega
    rw [hc]; simp [this]
end Go.Ab

namespace Go.Ab
open Go Go.Proofs
theorem impl_AddEntry_mem (a : Store) (e : Entry) (hl : a.Entries.length < 9223372036854775808) :
    (∀ v, v ∈ (impl_AddEntry a e).1.Spares → v ∈ a.Spares) ∧ (∀ v, v ∈ (impl_AddEntry a e).1.Entries → v ∈ a.Entries ∨ v = e) ∧
    (impl_AddEntry a e).1.Spares.length ≤ a.Spares.length ∧ (impl_AddEntry a e).1.Entries.length ≤ a.Entries.length + 1 := by
  obtain ⟨j, h1, h2, h3, h4⟩ := impl_Store_put_spec a e hl
  unfold impl_AddEntry
  rw [h4]
  simp only [Bool.cond_eq_ite]
  repeat' split
  all_goals first
    | (refine ⟨fun v hv => ?_, fun v hv => ?_, Nat.zero_le _, Nat.zero_le _⟩ <;> simp at hv; done)
    | (refine ⟨fun v hv => hv, fun v hv => ?_, Nat.le_refl _, ?_⟩
       · simp only [List.mem_append, List.mem_singleton] at hv
         rcases hv with (h | h) | h
         · exact .inl (List.mem_of_mem_take h)
         · exact .inr h
         · exact .inl (List.mem_of_mem_drop h)
       · simp only [List.length_append, List.length_take, List.length_cons, List.length_drop, List.length_nil]; omega)
end Go.Ab

namespace Go.Ab
open Go Go.Proofs
theorem put_fail (a : Store) (e : Entry) (hok : OkS a) (he : spec_l29Entry e = true) (h : (impl_Store_put a e).2 ≠ 0) : (impl_Store_put a e).1 = ⟨[], []⟩ := by
  rw [(put_add a e hok he).1] at h ⊢
  unfold spec_l29Add at h ⊢
  cases h1 : decide (spec_l29Find a e.Item < 0) with
  | true => rfl
  | false =>
    cases h2 : ((a.Entries.length : Int) == 48) with
    | true => rfl
    | false =>
      cases h3 : spec_l29Flow ({ Spares := (spec_l29Put a e).Spares, Entries := (spec_l29Put a e).Entries : Store }) (spec_l29Find a e.Item) with
      | false => rfl
      | true => rw [h1, h2, h3] at h; exact absurd rfl h
theorem add_put (a : Store) (e : Entry) (hok : OkS a) (ha : bwStore a) (he : spec_l29Entry e = true) : impl_AddEntry a e = impl_Store_put a e := by
  unfold impl_AddEntry
  rw [validStore_eq a ha, (specOk_iff a).2 hok, isEntry_eq, he]
  rfl
theorem put_bw (a : Store) (e : Entry) (hok : OkS a) (ha : bwStore a) (he : spec_l29Entry e = true) (hi : e.Item.length < 9223372036854775808) (h : (impl_Store_put a e).2 = 0) : OkS (impl_Store_put a e).1 ∧ bwStore (impl_Store_put a e).1 := by
  have hl := hok.l2
  have hm := impl_AddEntry_mem a e (by omega)
  rw [add_put a e hok ha he] at hm
  refine ⟨?_, ⟨⟨?_, fun v hv => ha.1.2 v (hm.1 v hv)⟩, ⟨?_, fun v hv => ?_⟩⟩⟩
  · rw [(put_add a e hok he).1] at h ⊢
    exact (put_add a e hok he).2 h
  · have := ha.1.1; omega
  · omega
  · rcases hm.2.1 v hv with h | h
    · exact ha.2.2 v h
    · subst h; exact hi
theorem take_two (a : Store) (hok : OkS a) (ha : bwStore a) (d : Int) (hd : spec_l03Day d = true) (n1 n2 : Entry) (hn1 : spec_l29Entry n1 = true) (hn2 : spec_l29Entry n2 = true) (hp1 : 0 ≤ n1.Amount) (hp2 : 0 ≤ n2.Amount) :
    impl_TakeAll a d [n1, n2] = bif ((impl_Store_put a ⟨d, n1.Item, IntKind.wrap .i64 (0 - n1.Amount)⟩).2 != 0) then (⟨[], []⟩, (impl_Store_put a ⟨d, n1.Item, IntKind.wrap .i64 (0 - n1.Amount)⟩).2) else
      bif ((impl_Store_put (impl_Store_put a ⟨d, n1.Item, IntKind.wrap .i64 (0 - n1.Amount)⟩).1 ⟨d, n2.Item, IntKind.wrap .i64 (0 - n2.Amount)⟩).2 != 0) then (⟨[], []⟩, (impl_Store_put (impl_Store_put a ⟨d, n1.Item, IntKind.wrap .i64 (0 - n1.Amount)⟩).1 ⟨d, n2.Item, IntKind.wrap .i64 (0 - n2.Amount)⟩).2) else
        ((impl_Store_put (impl_Store_put a ⟨d, n1.Item, IntKind.wrap .i64 (0 - n1.Amount)⟩).1 ⟨d, n2.Item, IntKind.wrap .i64 (0 - n2.Amount)⟩).1, 0) := by
  unfold impl_TakeAll
  rw [validStore_eq a ha, (specOk_iff a).2 hok, needs_eq]
  have hany : [n1, n2].any (fun e => !(spec_l29Entry e) || decide (e.Amount < 0)) = false := by
    have c1 : decide (n1.Amount < 0) = false := decide_eq_false (by omega)
    have c2 : decide (n2.Amount < 0) = false := decide_eq_false (by omega)
    simp [hn1, hn2, c1, c2]
  have hd' : impl_isDay d = true := hd
  rw [hany, hd']
  simp only [Bool.not_true, Bool.or_false, cond_false, impl_clone_Spare_id, impl_clone_Entry_id]
  rw [loopR_list0 (b := impl_TakeAll_b1 a d [n1, n2]) (stepI d) [n1, n2] (a.Spares, a.Entries) (fun j u hj => rfl)]
  have e1 : ∀ s : Store, (⟨s.Spares, s.Entries⟩ : Store) = s := fun _ => rfl
  simp only [loopL, stepI, e1]
  cases (impl_Store_put a ⟨d, n1.Item, IntKind.wrap .i64 (0 - n1.Amount)⟩).2 != 0 with
  | true => rfl
  | false =>
    simp only [cond_false]
    cases (impl_Store_put (impl_Store_put a ⟨d, n1.Item, IntKind.wrap .i64 (0 - n1.Amount)⟩).1 ⟨d, n2.Item, IntKind.wrap .i64 (0 - n2.Amount)⟩).2 != 0 with
    | true => rfl
    | false => rfl
end Go.Ab

namespace Go.Ab
open Go Go.Proofs
theorem r8_bw (a0 : List Int) (h : ∀ v ∈ a0, 0 ≤ v ∧ v ≤ 255) : bwStore (spec_R8Store a0) := by
  have hb := r8_bd a0 h
  refine ⟨⟨by rw [hb.1]; simp [spec_l29Base], ?_⟩, ⟨by omega, fun v hv => ?_⟩⟩
  · rw [hb.1]; intro v hv
    simp only [spec_l29Base, List.mem_cons, List.not_mem_nil, or_false] at hv
    rcases hv with h | h | h <;> subst h <;> (show List.length _ < 9223372036854775808; simp)
  · have := hb.2.2 v hv
    show List.length _ < 9223372036854775808; omega
end Go.Ab

namespace Go.Ab
open Go Go.Proofs
theorem impl_EntryText_len (e : Entry) : (impl_EntryText e).length ≤ 1048576 := by
  cases h : spec_l29Entry e with
  | true =>
    obtain ⟨h1, h2, h3, h4, h5⟩ := entry_text h
    obtain ⟨y, m, d, _, _, _, _, _, _, _, _, h6⟩ := dateText_D10 h2 h3
    have h7 := (isName_iff _).1 h5
    have h8 : (Lib.itoa e.Amount).length ≤ 19 := by
      have := (decDigits_len18 e.Amount.natAbs).2 (by unfold E18 at h4; exact h4)
      by_cases hn : e.Amount < 0
      · rw [itoa_neg' hn, List.length_cons]; omega
      · rw [itoa_nn hn]; omega
    rw [h1, h6]
    simp only [D10, pad4, pad2, List.length_append, List.length_cons, List.length_nil]
    omega
  | false =>
    unfold impl_EntryText
    rw [entryOk, h]
    simp
end Go.Ab

namespace Go.Ab
open Go Go.Proofs
theorem laws_r8Long_DD : DOk Tryz.prog (DD []) := DD_nil _
def laws_r8Long (a0 : (List Int)) (a1 : (List Int)) : Bool :=
  (decide (1048576 < (a0.length : Int)) || decide (1048576 < (a1.length : Int)))
theorem laws_r8Long_den (a0 : (List Int)) (a1 : (List Int))  : Den Tryz.prog 7 [encL 1 eIu8 a0, encL 1 eIu8 a1] (.bool (laws_r8Long a0 a1)) := by
  generalize hR : laws_r8Long a0 a1 = r
  unfold laws_r8Long at hR
  refine den_intro G_ok Tryz.func7 (by kernel_rfl) rfl Tryz.ntmps7 (by rw [Tryz.results7]) (by simp) rfl ?_
  intro c hL hc hk
  obtain ⟨hL0, hL1, _⟩ := hL
  have hw0 : a0.length < 9223372036854775808 := Nat.lt_succ_of_le (lens_encL hL0).1
  have hw1 : a1.length < 9223372036854775808 := Nat.lt_succ_of_le (lens_encL hL1).1
  clear hL0 hL1
  simp only [pars, Nat.zero_add]
  refine AWP.seq ?_
  refine AWP.regS G_ok laws_r8Long_DD hc (by kernel_rfl) (fun K hK => ?_); simp only [ea, gv, sv, reduceCtorEq, reduceIte, Nat.reduceBEq, Nat.reduceAdd, Nat.reduceEqDiff, Nat.reduceLT, Nat.reduceLeDiff, Nat.reduceMul, Nat.reduceSub, BEq.rfl, beq_self_eq_true, Int.reduceToNat]
  (refine hK _ ?_)
  clear hK K
  refine AWP.seq ?_
  refine AWP.regS G_ok laws_r8Long_DD hc (by kernel_rfl) (fun K hK => ?_); simp only [ea, gv, sv, reduceCtorEq, reduceIte, Nat.reduceBEq, Nat.reduceAdd, Nat.reduceEqDiff, Nat.reduceLT, Nat.reduceLeDiff, Nat.reduceMul, Nat.reduceSub, BEq.rfl, beq_self_eq_true, Int.reduceToNat]
  (refine hK _ ?_)
  clear hK K
  refine AWP.ret ?_
  subst hR
  (simp only [en, si, ea, gv, sv, hk, reduceCtorEq, reduceIte, Nat.reduceBEq, Nat.reduceAdd, Nat.reduceEqDiff, Nat.reduceLT, Nat.reduceLeDiff, Nat.reduceMul, Nat.reduceSub, BEq.rfl, beq_self_eq_true, Int.reduceToNat]; done)
def D_laws_r8Long : DF
  | [x0, x1] => some (.bool (laws_r8Long (rdL dIu8 x0) (rdL dIu8 x1)), false, [wL 1 eIu8 dIu8 x0, wL 1 eIu8 dIu8 x1])
  | _ => none
theorem D_laws_r8Long_ok : OkD Tryz.prog 7 D_laws_r8Long := by
  intro xs r z ob h ho
  unfold D_laws_r8Long at h
  split at h
  · simp only [Option.some.injEq, Prod.mk.injEq] at h
    obtain ⟨rfl, rfl, rfl⟩ := h
    obtain ⟨h0, h1, _⟩ := ho
    exact Den.sim (laws_r8Long_den _ _ ) (simOL_cons (wL_sim h0).1 <| simOL_cons (wL_sim h1).1 <| trivial) (noIdL_cons (wL_sim h0).2 <| noIdL_cons (wL_sim h1).2 <| rfl) rfl
  · cases h
end Go.Ab

namespace Go.Ab
open Go Go.Proofs
theorem laws_FnBookings_DD : DOk Tryz.prog (DD [(10, dP D_laws_r8Wide), (11, dP D_impl_ReadEntry), (12, dP D_impl_EntryText), (13, dP D_impl_AddEntry), (14, dP D_impl_DropEntry), (15, dP D_spec_SameStore), (16, dP D_impl_TakeAll), (7, dP D_laws_r8Long), (8, dP D_spec_R8Store), (9, dP D_laws_r8At)]) := DD_cons D_laws_r8Wide_ok.e <| DD_cons D_impl_ReadEntry_ok.e <| DD_cons D_impl_EntryText_ok.e <| DD_cons D_impl_AddEntry_ok.e <| DD_cons D_impl_DropEntry_ok.e <| DD_cons D_spec_SameStore_ok.e <| DD_cons D_impl_TakeAll_ok.e <| DD_cons D_laws_r8Long_ok.e <| DD_cons D_spec_R8Store_ok.e <| DD_cons D_laws_r8At_ok.e <| DD_nil _
def laws_FnBookings_b1 (a0 : (List Int)) (a1 : (List Int)) (i1 : Nat) (s1 : Int) : Except (Bool) (Int) :=
  (bif decide (((((spec_R8Store a0).Entries).getD i1 default).Day) ≤ (laws_r8Wide a1 1 220)) then .ok (IntKind.wrap .i64 (s1 + 1)) else .ok s1)
def laws_FnBookings (a0 : (List Int)) (a1 : (List Int)) : Bool :=
  (bif (laws_r8Long a0 a1) then true else (bif ((!((impl_ReadEntry (impl_EntryText ({ Day := (laws_r8Wide a1 1 220), Item := (((spec_R8Store a0).Spares).getD (((laws_r8At a1 0 (((spec_R8Store a0).Spares).length : Int))).toNat) default).Name, Amount := IntKind.wrap .i64 (1 + (laws_r8At a1 3 20)) : Entry }))).2)) || (!((((impl_ReadEntry (impl_EntryText ({ Day := (laws_r8Wide a1 1 220), Item := (((spec_R8Store a0).Spares).getD (((laws_r8At a1 0 (((spec_R8Store a0).Spares).length : Int))).toNat) default).Name, Amount := IntKind.wrap .i64 (1 + (laws_r8At a1 3 20)) : Entry }))).1).Day) == (laws_r8Wide a1 1 220) && ((((impl_ReadEntry (impl_EntryText ({ Day := (laws_r8Wide a1 1 220), Item := (((spec_R8Store a0).Spares).getD (((laws_r8At a1 0 (((spec_R8Store a0).Spares).length : Int))).toNat) default).Name, Amount := IntKind.wrap .i64 (1 + (laws_r8At a1 3 20)) : Entry }))).1).Item) == ((((spec_R8Store a0).Spares).getD (((laws_r8At a1 0 (((spec_R8Store a0).Spares).length : Int))).toNat) default).Name) && (((impl_ReadEntry (impl_EntryText ({ Day := (laws_r8Wide a1 1 220), Item := (((spec_R8Store a0).Spares).getD (((laws_r8At a1 0 (((spec_R8Store a0).Spares).length : Int))).toNat) default).Name, Amount := IntKind.wrap .i64 (1 + (laws_r8At a1 3 20)) : Entry }))).1).Amount) == (IntKind.wrap .i64 (1 + (laws_r8At a1 3 20))))))) then false else (bif (((impl_AddEntry ({ Spares := (spec_R8Store a0).Spares, Entries := (spec_R8Store a0).Entries : Store }) ({ Day := (laws_r8Wide a1 1 220), Item := (((spec_R8Store a0).Spares).getD (((laws_r8At a1 0 (((spec_R8Store a0).Spares).length : Int))).toNat) default).Name, Amount := IntKind.wrap .i64 (1 + (laws_r8At a1 3 20)) : Entry })).2) == 0) then (match loopR (laws_FnBookings_b1 a0 a1) ((((spec_R8Store a0).Entries).length) - 0) 0 0 with | .error e => e | .ok s1 => (bif ((((impl_DropEntry ({ Spares := ((impl_AddEntry ({ Spares := (spec_R8Store a0).Spares, Entries := (spec_R8Store a0).Entries : Store }) ({ Day := (laws_r8Wide a1 1 220), Item := (((spec_R8Store a0).Spares).getD (((laws_r8At a1 0 (((spec_R8Store a0).Spares).length : Int))).toNat) default).Name, Amount := IntKind.wrap .i64 (1 + (laws_r8At a1 3 20)) : Entry })).1).Spares, Entries := ((impl_AddEntry ({ Spares := (spec_R8Store a0).Spares, Entries := (spec_R8Store a0).Entries : Store }) ({ Day := (laws_r8Wide a1 1 220), Item := (((spec_R8Store a0).Spares).getD (((laws_r8At a1 0 (((spec_R8Store a0).Spares).length : Int))).toNat) default).Name, Amount := IntKind.wrap .i64 (1 + (laws_r8At a1 3 20)) : Entry })).1).Entries : Store }) s1).2) != 0) || (!(spec_SameStore ({ Spares := ((impl_DropEntry ({ Spares := ((impl_AddEntry ({ Spares := (spec_R8Store a0).Spares, Entries := (spec_R8Store a0).Entries : Store }) ({ Day := (laws_r8Wide a1 1 220), Item := (((spec_R8Store a0).Spares).getD (((laws_r8At a1 0 (((spec_R8Store a0).Spares).length : Int))).toNat) default).Name, Amount := IntKind.wrap .i64 (1 + (laws_r8At a1 3 20)) : Entry })).1).Spares, Entries := ((impl_AddEntry ({ Spares := (spec_R8Store a0).Spares, Entries := (spec_R8Store a0).Entries : Store }) ({ Day := (laws_r8Wide a1 1 220), Item := (((spec_R8Store a0).Spares).getD (((laws_r8At a1 0 (((spec_R8Store a0).Spares).length : Int))).toNat) default).Name, Amount := IntKind.wrap .i64 (1 + (laws_r8At a1 3 20)) : Entry })).1).Entries : Store }) s1).1).Spares, Entries := ((impl_DropEntry ({ Spares := ((impl_AddEntry ({ Spares := (spec_R8Store a0).Spares, Entries := (spec_R8Store a0).Entries : Store }) ({ Day := (laws_r8Wide a1 1 220), Item := (((spec_R8Store a0).Spares).getD (((laws_r8At a1 0 (((spec_R8Store a0).Spares).length : Int))).toNat) default).Name, Amount := IntKind.wrap .i64 (1 + (laws_r8At a1 3 20)) : Entry })).1).Spares, Entries := ((impl_AddEntry ({ Spares := (spec_R8Store a0).Spares, Entries := (spec_R8Store a0).Entries : Store }) ({ Day := (laws_r8Wide a1 1 220), Item := (((spec_R8Store a0).Spares).getD (((laws_r8At a1 0 (((spec_R8Store a0).Spares).length : Int))).toNat) default).Name, Amount := IntKind.wrap .i64 (1 + (laws_r8At a1 3 20)) : Entry })).1).Entries : Store }) s1).1).Entries : Store }) ({ Spares := (spec_R8Store a0).Spares, Entries := (spec_R8Store a0).Entries : Store })))) then false else (bif (((impl_AddEntry ({ Spares := (spec_R8Store a0).Spares, Entries := (spec_R8Store a0).Entries : Store }) ({ Day := (laws_r8Wide a1 1 220), Item := (((spec_R8Store a0).Spares).getD (((laws_r8At a1 0 (((spec_R8Store a0).Spares).length : Int))).toNat) default).Name, Amount := IntKind.wrap .i64 (0 - (IntKind.wrap .i64 (1 + (laws_r8At a1 3 20)))) : Entry })).2) != 0) then (((impl_TakeAll ({ Spares := (spec_R8Store a0).Spares, Entries := (spec_R8Store a0).Entries : Store }) (laws_r8Wide a1 1 220) [{ Day := 0, Item := (((spec_R8Store a0).Spares).getD (((laws_r8At a1 0 (((spec_R8Store a0).Spares).length : Int))).toNat) default).Name, Amount := IntKind.wrap .i64 (1 + (laws_r8At a1 3 20)) : Entry }, { Day := 0, Item := (((spec_R8Store a0).Spares).getD 0 default).Name, Amount := 1 : Entry }]).2) == ((impl_AddEntry ({ Spares := (spec_R8Store a0).Spares, Entries := (spec_R8Store a0).Entries : Store }) ({ Day := (laws_r8Wide a1 1 220), Item := (((spec_R8Store a0).Spares).getD (((laws_r8At a1 0 (((spec_R8Store a0).Spares).length : Int))).toNat) default).Name, Amount := IntKind.wrap .i64 (0 - (IntKind.wrap .i64 (1 + (laws_r8At a1 3 20)))) : Entry })).2)) else ((((impl_TakeAll ({ Spares := (spec_R8Store a0).Spares, Entries := (spec_R8Store a0).Entries : Store }) (laws_r8Wide a1 1 220) [{ Day := 0, Item := (((spec_R8Store a0).Spares).getD (((laws_r8At a1 0 (((spec_R8Store a0).Spares).length : Int))).toNat) default).Name, Amount := IntKind.wrap .i64 (1 + (laws_r8At a1 3 20)) : Entry }, { Day := 0, Item := (((spec_R8Store a0).Spares).getD 0 default).Name, Amount := 1 : Entry }]).2) == ((impl_AddEntry ({ Spares := ((impl_AddEntry ({ Spares := (spec_R8Store a0).Spares, Entries := (spec_R8Store a0).Entries : Store }) ({ Day := (laws_r8Wide a1 1 220), Item := (((spec_R8Store a0).Spares).getD (((laws_r8At a1 0 (((spec_R8Store a0).Spares).length : Int))).toNat) default).Name, Amount := IntKind.wrap .i64 (0 - (IntKind.wrap .i64 (1 + (laws_r8At a1 3 20)))) : Entry })).1).Spares, Entries := ((impl_AddEntry ({ Spares := (spec_R8Store a0).Spares, Entries := (spec_R8Store a0).Entries : Store }) ({ Day := (laws_r8Wide a1 1 220), Item := (((spec_R8Store a0).Spares).getD (((laws_r8At a1 0 (((spec_R8Store a0).Spares).length : Int))).toNat) default).Name, Amount := IntKind.wrap .i64 (0 - (IntKind.wrap .i64 (1 + (laws_r8At a1 3 20)))) : Entry })).1).Entries : Store }) ({ Day := (laws_r8Wide a1 1 220), Item := (((spec_R8Store a0).Spares).getD 0 default).Name, Amount := (-1) : Entry })).2)) && (spec_SameStore ({ Spares := ((impl_TakeAll ({ Spares := (spec_R8Store a0).Spares, Entries := (spec_R8Store a0).Entries : Store }) (laws_r8Wide a1 1 220) [{ Day := 0, Item := (((spec_R8Store a0).Spares).getD (((laws_r8At a1 0 (((spec_R8Store a0).Spares).length : Int))).toNat) default).Name, Amount := IntKind.wrap .i64 (1 + (laws_r8At a1 3 20)) : Entry }, { Day := 0, Item := (((spec_R8Store a0).Spares).getD 0 default).Name, Amount := 1 : Entry }]).1).Spares, Entries := ((impl_TakeAll ({ Spares := (spec_R8Store a0).Spares, Entries := (spec_R8Store a0).Entries : Store }) (laws_r8Wide a1 1 220) [{ Day := 0, Item := (((spec_R8Store a0).Spares).getD (((laws_r8At a1 0 (((spec_R8Store a0).Spares).length : Int))).toNat) default).Name, Amount := IntKind.wrap .i64 (1 + (laws_r8At a1 3 20)) : Entry }, { Day := 0, Item := (((spec_R8Store a0).Spares).getD 0 default).Name, Amount := 1 : Entry }]).1).Entries : Store }) ({ Spares := ((impl_AddEntry ({ Spares := ((impl_AddEntry ({ Spares := (spec_R8Store a0).Spares, Entries := (spec_R8Store a0).Entries : Store }) ({ Day := (laws_r8Wide a1 1 220), Item := (((spec_R8Store a0).Spares).getD (((laws_r8At a1 0 (((spec_R8Store a0).Spares).length : Int))).toNat) default).Name, Amount := IntKind.wrap .i64 (0 - (IntKind.wrap .i64 (1 + (laws_r8At a1 3 20)))) : Entry })).1).Spares, Entries := ((impl_AddEntry ({ Spares := (spec_R8Store a0).Spares, Entries := (spec_R8Store a0).Entries : Store }) ({ Day := (laws_r8Wide a1 1 220), Item := (((spec_R8Store a0).Spares).getD (((laws_r8At a1 0 (((spec_R8Store a0).Spares).length : Int))).toNat) default).Name, Amount := IntKind.wrap .i64 (0 - (IntKind.wrap .i64 (1 + (laws_r8At a1 3 20)))) : Entry })).1).Entries : Store }) ({ Day := (laws_r8Wide a1 1 220), Item := (((spec_R8Store a0).Spares).getD 0 default).Name, Amount := (-1) : Entry })).1).Spares, Entries := ((impl_AddEntry ({ Spares := ((impl_AddEntry ({ Spares := (spec_R8Store a0).Spares, Entries := (spec_R8Store a0).Entries : Store }) ({ Day := (laws_r8Wide a1 1 220), Item := (((spec_R8Store a0).Spares).getD (((laws_r8At a1 0 (((spec_R8Store a0).Spares).length : Int))).toNat) default).Name, Amount := IntKind.wrap .i64 (0 - (IntKind.wrap .i64 (1 + (laws_r8At a1 3 20)))) : Entry })).1).Spares, Entries := ((impl_AddEntry ({ Spares := (spec_R8Store a0).Spares, Entries := (spec_R8Store a0).Entries : Store }) ({ Day := (laws_r8Wide a1 1 220), Item := (((spec_R8Store a0).Spares).getD (((laws_r8At a1 0 (((spec_R8Store a0).Spares).length : Int))).toNat) default).Name, Amount := IntKind.wrap .i64 (0 - (IntKind.wrap .i64 (1 + (laws_r8At a1 3 20)))) : Entry })).1).Entries : Store }) ({ Day := (laws_r8Wide a1 1 220), Item := (((spec_R8Store a0).Spares).getD 0 default).Name, Amount := (-1) : Entry })).1).Entries : Store })))))) else (bif (((impl_AddEntry ({ Spares := (spec_R8Store a0).Spares, Entries := (spec_R8Store a0).Entries : Store }) ({ Day := (laws_r8Wide a1 1 220), Item := (((spec_R8Store a0).Spares).getD (((laws_r8At a1 0 (((spec_R8Store a0).Spares).length : Int))).toNat) default).Name, Amount := IntKind.wrap .i64 (1 + (laws_r8At a1 3 20)) : Entry })).2) != 6) then false else (bif (((impl_AddEntry ({ Spares := (spec_R8Store a0).Spares, Entries := (spec_R8Store a0).Entries : Store }) ({ Day := (laws_r8Wide a1 1 220), Item := (((spec_R8Store a0).Spares).getD (((laws_r8At a1 0 (((spec_R8Store a0).Spares).length : Int))).toNat) default).Name, Amount := IntKind.wrap .i64 (0 - (IntKind.wrap .i64 (1 + (laws_r8At a1 3 20)))) : Entry })).2) != 0) then (((impl_TakeAll ({ Spares := (spec_R8Store a0).Spares, Entries := (spec_R8Store a0).Entries : Store }) (laws_r8Wide a1 1 220) [{ Day := 0, Item := (((spec_R8Store a0).Spares).getD (((laws_r8At a1 0 (((spec_R8Store a0).Spares).length : Int))).toNat) default).Name, Amount := IntKind.wrap .i64 (1 + (laws_r8At a1 3 20)) : Entry }, { Day := 0, Item := (((spec_R8Store a0).Spares).getD 0 default).Name, Amount := 1 : Entry }]).2) == ((impl_AddEntry ({ Spares := (spec_R8Store a0).Spares, Entries := (spec_R8Store a0).Entries : Store }) ({ Day := (laws_r8Wide a1 1 220), Item := (((spec_R8Store a0).Spares).getD (((laws_r8At a1 0 (((spec_R8Store a0).Spares).length : Int))).toNat) default).Name, Amount := IntKind.wrap .i64 (0 - (IntKind.wrap .i64 (1 + (laws_r8At a1 3 20)))) : Entry })).2)) else ((((impl_TakeAll ({ Spares := (spec_R8Store a0).Spares, Entries := (spec_R8Store a0).Entries : Store }) (laws_r8Wide a1 1 220) [{ Day := 0, Item := (((spec_R8Store a0).Spares).getD (((laws_r8At a1 0 (((spec_R8Store a0).Spares).length : Int))).toNat) default).Name, Amount := IntKind.wrap .i64 (1 + (laws_r8At a1 3 20)) : Entry }, { Day := 0, Item := (((spec_R8Store a0).Spares).getD 0 default).Name, Amount := 1 : Entry }]).2) == ((impl_AddEntry ({ Spares := ((impl_AddEntry ({ Spares := (spec_R8Store a0).Spares, Entries := (spec_R8Store a0).Entries : Store }) ({ Day := (laws_r8Wide a1 1 220), Item := (((spec_R8Store a0).Spares).getD (((laws_r8At a1 0 (((spec_R8Store a0).Spares).length : Int))).toNat) default).Name, Amount := IntKind.wrap .i64 (0 - (IntKind.wrap .i64 (1 + (laws_r8At a1 3 20)))) : Entry })).1).Spares, Entries := ((impl_AddEntry ({ Spares := (spec_R8Store a0).Spares, Entries := (spec_R8Store a0).Entries : Store }) ({ Day := (laws_r8Wide a1 1 220), Item := (((spec_R8Store a0).Spares).getD (((laws_r8At a1 0 (((spec_R8Store a0).Spares).length : Int))).toNat) default).Name, Amount := IntKind.wrap .i64 (0 - (IntKind.wrap .i64 (1 + (laws_r8At a1 3 20)))) : Entry })).1).Entries : Store }) ({ Day := (laws_r8Wide a1 1 220), Item := (((spec_R8Store a0).Spares).getD 0 default).Name, Amount := (-1) : Entry })).2)) && (spec_SameStore ({ Spares := ((impl_TakeAll ({ Spares := (spec_R8Store a0).Spares, Entries := (spec_R8Store a0).Entries : Store }) (laws_r8Wide a1 1 220) [{ Day := 0, Item := (((spec_R8Store a0).Spares).getD (((laws_r8At a1 0 (((spec_R8Store a0).Spares).length : Int))).toNat) default).Name, Amount := IntKind.wrap .i64 (1 + (laws_r8At a1 3 20)) : Entry }, { Day := 0, Item := (((spec_R8Store a0).Spares).getD 0 default).Name, Amount := 1 : Entry }]).1).Spares, Entries := ((impl_TakeAll ({ Spares := (spec_R8Store a0).Spares, Entries := (spec_R8Store a0).Entries : Store }) (laws_r8Wide a1 1 220) [{ Day := 0, Item := (((spec_R8Store a0).Spares).getD (((laws_r8At a1 0 (((spec_R8Store a0).Spares).length : Int))).toNat) default).Name, Amount := IntKind.wrap .i64 (1 + (laws_r8At a1 3 20)) : Entry }, { Day := 0, Item := (((spec_R8Store a0).Spares).getD 0 default).Name, Amount := 1 : Entry }]).1).Entries : Store }) ({ Spares := ((impl_AddEntry ({ Spares := ((impl_AddEntry ({ Spares := (spec_R8Store a0).Spares, Entries := (spec_R8Store a0).Entries : Store }) ({ Day := (laws_r8Wide a1 1 220), Item := (((spec_R8Store a0).Spares).getD (((laws_r8At a1 0 (((spec_R8Store a0).Spares).length : Int))).toNat) default).Name, Amount := IntKind.wrap .i64 (0 - (IntKind.wrap .i64 (1 + (laws_r8At a1 3 20)))) : Entry })).1).Spares, Entries := ((impl_AddEntry ({ Spares := (spec_R8Store a0).Spares, Entries := (spec_R8Store a0).Entries : Store }) ({ Day := (laws_r8Wide a1 1 220), Item := (((spec_R8Store a0).Spares).getD (((laws_r8At a1 0 (((spec_R8Store a0).Spares).length : Int))).toNat) default).Name, Amount := IntKind.wrap .i64 (0 - (IntKind.wrap .i64 (1 + (laws_r8At a1 3 20)))) : Entry })).1).Entries : Store }) ({ Day := (laws_r8Wide a1 1 220), Item := (((spec_R8Store a0).Spares).getD 0 default).Name, Amount := (-1) : Entry })).1).Spares, Entries := ((impl_AddEntry ({ Spares := ((impl_AddEntry ({ Spares := (spec_R8Store a0).Spares, Entries := (spec_R8Store a0).Entries : Store }) ({ Day := (laws_r8Wide a1 1 220), Item := (((spec_R8Store a0).Spares).getD (((laws_r8At a1 0 (((spec_R8Store a0).Spares).length : Int))).toNat) default).Name, Amount := IntKind.wrap .i64 (0 - (IntKind.wrap .i64 (1 + (laws_r8At a1 3 20)))) : Entry })).1).Spares, Entries := ((impl_AddEntry ({ Spares := (spec_R8Store a0).Spares, Entries := (spec_R8Store a0).Entries : Store }) ({ Day := (laws_r8Wide a1 1 220), Item := (((spec_R8Store a0).Spares).getD (((laws_r8At a1 0 (((spec_R8Store a0).Spares).length : Int))).toNat) default).Name, Amount := IntKind.wrap .i64 (0 - (IntKind.wrap .i64 (1 + (laws_r8At a1 3 20)))) : Entry })).1).Entries : Store }) ({ Day := (laws_r8Wide a1 1 220), Item := (((spec_R8Store a0).Spares).getD 0 default).Name, Amount := (-1) : Entry })).1).Entries : Store }))))))))
set_option maxHeartbeats 4000000 in
set_option maxRecDepth 20000 in
theorem laws_FnBookings_den (a0 : (List Int)) (a1 : (List Int)) (hp0 : ∀ v ∈ a0, 0 ≤ v ∧ v ≤ 255) (hp1 : ∀ v ∈ a1, 0 ≤ v ∧ v ≤ 255) : Den Tryz.prog 3 [encL 1 eIu8 a0, encL 1 eIu8 a1] (.bool (laws_FnBookings a0 a1)) := by
  generalize hR : laws_FnBookings a0 a1 = r
  unfold laws_FnBookings at hR
  refine den_intro G_ok Tryz.func3 (by kernel_rfl) rfl Tryz.ntmps3 (by rw [Tryz.results3]) (by simp) rfl ?_
  intro c hL hc hk
  obtain ⟨hL0, hL1, _⟩ := hL
  have hw0 : a0.length < 9223372036854775808 := Nat.lt_succ_of_le (lens_encL hL0).1
  have hw1 : a1.length < 9223372036854775808 := Nat.lt_succ_of_le (lens_encL hL1).1
  clear hL0 hL1
  simp only [pars, Nat.zero_add]
  have hR8 := r8_bd a0 hp0
  have hsl : (spec_R8Store a0).Spares.length = 3 := by rw [hR8.1]; rfl
  have hsb : ∀ v ∈ (spec_R8Store a0).Spares, bdSpare v := by rw [hR8.1]; intro v hv; simp only [spec_l29Base, List.mem_cons, List.not_mem_nil, or_false] at hv; rcases hv with h | h | h <;> subst h <;> (show List.length _ < 1099511627776; simp)
  have heb : ∀ v ∈ (spec_R8Store a0).Entries, bdEntry v := fun v hv => by have := hR8.2.2 v hv; show List.length _ < 1099511627776; omega
  have hA := r8At_range a1 hp1 0 ((spec_R8Store a0).Spares.length : Int) (by omega) (by omega)
  have hWd := r8Wide_range a1 hp1 220 (by omega)
  have hA3 := r8At_range a1 hp1 3 20 (by omega) (by omega)
  have hET := impl_EntryText_len ({ Day := laws_r8Wide a1 1 220, Item := ((spec_R8Store a0).Spares.getD (laws_r8At a1 0 ((spec_R8Store a0).Spares.length : Int)).toNat default).Name, Amount := IntKind.wrap .i64 (1 + laws_r8At a1 3 20) : Entry })
  refine AWP.seq ?_
  refine AWP.regS G_ok laws_FnBookings_DD hc (by kernel_rfl) (fun K hK => ?_); simp only [ea, gv, sv, D_laws_r8Wide, D_impl_ReadEntry, D_impl_EntryText, D_impl_AddEntry, D_impl_DropEntry, D_spec_SameStore, D_impl_TakeAll, D_laws_r8Long, D_spec_R8Store, D_laws_r8At, reduceCtorEq, reduceIte, Nat.reduceBEq, Nat.reduceAdd, Nat.reduceEqDiff, Nat.reduceLT, Nat.reduceLeDiff, Nat.reduceMul, Nat.reduceSub, BEq.rfl, beq_self_eq_true, Int.reduceToNat]
  (refine hK _ ?_)
  clear hK K
  refine AWP.seq ?_
  refine AWP.seq ?_
  refine AWP.regS G_ok laws_FnBookings_DD hc (by kernel_rfl) (fun K hK => ?_); simp only [ea, gv, sv, D_laws_r8Wide, D_impl_ReadEntry, D_impl_EntryText, D_impl_AddEntry, D_impl_DropEntry, D_spec_SameStore, D_impl_TakeAll, D_laws_r8Long, D_spec_R8Store, D_laws_r8At, reduceCtorEq, reduceIte, Nat.reduceBEq, Nat.reduceAdd, Nat.reduceEqDiff, Nat.reduceLT, Nat.reduceLeDiff, Nat.reduceMul, Nat.reduceSub, BEq.rfl, beq_self_eq_true, Int.reduceToNat]
  (refine hK _ ?_)
  clear hK K
  refine AWP.cond rfl (fun hb => ?_) (fun hb => ?_)
  · (simp only [hb, cond_true] at hR)
    refine AWP.seq ?_
    refine AWP.regS G_ok laws_FnBookings_DD hc (by kernel_rfl) (fun K hK => ?_); simp only [ea, gv, sv, D_laws_r8Wide, D_impl_ReadEntry, D_impl_EntryText, D_impl_AddEntry, D_impl_DropEntry, D_spec_SameStore, D_impl_TakeAll, D_laws_r8Long, D_spec_R8Store, D_laws_r8At, reduceCtorEq, reduceIte, Nat.reduceBEq, Nat.reduceAdd, Nat.reduceEqDiff, Nat.reduceLT, Nat.reduceLeDiff, Nat.reduceMul, Nat.reduceSub, BEq.rfl, beq_self_eq_true, Int.reduceToNat]
    (refine hK _ ?_)
    clear hK K
    refine AWP.ret ?_
    subst hR
    (simp only [en, si, ea, gv, sv, hk, reduceCtorEq, reduceIte, Nat.reduceBEq, Nat.reduceAdd, Nat.reduceEqDiff, Nat.reduceLT, Nat.reduceLeDiff, Nat.reduceMul, Nat.reduceSub, BEq.rfl, beq_self_eq_true, Int.reduceToNat]; done)
  · (simp only [hb, cond_false] at hR)
    refine AWP.skip ?_
    refine AWP.seq ?_
    refine AWP.regS G_ok laws_FnBookings_DD hc (by kernel_rfl) (fun K hK => ?_); simp only [ea, gv, sv, D_laws_r8Wide, D_impl_ReadEntry, D_impl_EntryText, D_impl_AddEntry, D_impl_DropEntry, D_spec_SameStore, D_impl_TakeAll, D_laws_r8Long, D_spec_R8Store, D_laws_r8At, reduceCtorEq, reduceIte, Nat.reduceBEq, Nat.reduceAdd, Nat.reduceEqDiff, Nat.reduceLT, Nat.reduceLeDiff, Nat.reduceMul, Nat.reduceSub, BEq.rfl, beq_self_eq_true, Int.reduceToNat]
    (refine ⟨by (((try clear hK K); (repeat' first | apply And.intro | intro _) <;> first | (simp only [laws_r8Long, Bool.or_eq_false_iff, decide_eq_false_iff_not] at hb; omega) | (simp only [ob, ln, bdv, sv] at *; (simp_all; done)))), hK _ ?_⟩)
    clear hK K
    refine AWP.seq ?_
    refine AWP.regD mixed G_ok laws_FnBookings_DD hc 10 (by kernel_rfl) (by kernel_rfl) (fun K hK => ?_); simp only [ea, gv, sv, D_laws_r8Wide, D_impl_ReadEntry, D_impl_EntryText, D_impl_AddEntry, D_impl_DropEntry, D_spec_SameStore, D_impl_TakeAll, D_laws_r8Long, D_spec_R8Store, D_laws_r8At, reduceCtorEq, reduceIte, Nat.reduceBEq, Nat.reduceAdd, Nat.reduceEqDiff, Nat.reduceLT, Nat.reduceLeDiff, Nat.reduceMul, Nat.reduceSub, BEq.rfl, beq_self_eq_true, Int.reduceToNat]
    (refine ⟨by (omega), hK _ ?_⟩)
    clear hK K
    refine AWP.seq ?_
    refine AWP.regS G_ok laws_FnBookings_DD hc (by kernel_rfl) (fun K hK => ?_); simp only [ea, gv, sv, D_laws_r8Wide, D_impl_ReadEntry, D_impl_EntryText, D_impl_AddEntry, D_impl_DropEntry, D_spec_SameStore, D_impl_TakeAll, D_laws_r8Long, D_spec_R8Store, D_laws_r8At, reduceCtorEq, reduceIte, Nat.reduceBEq, Nat.reduceAdd, Nat.reduceEqDiff, Nat.reduceLT, Nat.reduceLeDiff, Nat.reduceMul, Nat.reduceSub, BEq.rfl, beq_self_eq_true, Int.reduceToNat]
    (refine ⟨by (trivial), hK _ ?_⟩)
    clear hK K
    refine AWP.seq ?_
    refine AWP.regS G_ok laws_FnBookings_DD hc (by kernel_rfl) (fun K hK => ?_); simp only [ea, gv, sv, D_laws_r8Wide, D_impl_ReadEntry, D_impl_EntryText, D_impl_AddEntry, D_impl_DropEntry, D_spec_SameStore, D_impl_TakeAll, D_laws_r8Long, D_spec_R8Store, D_laws_r8At, reduceCtorEq, reduceIte, Nat.reduceBEq, Nat.reduceAdd, Nat.reduceEqDiff, Nat.reduceLT, Nat.reduceLeDiff, Nat.reduceMul, Nat.reduceSub, BEq.rfl, beq_self_eq_true, Int.reduceToNat]
    (refine ⟨by (((try clear hK K); (repeat' (apply And.intro)) <;> first | trivial | omega | (simp only [ob, ln, bdv, sv] at *; (simp_all; done)))), hK _ ?_⟩)
    clear hK K
    refine AWP.seq ?_
    refine AWP.seq ?_
    refine AWP.regS G_ok laws_FnBookings_DD hc (by kernel_rfl) (fun K hK => ?_); simp only [ea, gv, sv, D_laws_r8Wide, D_impl_ReadEntry, D_impl_EntryText, D_impl_AddEntry, D_impl_DropEntry, D_spec_SameStore, D_impl_TakeAll, D_laws_r8Long, D_spec_R8Store, D_laws_r8At, reduceCtorEq, reduceIte, Nat.reduceBEq, Nat.reduceAdd, Nat.reduceEqDiff, Nat.reduceLT, Nat.reduceLeDiff, Nat.reduceMul, Nat.reduceSub, BEq.rfl, beq_self_eq_true, Int.reduceToNat]
    (refine hK _ ?_)
    clear hK K
    refine AWP.cond rfl (fun hb => ?_) (fun hb => ?_)
    · (simp only [hb, cond_true] at hR)
      refine AWP.seq ?_
      refine AWP.regS G_ok laws_FnBookings_DD hc (by kernel_rfl) (fun K hK => ?_); simp only [ea, gv, sv, D_laws_r8Wide, D_impl_ReadEntry, D_impl_EntryText, D_impl_AddEntry, D_impl_DropEntry, D_spec_SameStore, D_impl_TakeAll, D_laws_r8Long, D_spec_R8Store, D_laws_r8At, reduceCtorEq, reduceIte, Nat.reduceBEq, Nat.reduceAdd, Nat.reduceEqDiff, Nat.reduceLT, Nat.reduceLeDiff, Nat.reduceMul, Nat.reduceSub, BEq.rfl, beq_self_eq_true, Int.reduceToNat]
      (refine hK _ ?_)
      clear hK K
      refine AWP.ret ?_
      subst hR
      (simp only [en, si, ea, gv, sv, hk, reduceCtorEq, reduceIte, Nat.reduceBEq, Nat.reduceAdd, Nat.reduceEqDiff, Nat.reduceLT, Nat.reduceLeDiff, Nat.reduceMul, Nat.reduceSub, BEq.rfl, beq_self_eq_true, Int.reduceToNat]; done)
    · (simp only [hb, cond_false] at hR)
      refine AWP.skip ?_
      refine AWP.seq ?_
      refine AWP.regS G_ok laws_FnBookings_DD hc (by kernel_rfl) (fun K hK => ?_); simp only [ea, gv, sv, D_laws_r8Wide, D_impl_ReadEntry, D_impl_EntryText, D_impl_AddEntry, D_impl_DropEntry, D_spec_SameStore, D_impl_TakeAll, D_laws_r8Long, D_spec_R8Store, D_laws_r8At, reduceCtorEq, reduceIte, Nat.reduceBEq, Nat.reduceAdd, Nat.reduceEqDiff, Nat.reduceLT, Nat.reduceLeDiff, Nat.reduceMul, Nat.reduceSub, BEq.rfl, beq_self_eq_true, Int.reduceToNat]
      (refine ⟨by (((try clear hK K); (repeat' first | apply And.intro | intro _) <;> first | omega | solve_by_elim | (simp only [ob, ln, bdv, sv] at *; (simp_all; done)))), hK _ ?_⟩)
      clear hK K
      refine AWP.seq ?_
      refine AWP.seq ?_
      refine AWP.regS G_ok laws_FnBookings_DD hc (by kernel_rfl) (fun K hK => ?_); simp only [ea, gv, sv, D_laws_r8Wide, D_impl_ReadEntry, D_impl_EntryText, D_impl_AddEntry, D_impl_DropEntry, D_spec_SameStore, D_impl_TakeAll, D_laws_r8Long, D_spec_R8Store, D_laws_r8At, reduceCtorEq, reduceIte, Nat.reduceBEq, Nat.reduceAdd, Nat.reduceEqDiff, Nat.reduceLT, Nat.reduceLeDiff, Nat.reduceMul, Nat.reduceSub, BEq.rfl, beq_self_eq_true, Int.reduceToNat]
      (refine hK _ ?_)
      clear hK K
      refine AWP.cond rfl (fun hb => ?_) (fun hb => ?_)
      · (simp only [hb, cond_true] at hR)
        refine AWP.seq ?_
        refine AWP.regS G_ok laws_FnBookings_DD hc (by kernel_rfl) (fun K hK => ?_); simp only [ea, gv, sv, D_laws_r8Wide, D_impl_ReadEntry, D_impl_EntryText, D_impl_AddEntry, D_impl_DropEntry, D_spec_SameStore, D_impl_TakeAll, D_laws_r8Long, D_spec_R8Store, D_laws_r8At, reduceCtorEq, reduceIte, Nat.reduceBEq, Nat.reduceAdd, Nat.reduceEqDiff, Nat.reduceLT, Nat.reduceLeDiff, Nat.reduceMul, Nat.reduceSub, BEq.rfl, beq_self_eq_true, Int.reduceToNat]
        (refine hK _ ?_)
        clear hK K
        refine AWP.seq ?_
        refine AWP.seq ?_
        refine AWP.regS G_ok laws_FnBookings_DD hc (by kernel_rfl) (fun K hK => ?_); simp only [ea, gv, sv, D_laws_r8Wide, D_impl_ReadEntry, D_impl_EntryText, D_impl_AddEntry, D_impl_DropEntry, D_spec_SameStore, D_impl_TakeAll, D_laws_r8Long, D_spec_R8Store, D_laws_r8At, reduceCtorEq, reduceIte, Nat.reduceBEq, Nat.reduceAdd, Nat.reduceEqDiff, Nat.reduceLT, Nat.reduceLeDiff, Nat.reduceMul, Nat.reduceSub, BEq.rfl, beq_self_eq_true, Int.reduceToNat]
        (refine hK _ ?_)
        clear hK K
        refine AWP.block ?_
        generalize hz1 : loopR (laws_FnBookings_b1 a0 a1) ((((spec_R8Store a0).Entries).length) - 0) 0 0 = z1 at hR
        refine AWP.range (laws_FnBookings_b1 a0 a1) (fun i1 s1 => ⟨[(5, .ptr 0 0), (6, .str ((((spec_R8Store a0).Spares).getD (((laws_r8At a1 0 (((spec_R8Store a0).Spares).length : Int))).toNat) default).Name)), (7, .ptr 3 0), (10, .ptr 4 0), (12, .int .i64 s1), (13, .int .i64 (i1 : Int))], [.box [.ref 1 3 0 (((spec_R8Store a0).Spares).length), .ref 2 3 0 (((spec_R8Store a0).Entries).length)], .arr 30 3 ((spec_R8Store a0).Spares).length (fun j => eSpare (((spec_R8Store a0).Spares).getD j default)), .arr 33 3 ((spec_R8Store a0).Entries).length (fun j => eEntry (((spec_R8Store a0).Entries).getD j default)), .box [.int .i64 (laws_r8Wide a1 1 220), .str ((((spec_R8Store a0).Spares).getD (((laws_r8At a1 0 (((spec_R8Store a0).Spares).length : Int))).toNat) default).Name), .int .i64 (IntKind.wrap .i64 (1 + (laws_r8At a1 3 20)))], .box [.ref 5 3 0 ((((impl_AddEntry ({ Spares := (spec_R8Store a0).Spares, Entries := (spec_R8Store a0).Entries : Store }) ({ Day := (laws_r8Wide a1 1 220), Item := (((spec_R8Store a0).Spares).getD (((laws_r8At a1 0 (((spec_R8Store a0).Spares).length : Int))).toNat) default).Name, Amount := IntKind.wrap .i64 (1 + (laws_r8At a1 3 20)) : Entry })).1).Spares).length), .ref 6 3 0 ((((impl_AddEntry ({ Spares := (spec_R8Store a0).Spares, Entries := (spec_R8Store a0).Entries : Store }) ({ Day := (laws_r8Wide a1 1 220), Item := (((spec_R8Store a0).Spares).getD (((laws_r8At a1 0 (((spec_R8Store a0).Spares).length : Int))).toNat) default).Name, Amount := IntKind.wrap .i64 (1 + (laws_r8At a1 3 20)) : Entry })).1).Entries).length)], .arr 30 3 (((impl_AddEntry ({ Spares := (spec_R8Store a0).Spares, Entries := (spec_R8Store a0).Entries : Store }) ({ Day := (laws_r8Wide a1 1 220), Item := (((spec_R8Store a0).Spares).getD (((laws_r8At a1 0 (((spec_R8Store a0).Spares).length : Int))).toNat) default).Name, Amount := IntKind.wrap .i64 (1 + (laws_r8At a1 3 20)) : Entry })).1).Spares).length (fun j => eSpare ((((impl_AddEntry ({ Spares := (spec_R8Store a0).Spares, Entries := (spec_R8Store a0).Entries : Store }) ({ Day := (laws_r8Wide a1 1 220), Item := (((spec_R8Store a0).Spares).getD (((laws_r8At a1 0 (((spec_R8Store a0).Spares).length : Int))).toNat) default).Name, Amount := IntKind.wrap .i64 (1 + (laws_r8At a1 3 20)) : Entry })).1).Spares).getD j default)), .arr 33 3 (((impl_AddEntry ({ Spares := (spec_R8Store a0).Spares, Entries := (spec_R8Store a0).Entries : Store }) ({ Day := (laws_r8Wide a1 1 220), Item := (((spec_R8Store a0).Spares).getD (((laws_r8At a1 0 (((spec_R8Store a0).Spares).length : Int))).toNat) default).Name, Amount := IntKind.wrap .i64 (1 + (laws_r8At a1 3 20)) : Entry })).1).Entries).length (fun j => eEntry ((((impl_AddEntry ({ Spares := (spec_R8Store a0).Spares, Entries := (spec_R8Store a0).Entries : Store }) ({ Day := (laws_r8Wide a1 1 220), Item := (((spec_R8Store a0).Spares).getD (((laws_r8At a1 0 (((spec_R8Store a0).Spares).length : Int))).toNat) default).Name, Amount := IntKind.wrap .i64 (1 + (laws_r8At a1 3 20)) : Entry })).1).Entries).getD j default))]⟩) (fun i1 s1 => True) ((((spec_R8Store a0).Entries).length)) 0 0 [2, 0, 1, 3, 7, 5, 6] hz1 (by (omega)) (by (trivial)) (by (simp only [si, ea, gv, sv, hk, reduceCtorEq, reduceIte, Nat.reduceBEq, Nat.reduceAdd, Nat.reduceEqDiff, Nat.reduceLT, Nat.reduceLeDiff, Nat.reduceMul, Nat.reduceSub, BEq.rfl, beq_self_eq_true, Int.reduceToNat]; trivial)) ?_
        clear hz1
        intro i1 s1 hi1 hW1 hz1
        refine AWP.seq ?_
        refine AWP.seq ?_
        refine AWP.regS G_ok laws_FnBookings_DD hc (by kernel_rfl) (fun K hK => ?_); simp only [ea, gv, sv, D_laws_r8Wide, D_impl_ReadEntry, D_impl_EntryText, D_impl_AddEntry, D_impl_DropEntry, D_spec_SameStore, D_impl_TakeAll, D_laws_r8Long, D_spec_R8Store, D_laws_r8At, reduceCtorEq, reduceIte, Nat.reduceBEq, Nat.reduceAdd, Nat.reduceEqDiff, Nat.reduceLT, Nat.reduceLeDiff, Nat.reduceMul, Nat.reduceSub, BEq.rfl, beq_self_eq_true, Int.reduceToNat]
        (refine hK _ ?_)
        clear hK K
        refine AWP.cond rfl (fun hb => ?_) (fun hb => ?_)
        · have hlt1 : i1 < (((spec_R8Store a0).Entries).length) := by ((simp only [ob, ln, bdv, sv] at *; omega))
          rw [loopR_lt hlt1] at hz1; simp only [laws_FnBookings_b1] at hz1
          refine AWP.skip ?_
          refine AWP.seq ?_
          refine AWP.block ?_
          refine AWP.seq ?_
          refine AWP.regD mixed G_ok laws_FnBookings_DD hc 9 (by kernel_rfl) (by kernel_rfl) (fun K hK => ?_); simp only [ea, gv, sv, D_laws_r8Wide, D_impl_ReadEntry, D_impl_EntryText, D_impl_AddEntry, D_impl_DropEntry, D_spec_SameStore, D_impl_TakeAll, D_laws_r8Long, D_spec_R8Store, D_laws_r8At, reduceCtorEq, reduceIte, Nat.reduceBEq, Nat.reduceAdd, Nat.reduceEqDiff, Nat.reduceLT, Nat.reduceLeDiff, Nat.reduceMul, Nat.reduceSub, BEq.rfl, beq_self_eq_true, Int.reduceToNat]
          (refine ⟨by (omega), hK _ ?_⟩)
          clear hK K
          refine AWP.cond rfl (fun hb => ?_) (fun hb => ?_)
          · (simp only [hb, cond_true] at hz1)
            refine AWP.regS G_ok laws_FnBookings_DD hc (by kernel_rfl) (fun K hK => ?_); simp only [ea, gv, sv, D_laws_r8Wide, D_impl_ReadEntry, D_impl_EntryText, D_impl_AddEntry, D_impl_DropEntry, D_spec_SameStore, D_impl_TakeAll, D_laws_r8Long, D_spec_R8Store, D_laws_r8At, reduceCtorEq, reduceIte, Nat.reduceBEq, Nat.reduceAdd, Nat.reduceEqDiff, Nat.reduceLT, Nat.reduceLeDiff, Nat.reduceMul, Nat.reduceSub, BEq.rfl, beq_self_eq_true, Int.reduceToNat]
            (refine hK _ ?_)
            clear hK K
            refine AWP.regS G_ok laws_FnBookings_DD hc (by kernel_rfl) (fun K hK => ?_); simp only [ea, gv, sv, D_laws_r8Wide, D_impl_ReadEntry, D_impl_EntryText, D_impl_AddEntry, D_impl_DropEntry, D_spec_SameStore, D_impl_TakeAll, D_laws_r8Long, D_spec_R8Store, D_laws_r8At, reduceCtorEq, reduceIte, Nat.reduceBEq, Nat.reduceAdd, Nat.reduceEqDiff, Nat.reduceLT, Nat.reduceLeDiff, Nat.reduceMul, Nat.reduceSub, BEq.rfl, beq_self_eq_true, Int.reduceToNat]
            (refine hK _ ?_)
            clear hK K
            exact ⟨_, [0, 1, 2, 3, 4, 5, 6], hlt1, by (trivial), hz1, by (simp only [si, ea, gv, sv, hk, reduceCtorEq, reduceIte, Nat.reduceBEq, Nat.reduceAdd, Nat.reduceEqDiff, Nat.reduceLT, Nat.reduceLeDiff, Nat.reduceMul, Nat.reduceSub, BEq.rfl, beq_self_eq_true, Int.reduceToNat]; (and_intros <;> first | trivial | (rw [IntKind.wrap_i64]; omega)))⟩
          · (simp only [hb, cond_false] at hz1)
            refine AWP.skip ?_
            refine AWP.regS G_ok laws_FnBookings_DD hc (by kernel_rfl) (fun K hK => ?_); simp only [ea, gv, sv, D_laws_r8Wide, D_impl_ReadEntry, D_impl_EntryText, D_impl_AddEntry, D_impl_DropEntry, D_spec_SameStore, D_impl_TakeAll, D_laws_r8Long, D_spec_R8Store, D_laws_r8At, reduceCtorEq, reduceIte, Nat.reduceBEq, Nat.reduceAdd, Nat.reduceEqDiff, Nat.reduceLT, Nat.reduceLeDiff, Nat.reduceMul, Nat.reduceSub, BEq.rfl, beq_self_eq_true, Int.reduceToNat]
            (refine hK _ ?_)
            clear hK K
            exact ⟨_, [0, 1, 2, 3, 4, 5, 6], hlt1, by (trivial), hz1, by (simp only [si, ea, gv, sv, hk, reduceCtorEq, reduceIte, Nat.reduceBEq, Nat.reduceAdd, Nat.reduceEqDiff, Nat.reduceLT, Nat.reduceLeDiff, Nat.reduceMul, Nat.reduceSub, BEq.rfl, beq_self_eq_true, Int.reduceToNat]; (and_intros <;> first | trivial | (rw [IntKind.wrap_i64]; omega)))⟩
        · obtain rfl : i1 = (((spec_R8Store a0).Entries).length) := by ((simp only [ob, ln, bdv, sv] at *; omega))
          rw [loopR_ge (Nat.le_refl _)] at hz1; subst hz1; dsimp only at hR
          refine AWP.exit ?_; refine exitTo_here ?_
          refine AWP.seq ?_
          refine AWP.regS G_ok laws_FnBookings_DD hc (by kernel_rfl) (fun K hK => ?_); simp only [ea, gv, sv, D_laws_r8Wide, D_impl_ReadEntry, D_impl_EntryText, D_impl_AddEntry, D_impl_DropEntry, D_spec_SameStore, D_impl_TakeAll, D_laws_r8Long, D_spec_R8Store, D_laws_r8At, reduceCtorEq, reduceIte, Nat.reduceBEq, Nat.reduceAdd, Nat.reduceEqDiff, Nat.reduceLT, Nat.reduceLeDiff, Nat.reduceMul, Nat.reduceSub, BEq.rfl, beq_self_eq_true, Int.reduceToNat]
          (refine ⟨by (((try clear hK K); (repeat' first | apply And.intro | intro _) <;> first | omega | (rename_i hx9; exact hsb _ ((impl_AddEntry_mem _ _ (by show (spec_R8Store a0).Entries.length < _; omega)).1 _ hx9)) | (rename_i hx9; rcases (impl_AddEntry_mem _ _ (by show (spec_R8Store a0).Entries.length < _; omega)).2.1 _ hx9 with h9 | h9; exact heb _ h9; subst h9; exact bd_getD hsb (by decide) _) | (refine Nat.lt_of_le_of_lt (impl_AddEntry_mem _ _ (by show (spec_R8Store a0).Entries.length < _; omega)).2.2.1 ?_; show (spec_R8Store a0).Spares.length < _; omega) | (refine Nat.lt_of_le_of_lt (impl_AddEntry_mem _ _ (by show (spec_R8Store a0).Entries.length < _; omega)).2.2.2 ?_; show (spec_R8Store a0).Entries.length + 1 < _; omega))), hK _ ?_⟩)
          clear hK K
          refine AWP.seq ?_
          refine AWP.regS G_ok laws_FnBookings_DD hc (by kernel_rfl) (fun K hK => ?_); simp only [ea, gv, sv, D_laws_r8Wide, D_impl_ReadEntry, D_impl_EntryText, D_impl_AddEntry, D_impl_DropEntry, D_spec_SameStore, D_impl_TakeAll, D_laws_r8Long, D_spec_R8Store, D_laws_r8At, reduceCtorEq, reduceIte, Nat.reduceBEq, Nat.reduceAdd, Nat.reduceEqDiff, Nat.reduceLT, Nat.reduceLeDiff, Nat.reduceMul, Nat.reduceSub, BEq.rfl, beq_self_eq_true, Int.reduceToNat]
          (refine ⟨by (omega), hK _ ?_⟩)
          clear hK K
          refine AWP.cond rfl (fun hb => ?_) (fun hb => ?_)
          · (simp only [hb, cond_true] at hR)
            refine AWP.seq ?_
            refine AWP.regS G_ok laws_FnBookings_DD hc (by kernel_rfl) (fun K hK => ?_); simp only [ea, gv, sv, D_laws_r8Wide, D_impl_ReadEntry, D_impl_EntryText, D_impl_AddEntry, D_impl_DropEntry, D_spec_SameStore, D_impl_TakeAll, D_laws_r8Long, D_spec_R8Store, D_laws_r8At, reduceCtorEq, reduceIte, Nat.reduceBEq, Nat.reduceAdd, Nat.reduceEqDiff, Nat.reduceLT, Nat.reduceLeDiff, Nat.reduceMul, Nat.reduceSub, BEq.rfl, beq_self_eq_true, Int.reduceToNat]
            (refine hK _ ?_)
            clear hK K
            refine AWP.ret ?_
            subst hR
            (simp only [en, si, ea, gv, sv, hk, reduceCtorEq, reduceIte, Nat.reduceBEq, Nat.reduceAdd, Nat.reduceEqDiff, Nat.reduceLT, Nat.reduceLeDiff, Nat.reduceMul, Nat.reduceSub, BEq.rfl, beq_self_eq_true, Int.reduceToNat]; done)
          · (simp only [hb, cond_false] at hR)
            refine AWP.skip ?_
            refine AWP.seq ?_
            refine AWP.regS G_ok laws_FnBookings_DD hc (by kernel_rfl) (fun K hK => ?_); simp only [ea, gv, sv, D_laws_r8Wide, D_impl_ReadEntry, D_impl_EntryText, D_impl_AddEntry, D_impl_DropEntry, D_spec_SameStore, D_impl_TakeAll, D_laws_r8Long, D_spec_R8Store, D_laws_r8At, reduceCtorEq, reduceIte, Nat.reduceBEq, Nat.reduceAdd, Nat.reduceEqDiff, Nat.reduceLT, Nat.reduceLeDiff, Nat.reduceMul, Nat.reduceSub, BEq.rfl, beq_self_eq_true, Int.reduceToNat]
            (refine ⟨by (omega), hK _ ?_⟩)
            clear hK K
            refine AWP.seq ?_
            refine AWP.regS G_ok laws_FnBookings_DD hc (by kernel_rfl) (fun K hK => ?_); simp only [ea, gv, sv, D_laws_r8Wide, D_impl_ReadEntry, D_impl_EntryText, D_impl_AddEntry, D_impl_DropEntry, D_spec_SameStore, D_impl_TakeAll, D_laws_r8Long, D_spec_R8Store, D_laws_r8At, reduceCtorEq, reduceIte, Nat.reduceBEq, Nat.reduceAdd, Nat.reduceEqDiff, Nat.reduceLT, Nat.reduceLeDiff, Nat.reduceMul, Nat.reduceSub, BEq.rfl, beq_self_eq_true, Int.reduceToNat]
            (refine hK _ ?_)
            clear hK K
            refine AWP.seq ?_
            refine AWP.regS G_ok laws_FnBookings_DD hc (by kernel_rfl) (fun K hK => ?_); simp only [ea, gv, sv, D_laws_r8Wide, D_impl_ReadEntry, D_impl_EntryText, D_impl_AddEntry, D_impl_DropEntry, D_spec_SameStore, D_impl_TakeAll, D_laws_r8Long, D_spec_R8Store, D_laws_r8At, reduceCtorEq, reduceIte, Nat.reduceBEq, Nat.reduceAdd, Nat.reduceEqDiff, Nat.reduceLT, Nat.reduceLeDiff, Nat.reduceMul, Nat.reduceSub, BEq.rfl, beq_self_eq_true, Int.reduceToNat]
            (refine ⟨by (((try clear hK K); (repeat' first | apply And.intro | intro _) <;> first | trivial | omega | solve_by_elim | (simp only [ob, ln, bdv, sv] at *; (grind [impl_AddEntry_len, impl_DropEntry_len, impl_TakeAll_len])))), hK _ ?_⟩)
            clear hK K
            refine AWP.seq ?_
            refine AWP.regS G_ok laws_FnBookings_DD hc (by kernel_rfl) (fun K hK => ?_); simp only [ea, gv, sv, D_laws_r8Wide, D_impl_ReadEntry, D_impl_EntryText, D_impl_AddEntry, D_impl_DropEntry, D_spec_SameStore, D_impl_TakeAll, D_laws_r8Long, D_spec_R8Store, D_laws_r8At, reduceCtorEq, reduceIte, Nat.reduceBEq, Nat.reduceAdd, Nat.reduceEqDiff, Nat.reduceLT, Nat.reduceLeDiff, Nat.reduceMul, Nat.reduceSub, BEq.rfl, beq_self_eq_true, Int.reduceToNat]
            (refine ⟨by (((try clear hK K); (repeat' first | apply And.intro | intro _) <;> first | trivial | omega | solve_by_elim | (simp only [ob, ln, bdv, sv] at *; (simp_all; done)))), hK _ ?_⟩)
            clear hK K
            refine AWP.seq ?_
            refine AWP.seq ?_
            refine AWP.regS G_ok laws_FnBookings_DD hc (by kernel_rfl) (fun K hK => ?_); simp only [ea, gv, sv, D_laws_r8Wide, D_impl_ReadEntry, D_impl_EntryText, D_impl_AddEntry, D_impl_DropEntry, D_spec_SameStore, D_impl_TakeAll, D_laws_r8Long, D_spec_R8Store, D_laws_r8At, reduceCtorEq, reduceIte, Nat.reduceBEq, Nat.reduceAdd, Nat.reduceEqDiff, Nat.reduceLT, Nat.reduceLeDiff, Nat.reduceMul, Nat.reduceSub, BEq.rfl, beq_self_eq_true, Int.reduceToNat]
            (refine hK _ ?_)
            clear hK K
            refine AWP.cond rfl (fun hb => ?_) (fun hb => ?_)
            · (simp only [hb, cond_true] at hR)
              refine AWP.seq ?_
              refine AWP.regS G_ok laws_FnBookings_DD hc (by kernel_rfl) (fun K hK => ?_); simp only [ea, gv, sv, D_laws_r8Wide, D_impl_ReadEntry, D_impl_EntryText, D_impl_AddEntry, D_impl_DropEntry, D_spec_SameStore, D_impl_TakeAll, D_laws_r8Long, D_spec_R8Store, D_laws_r8At, reduceCtorEq, reduceIte, Nat.reduceBEq, Nat.reduceAdd, Nat.reduceEqDiff, Nat.reduceLT, Nat.reduceLeDiff, Nat.reduceMul, Nat.reduceSub, BEq.rfl, beq_self_eq_true, Int.reduceToNat]
              (refine hK _ ?_)
              clear hK K
              refine AWP.ret ?_
              subst hR
              (simp only [en, si, ea, gv, sv, hk, reduceCtorEq, reduceIte, Nat.reduceBEq, Nat.reduceAdd, Nat.reduceEqDiff, Nat.reduceLT, Nat.reduceLeDiff, Nat.reduceMul, Nat.reduceSub, BEq.rfl, beq_self_eq_true, Int.reduceToNat]; done)
            · (simp only [hb, cond_false] at hR)
              refine AWP.skip ?_
              refine AWP.seq ?_
              refine AWP.regS G_ok laws_FnBookings_DD hc (by kernel_rfl) (fun K hK => ?_); simp only [ea, gv, sv, D_laws_r8Wide, D_impl_ReadEntry, D_impl_EntryText, D_impl_AddEntry, D_impl_DropEntry, D_spec_SameStore, D_impl_TakeAll, D_laws_r8Long, D_spec_R8Store, D_laws_r8At, reduceCtorEq, reduceIte, Nat.reduceBEq, Nat.reduceAdd, Nat.reduceEqDiff, Nat.reduceLT, Nat.reduceLeDiff, Nat.reduceMul, Nat.reduceSub, BEq.rfl, beq_self_eq_true, Int.reduceToNat]
              (refine ⟨by (((try clear hK K); (repeat' first | apply And.intro | intro _) <;> first | omega | (rename_i hx9; exact hsb _ ((impl_AddEntry_mem _ _ (by show (spec_R8Store a0).Entries.length < _; omega)).1 _ hx9)) | (rename_i hx9; rcases (impl_AddEntry_mem _ _ (by show (spec_R8Store a0).Entries.length < _; omega)).2.1 _ hx9 with h9 | h9; exact heb _ h9; subst h9; exact bd_getD hsb (by decide) _) | (refine Nat.lt_of_le_of_lt (impl_AddEntry_mem _ _ (by show (spec_R8Store a0).Entries.length < _; omega)).2.2.1 ?_; show (spec_R8Store a0).Spares.length < _; omega) | (refine Nat.lt_of_le_of_lt (impl_AddEntry_mem _ _ (by show (spec_R8Store a0).Entries.length < _; omega)).2.2.2 ?_; show (spec_R8Store a0).Entries.length + 1 < _; omega) | (simp only [ob, ln, bdv, sv] at *; (simp_all; done)))), hK _ ?_⟩)
              clear hK K
              refine AWP.seq ?_
              refine AWP.regS G_ok laws_FnBookings_DD hc (by kernel_rfl) (fun K hK => ?_); simp only [ea, gv, sv, D_laws_r8Wide, D_impl_ReadEntry, D_impl_EntryText, D_impl_AddEntry, D_impl_DropEntry, D_spec_SameStore, D_impl_TakeAll, D_laws_r8Long, D_spec_R8Store, D_laws_r8At, reduceCtorEq, reduceIte, Nat.reduceBEq, Nat.reduceAdd, Nat.reduceEqDiff, Nat.reduceLT, Nat.reduceLeDiff, Nat.reduceMul, Nat.reduceSub, BEq.rfl, beq_self_eq_true, Int.reduceToNat]
              (refine ⟨by (omega), hK _ ?_⟩)
              clear hK K
              refine AWP.ret ?_
              subst hR
              (simp only [en, si, ea, gv, sv, hk, reduceCtorEq, reduceIte, Nat.reduceBEq, Nat.reduceAdd, Nat.reduceEqDiff, Nat.reduceLT, Nat.reduceLeDiff, Nat.reduceMul, Nat.reduceSub, BEq.rfl, beq_self_eq_true, Int.reduceToNat]; done)
      · (simp only [hb, cond_false] at hR)
        refine AWP.seq ?_
        refine AWP.regS G_ok laws_FnBookings_DD hc (by kernel_rfl) (fun K hK => ?_); simp only [ea, gv, sv, D_laws_r8Wide, D_impl_ReadEntry, D_impl_EntryText, D_impl_AddEntry, D_impl_DropEntry, D_spec_SameStore, D_impl_TakeAll, D_laws_r8Long, D_spec_R8Store, D_laws_r8At, reduceCtorEq, reduceIte, Nat.reduceBEq, Nat.reduceAdd, Nat.reduceEqDiff, Nat.reduceLT, Nat.reduceLeDiff, Nat.reduceMul, Nat.reduceSub, BEq.rfl, beq_self_eq_true, Int.reduceToNat]
        (refine hK _ ?_)
        clear hK K
        refine AWP.cond rfl (fun hb => ?_) (fun hb => ?_)
        · (simp only [hb, cond_true] at hR)
          refine AWP.seq ?_
          refine AWP.regS G_ok laws_FnBookings_DD hc (by kernel_rfl) (fun K hK => ?_); simp only [ea, gv, sv, D_laws_r8Wide, D_impl_ReadEntry, D_impl_EntryText, D_impl_AddEntry, D_impl_DropEntry, D_spec_SameStore, D_impl_TakeAll, D_laws_r8Long, D_spec_R8Store, D_laws_r8At, reduceCtorEq, reduceIte, Nat.reduceBEq, Nat.reduceAdd, Nat.reduceEqDiff, Nat.reduceLT, Nat.reduceLeDiff, Nat.reduceMul, Nat.reduceSub, BEq.rfl, beq_self_eq_true, Int.reduceToNat]
          (refine hK _ ?_)
          clear hK K
          refine AWP.ret ?_
          subst hR
          (simp only [en, si, ea, gv, sv, hk, reduceCtorEq, reduceIte, Nat.reduceBEq, Nat.reduceAdd, Nat.reduceEqDiff, Nat.reduceLT, Nat.reduceLeDiff, Nat.reduceMul, Nat.reduceSub, BEq.rfl, beq_self_eq_true, Int.reduceToNat]; done)
        · (simp only [hb, cond_false] at hR)
          refine AWP.skip ?_
          refine AWP.seq ?_
          refine AWP.regS G_ok laws_FnBookings_DD hc (by kernel_rfl) (fun K hK => ?_); simp only [ea, gv, sv, D_laws_r8Wide, D_impl_ReadEntry, D_impl_EntryText, D_impl_AddEntry, D_impl_DropEntry, D_spec_SameStore, D_impl_TakeAll, D_laws_r8Long, D_spec_R8Store, D_laws_r8At, reduceCtorEq, reduceIte, Nat.reduceBEq, Nat.reduceAdd, Nat.reduceEqDiff, Nat.reduceLT, Nat.reduceLeDiff, Nat.reduceMul, Nat.reduceSub, BEq.rfl, beq_self_eq_true, Int.reduceToNat]
          (refine ⟨by (omega), hK _ ?_⟩)
          clear hK K
          refine AWP.seq ?_
          refine AWP.regS G_ok laws_FnBookings_DD hc (by kernel_rfl) (fun K hK => ?_); simp only [ea, gv, sv, D_laws_r8Wide, D_impl_ReadEntry, D_impl_EntryText, D_impl_AddEntry, D_impl_DropEntry, D_spec_SameStore, D_impl_TakeAll, D_laws_r8Long, D_spec_R8Store, D_laws_r8At, reduceCtorEq, reduceIte, Nat.reduceBEq, Nat.reduceAdd, Nat.reduceEqDiff, Nat.reduceLT, Nat.reduceLeDiff, Nat.reduceMul, Nat.reduceSub, BEq.rfl, beq_self_eq_true, Int.reduceToNat]
          (refine hK _ ?_)
          clear hK K
          refine AWP.seq ?_
          refine AWP.regS G_ok laws_FnBookings_DD hc (by kernel_rfl) (fun K hK => ?_); simp only [ea, gv, sv, D_laws_r8Wide, D_impl_ReadEntry, D_impl_EntryText, D_impl_AddEntry, D_impl_DropEntry, D_spec_SameStore, D_impl_TakeAll, D_laws_r8Long, D_spec_R8Store, D_laws_r8At, reduceCtorEq, reduceIte, Nat.reduceBEq, Nat.reduceAdd, Nat.reduceEqDiff, Nat.reduceLT, Nat.reduceLeDiff, Nat.reduceMul, Nat.reduceSub, BEq.rfl, beq_self_eq_true, Int.reduceToNat]
          (refine ⟨by (((try clear hK K); (repeat' first | apply And.intro | intro _) <;> first | omega | solve_by_elim | (simp only [ob, ln, bdv, sv] at *; (grind [impl_AddEntry_len, impl_DropEntry_len, impl_TakeAll_len])))), hK _ ?_⟩)
          clear hK K
          refine AWP.seq ?_
          refine AWP.regS G_ok laws_FnBookings_DD hc (by kernel_rfl) (fun K hK => ?_); simp only [ea, gv, sv, D_laws_r8Wide, D_impl_ReadEntry, D_impl_EntryText, D_impl_AddEntry, D_impl_DropEntry, D_spec_SameStore, D_impl_TakeAll, D_laws_r8Long, D_spec_R8Store, D_laws_r8At, reduceCtorEq, reduceIte, Nat.reduceBEq, Nat.reduceAdd, Nat.reduceEqDiff, Nat.reduceLT, Nat.reduceLeDiff, Nat.reduceMul, Nat.reduceSub, BEq.rfl, beq_self_eq_true, Int.reduceToNat]
          (refine ⟨by (((try clear hK K); (repeat' first | apply And.intro | intro _) <;> first | omega | solve_by_elim | (simp only [ob, ln, bdv, sv] at *; (simp_all; done)))), hK _ ?_⟩)
          clear hK K
          refine AWP.seq ?_
          refine AWP.seq ?_
          refine AWP.regS G_ok laws_FnBookings_DD hc (by kernel_rfl) (fun K hK => ?_); simp only [ea, gv, sv, D_laws_r8Wide, D_impl_ReadEntry, D_impl_EntryText, D_impl_AddEntry, D_impl_DropEntry, D_spec_SameStore, D_impl_TakeAll, D_laws_r8Long, D_spec_R8Store, D_laws_r8At, reduceCtorEq, reduceIte, Nat.reduceBEq, Nat.reduceAdd, Nat.reduceEqDiff, Nat.reduceLT, Nat.reduceLeDiff, Nat.reduceMul, Nat.reduceSub, BEq.rfl, beq_self_eq_true, Int.reduceToNat]
          (refine hK _ ?_)
          clear hK K
          refine AWP.cond rfl (fun hb => ?_) (fun hb => ?_)
          · (simp only [hb, cond_true] at hR)
            refine AWP.seq ?_
            refine AWP.regS G_ok laws_FnBookings_DD hc (by kernel_rfl) (fun K hK => ?_); simp only [ea, gv, sv, D_laws_r8Wide, D_impl_ReadEntry, D_impl_EntryText, D_impl_AddEntry, D_impl_DropEntry, D_spec_SameStore, D_impl_TakeAll, D_laws_r8Long, D_spec_R8Store, D_laws_r8At, reduceCtorEq, reduceIte, Nat.reduceBEq, Nat.reduceAdd, Nat.reduceEqDiff, Nat.reduceLT, Nat.reduceLeDiff, Nat.reduceMul, Nat.reduceSub, BEq.rfl, beq_self_eq_true, Int.reduceToNat]
            (refine hK _ ?_)
            clear hK K
            refine AWP.ret ?_
            subst hR
            (simp only [en, si, ea, gv, sv, hk, reduceCtorEq, reduceIte, Nat.reduceBEq, Nat.reduceAdd, Nat.reduceEqDiff, Nat.reduceLT, Nat.reduceLeDiff, Nat.reduceMul, Nat.reduceSub, BEq.rfl, beq_self_eq_true, Int.reduceToNat]; done)
          · (simp only [hb, cond_false] at hR)
            refine AWP.skip ?_
            refine AWP.seq ?_
            refine AWP.regS G_ok laws_FnBookings_DD hc (by kernel_rfl) (fun K hK => ?_); simp only [ea, gv, sv, D_laws_r8Wide, D_impl_ReadEntry, D_impl_EntryText, D_impl_AddEntry, D_impl_DropEntry, D_spec_SameStore, D_impl_TakeAll, D_laws_r8Long, D_spec_R8Store, D_laws_r8At, reduceCtorEq, reduceIte, Nat.reduceBEq, Nat.reduceAdd, Nat.reduceEqDiff, Nat.reduceLT, Nat.reduceLeDiff, Nat.reduceMul, Nat.reduceSub, BEq.rfl, beq_self_eq_true, Int.reduceToNat]
            (refine ⟨by (((try clear hK K); (repeat' first | apply And.intro | intro _) <;> first | omega | (rename_i hx9; exact hsb _ ((impl_AddEntry_mem _ _ (by show (spec_R8Store a0).Entries.length < _; omega)).1 _ hx9)) | (rename_i hx9; rcases (impl_AddEntry_mem _ _ (by show (spec_R8Store a0).Entries.length < _; omega)).2.1 _ hx9 with h9 | h9; exact heb _ h9; subst h9; exact bd_getD hsb (by decide) _) | (refine Nat.lt_of_le_of_lt (impl_AddEntry_mem _ _ (by show (spec_R8Store a0).Entries.length < _; omega)).2.2.1 ?_; show (spec_R8Store a0).Spares.length < _; omega) | (refine Nat.lt_of_le_of_lt (impl_AddEntry_mem _ _ (by show (spec_R8Store a0).Entries.length < _; omega)).2.2.2 ?_; show (spec_R8Store a0).Entries.length + 1 < _; omega) | (simp only [ob, ln, bdv, sv] at *; (simp_all; done)))), hK _ ?_⟩)
            clear hK K
            refine AWP.seq ?_
            refine AWP.regS G_ok laws_FnBookings_DD hc (by kernel_rfl) (fun K hK => ?_); simp only [ea, gv, sv, D_laws_r8Wide, D_impl_ReadEntry, D_impl_EntryText, D_impl_AddEntry, D_impl_DropEntry, D_spec_SameStore, D_impl_TakeAll, D_laws_r8Long, D_spec_R8Store, D_laws_r8At, reduceCtorEq, reduceIte, Nat.reduceBEq, Nat.reduceAdd, Nat.reduceEqDiff, Nat.reduceLT, Nat.reduceLeDiff, Nat.reduceMul, Nat.reduceSub, BEq.rfl, beq_self_eq_true, Int.reduceToNat]
            (refine ⟨by (omega), hK _ ?_⟩)
            clear hK K
            refine AWP.ret ?_
            subst hR
            (simp only [en, si, ea, gv, sv, hk, reduceCtorEq, reduceIte, Nat.reduceBEq, Nat.reduceAdd, Nat.reduceEqDiff, Nat.reduceLT, Nat.reduceLeDiff, Nat.reduceMul, Nat.reduceSub, BEq.rfl, beq_self_eq_true, Int.reduceToNat]; done)
def D_laws_FnBookings : DF
  | [x0, x1] => some (.bool (laws_FnBookings (rdL dIu8 x0) (rdL dIu8 x1)), false, [wL 1 eIu8 dIu8 x0, wL 1 eIu8 dIu8 x1, ∀ v ∈ (rdL dIu8 x0), 0 ≤ v ∧ v ≤ 255, ∀ v ∈ (rdL dIu8 x1), 0 ≤ v ∧ v ≤ 255])
  | _ => none
theorem D_laws_FnBookings_ok : OkD Tryz.prog 3 D_laws_FnBookings := by
  intro xs r z ob h ho
  unfold D_laws_FnBookings at h
  split at h
  · simp only [Option.some.injEq, Prod.mk.injEq] at h
    obtain ⟨rfl, rfl, rfl⟩ := h
    obtain ⟨h0, h1, hp0, hp1, _⟩ := ho
    exact Den.sim (laws_FnBookings_den _ _ hp0 hp1) (simOL_cons (wL_sim h0).1 <| simOL_cons (wL_sim h1).1 <| trivial) (noIdL_cons (wL_sim h0).2 <| noIdL_cons (wL_sim h1).2 <| rfl) rfl
  · cases h
end Go.Ab

namespace Go.Ab
open Go Go.Proofs
set_option maxRecDepth 20000
theorem law_FnBookings (a0 a1 : List Int) (h0 : ∀ v ∈ a0, 0 ≤ v ∧ v ≤ 255) (h1 : ∀ v ∈ a1, 0 ≤ v ∧ v ≤ 255) : laws_FnBookings a0 a1 = true := by
  obtain ⟨hok, hl⟩ := r8_ok a0 h0
  have ha := r8_bw a0 h0
  have hlen : (spec_R8Store a0).Spares.length = 3 := by rw [(r8_bd a0 h0).1]; rfl
  have hA := r8At_range a1 h1 0 ((spec_R8Store a0).Spares.length : Int) (by omega) (by omega)
  have hW := r8Wide_range a1 h1 220 (by omega)
  have hC := r8At_range a1 h1 3 20 (by omega) (by omega)
  have hi : (laws_r8At a1 0 ((spec_R8Store a0).Spares.length : Int)).toNat < (spec_R8Store a0).Spares.length := by omega
  have hd : spec_l03Day (laws_r8Wide a1 1 220) = true := by
    unfold spec_l03Day spec_l00In
    simp only [Bool.and_eq_true, decide_eq_true_eq]; omega
  have hb1 : laws_FnBookings_b1 a0 a1 = (fun i s => (bif decide (((spec_R8Store a0).Entries.getD i default).Day ≤ laws_r8Wide a1 1 220) then (.ok (IntKind.wrap .i64 (s + 1)) : Except Bool Int) else .ok s)) := rfl
  have hst : ∀ s : Store, ({ Spares := s.Spares, Entries := s.Entries : Store }) = s := fun _ => rfl
  unfold laws_FnBookings
  rw [hb1]
  try simp only [hst]
  rw [loopR_list0 (fun (x : Entry) (s : Int) => (bif decide (x.Day ≤ laws_r8Wide a1 1 220) then (.ok (IntKind.wrap .i64 (s + 1)) : Except Bool Int) else .ok s)) (spec_R8Store a0).Entries 0 (fun j u _ => rfl)]
  rw [count_loop _ (spec_R8Store a0).Entries (by omega) _ 0 (by omega) (by omega)]
  generalize spec_R8Store a0 = st at *
  generalize (laws_r8At a1 0 (st.Spares.length : Int)).toNat = i at *
  generalize laws_r8Wide a1 1 220 = d at *
  generalize laws_r8At a1 3 20 = am at *
  have w1 : IntKind.wrap .i64 (1 + am) = 1 + am := by rw [IntKind.wrap_i64]; omega
  have w2 : IntKind.wrap .i64 (0 - (1 + am)) = 0 - (1 + am) := by rw [IntKind.wrap_i64]; omega
  have w3 : IntKind.wrap .i64 (0 - 1) = -1 := by rw [IntKind.wrap_i64]; rfl
  simp only [w1, w2]
  have hname : ∀ j, j < st.Spares.length → spec_l01Name (st.Spares.getD j default).Name = true := fun j hj => by
    have hI := hok.s1 j hj
    unfold spec_l29Item at hI
    simp only [Bool.and_eq_true] at hI
    exact hI.1.1
  have hE : ∀ (dd : Int) (j : Nat) (x : Int), spec_l03Day dd = true → j < st.Spares.length → x ≠ 0 → -1000 ≤ x → x ≤ 1000 → spec_l29Entry ⟨dd, (st.Spares.getD j default).Name, x⟩ = true := fun dd j x hdd hj hx0 hx1 hx2 => by
    unfold spec_l29Entry spec_l00In
    rw [hdd, hname j hj]
    simp only [Bool.true_and, Bool.and_eq_true, decide_eq_true_eq, bne_iff_ne]
    exact ⟨⟨hx1, hx2⟩, hx0⟩
  have hnl : ∀ j, j < st.Spares.length → (st.Spares.getD j default).Name.length < 9223372036854775808 := fun j hj => ha.1.2 _ (by rw [List.getD_eq_getElem?_getD, List.getElem?_eq_getElem hj, Option.getD_some]; exact List.getElem_mem hj)
  have he1 := hE d i (1 + am) hd hi (by omega) (by omega) (by omega)
  have hread := impl_read2 (impl_EntryText ⟨d, (st.Spares.getD i default).Name, 1 + am⟩) (impl_EntryText_len _) ⟨d, (st.Spares.getD i default).Name, 1 + am⟩ ⟨he1, rfl⟩
  rw [hread]
  have hz : spec_l03Day 0 = true := by decide
  have hn1 := hE 0 i (1 + am) hz hi (by omega) (by omega) (by omega)
  have hn2 := hE 0 0 1 hz (by omega) (by omega) (by omega) (by omega)
  have hf1 := hE d i (0 - (1 + am)) hd hi (by omega) (by omega) (by omega)
  have hf2 := hE d 0 (-1) hd (by omega) (by omega) (by omega) (by omega)
  have htake := take_two st hok ha d hd ⟨0, (st.Spares.getD i default).Name, 1 + am⟩ ⟨0, (st.Spares.getD 0 default).Name, 1⟩ hn1 hn2 (by simp only; omega) (by simp only; omega)
  simp only [w2, w3] at htake
  rw [htake, add_put st _ hok ha hf1]
  cases laws_r8Long a0 a1 with
  | true => rfl
  | false =>
    simp only [cond_false, Bool.not_true, BEq.rfl, Bool.and_self, Bool.or_self, Bool.or_false, Int.zero_add]
    -- what is taken
    have hlast : (bif (impl_Store_put st ⟨d, (st.Spares.getD i default).Name, 0 - (1 + am)⟩).2 != 0 then
        (bif (impl_Store_put st ⟨d, (st.Spares.getD i default).Name, 0 - (1 + am)⟩).2 != 0 then ((⟨[], []⟩ : Store), (impl_Store_put st ⟨d, (st.Spares.getD i default).Name, 0 - (1 + am)⟩).2) else
          bif (impl_Store_put (impl_Store_put st ⟨d, (st.Spares.getD i default).Name, 0 - (1 + am)⟩).1 ⟨d, (st.Spares.getD 0 default).Name, -1⟩).2 != 0 then
            ((⟨[], []⟩ : Store), (impl_Store_put (impl_Store_put st ⟨d, (st.Spares.getD i default).Name, 0 - (1 + am)⟩).1 ⟨d, (st.Spares.getD 0 default).Name, -1⟩).2)
          else ((impl_Store_put (impl_Store_put st ⟨d, (st.Spares.getD i default).Name, 0 - (1 + am)⟩).1 ⟨d, (st.Spares.getD 0 default).Name, -1⟩).1, 0)).2 ==
          (impl_Store_put st ⟨d, (st.Spares.getD i default).Name, 0 - (1 + am)⟩).2
      else
        ((bif (impl_Store_put st ⟨d, (st.Spares.getD i default).Name, 0 - (1 + am)⟩).2 != 0 then ((⟨[], []⟩ : Store), (impl_Store_put st ⟨d, (st.Spares.getD i default).Name, 0 - (1 + am)⟩).2) else
          bif (impl_Store_put (impl_Store_put st ⟨d, (st.Spares.getD i default).Name, 0 - (1 + am)⟩).1 ⟨d, (st.Spares.getD 0 default).Name, -1⟩).2 != 0 then
            ((⟨[], []⟩ : Store), (impl_Store_put (impl_Store_put st ⟨d, (st.Spares.getD i default).Name, 0 - (1 + am)⟩).1 ⟨d, (st.Spares.getD 0 default).Name, -1⟩).2)
          else ((impl_Store_put (impl_Store_put st ⟨d, (st.Spares.getD i default).Name, 0 - (1 + am)⟩).1 ⟨d, (st.Spares.getD 0 default).Name, -1⟩).1, 0)).2 ==
          (impl_AddEntry (impl_Store_put st ⟨d, (st.Spares.getD i default).Name, 0 - (1 + am)⟩).1 ⟨d, (st.Spares.getD 0 default).Name, -1⟩).2 &&
        spec_SameStore (bif (impl_Store_put st ⟨d, (st.Spares.getD i default).Name, 0 - (1 + am)⟩).2 != 0 then ((⟨[], []⟩ : Store), (impl_Store_put st ⟨d, (st.Spares.getD i default).Name, 0 - (1 + am)⟩).2) else
          bif (impl_Store_put (impl_Store_put st ⟨d, (st.Spares.getD i default).Name, 0 - (1 + am)⟩).1 ⟨d, (st.Spares.getD 0 default).Name, -1⟩).2 != 0 then
            ((⟨[], []⟩ : Store), (impl_Store_put (impl_Store_put st ⟨d, (st.Spares.getD i default).Name, 0 - (1 + am)⟩).1 ⟨d, (st.Spares.getD 0 default).Name, -1⟩).2)
          else ((impl_Store_put (impl_Store_put st ⟨d, (st.Spares.getD i default).Name, 0 - (1 + am)⟩).1 ⟨d, (st.Spares.getD 0 default).Name, -1⟩).1, 0)).1
          (impl_AddEntry (impl_Store_put st ⟨d, (st.Spares.getD i default).Name, 0 - (1 + am)⟩).1 ⟨d, (st.Spares.getD 0 default).Name, -1⟩).1)) = true := by
      cases hp : (impl_Store_put st ⟨d, (st.Spares.getD i default).Name, 0 - (1 + am)⟩).2 != 0 with
      | true => simp
      | false =>
        have hp0 : (impl_Store_put st ⟨d, (st.Spares.getD i default).Name, 0 - (1 + am)⟩).2 = 0 := by simpa using hp
        obtain ⟨hok2, ha2⟩ := put_bw st _ hok ha hf1 (hnl i hi) hp0
        simp only [cond_false]
        rw [add_put _ _ hok2 ha2 hf2]
        have hfail := put_fail (impl_Store_put st ⟨d, (st.Spares.getD i default).Name, 0 - (1 + am)⟩).1 ⟨d, (st.Spares.getD 0 default).Name, -1⟩ hok2 hf2
        generalize impl_Store_put (impl_Store_put st ⟨d, (st.Spares.getD i default).Name, 0 - (1 + am)⟩).1 ⟨d, (st.Spares.getD 0 default).Name, -1⟩ = q at hfail
        cases hq : q.2 != 0 with
        | true =>
          have : q.1 = ⟨[], []⟩ := hfail (by simpa using hq)
          simp only [cond_true, this, spec_SameStore_dec]; simp
        | false =>
          have : q.2 = 0 := by simpa using hq
          simp only [cond_false, this, spec_SameStore_dec]; simp
    rcases drop_add st hok ha i hi hl ⟨d, (st.Spares.getD i default).Name, 1 + am⟩ rfl hd (by simp only; omega) (by simp only; omega) (by simp only; omega) with ⟨st', g1, g2⟩ | g
    · rw [g1]
      simp only at g2 ⊢
      rw [g2]
      simp only [spec_SameStore_dec, BEq.rfl, bne_self_eq_false, decide_true, Bool.not_true, Bool.or_self, cond_true, cond_false]
      simp only [spec_SameStore_dec] at hlast
      exact hlast
    · rw [g]
      simp only [show ((6 : Int) == 0) = false from rfl, show ((6 : Int) != 6) = false from rfl, cond_false]
      exact hlast
end Go.Ab

namespace Go.Ab
open Go Go.Proofs Go.Deep Go.ChangeShapes Go.WideShapes Go.ChangeAt Go.RowKit
set_option maxRecDepth 100000
theorem rdT22 : Rd Tryz.prog 22 (fun l : List Int => [encL 1 eIu8 l]) := rd_slice Tryz.underlying22 (by kernel_rfl) (by decide) (rd_int (k := .u8) Tryz.underlying5)
end Go.Ab
