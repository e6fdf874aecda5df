/- A part of a proof: walks of functions and lemmas of our own. No conditions. -/
import Derived.Test.YtaneiddiakjgdaaGreatDoorTAl
import Derived.Test.YtaneiddiakjgdaaGreatDoorTAu
import Derived.Test.YtaneiddiakjgdaaGreatDoorTAs
import Derived.Test.YtaneiddiakjgdaaGreatDoorTAq
import Derived.Test.YtaneiddiakjgdaaGreatDoorTAp
import Derived.Test.YtaneiddiakjgdaaGreatDoorTAr
import Derived.Test.YtaneiddiakjgdaaGreatDoorTAi
import Derived.Test.YtaneiddiakjgdaaGreatDoorTAt
import Derived.Test.YtaneiddiakjgdaaGreatDoorTAo
import Derived.Test.YtaneiddiakjgdaaGreatDoorTAn
import Derived.Test.YtaneiddiakjgdaaGreatDoorTAk
set_option linter.unusedSectionVars false
set_option linter.unusedVariables false
set_option linter.unusedSimpArgs false
set_option maxHeartbeats 1000000
namespace Go.Ab
open Go Go.Proofs
def spec_l21Ok_b1 (a0 : (List Notice)) (i1 : Nat) (s1 : Unit) : Except (Bool) (Unit) :=
  (bif (((!(spec_l21One (a0.getD i1 default))) || (decide (0 < (i1 : Int)) && (decide (((a0.getD i1 default).Number) ≤ ((a0.getD ((IntKind.wrap .i64 ((i1 : Int) - 1)).toNat) default).Number)) || decide (((a0.getD i1 default).Day) < ((a0.getD ((IntKind.wrap .i64 ((i1 : Int) - 1)).toNat) default).Day))))) || (!(spec_l21Cancels (subL a0 0 (i1)) (a0.getD i1 default)))) then .error false else .ok ())
def spec_l21Ok (a0 : (List Notice)) : Bool :=
  (match loopR (spec_l21Ok_b1 a0) (a0.length - 0) 0 () with | .error e => e | .ok s1 => decide ((a0.length : Int) ≤ 32))
namespace N69
theorem DD : DOk Tryz.prog (Go.Ab.DD [(120, dP D_spec_l21One), (121, dP D_spec_l21Cancels)]) := DD_cons D_spec_l21One_ok.e <| DD_cons D_spec_l21Cancels_ok.e <| DD_nil _
theorem dn : type_of% (And.intro @D_spec_l21One.eq_1 <| @D_spec_l21Cancels.eq_1) := by and_intros <;> intros <;> rfl
theorem den (a0 : (List Notice)) (hb0 : a0.length < 1099511627776) (hb1 : ∀ v ∈ a0, bdNotice v) : Den Tryz.prog 69 [encL 20 eNotice a0] (.bool (spec_l21Ok a0)) := by
  generalize hR : spec_l21Ok a0 = r
  unfold spec_l21Ok at hR
  refine di Tryz.func69 Tryz.ntmps69 Tryz.results69 ?_
  intro c hL hc hk
  obtain ⟨hL0, _⟩ := hL
  have hw0 : a0.length < 9223372036854775808 := Nat.lt_succ_of_le (lens_encL hL0).1
  have hw1 : ∀ v ∈ a0, bwNotice v := fun v hv => Notice_lens v ((lens_encL hL0).2 v hv)
  clear hL0
  simp only [pars, Nat.zero_add]
  iterate 2 refine rS ?_
  refine AWP.block ?_
  generalize hz1 : loopR (spec_l21Ok_b1 a0) (a0.length - 0) 0 () = z1 at hR
  refine AWP.range (spec_l21Ok_b1 a0) (fun i1 s1 => ⟨[(0, encL 20 eNotice a0), (3, .int .i64 (i1 : Int))], []⟩) (fun i1 s1 => True) (a0.length) 0 () [] hz1 ot wt sm ?_
  clear hz1
  intro i1 s1 hi1 hW1 hz1
  refine rS ?_
  refine AWP.cond rfl (fun hb => ?_) (fun hb => ?_)
  · have hlt1 : i1 < a0.length := ot
    rw [loopR_lt hlt1] at hz1; simp only [spec_l21Ok_b1] at hz1
    refine rS ?_
    refine rD 41 ?_
    refine AWP.cond rfl (fun hb => ?_) (fun hb => ?_)
    · simp only [hb, cond_true] at hz1
      refine rS ?_
      refine AWP.ret ?_
      subst hz1
      dsimp only at hR
      subst hR
      exact es
    · simp only [hb, cond_false] at hz1
      refine rS ?_
      exact ⟨_, [], hlt1, wt, hz1, sm⟩
  · obtain rfl : i1 = a0.length := ot
    rw [loopR_ge (Nat.le_refl _)] at hz1; subst hz1; dsimp only at hR
    refine AWP.exit ?_; refine exitTo_here ?_
    refine rS ?_
    refine AWP.ret ?_
    subst hR
    exact es
end N69
def D_spec_l21Ok : DF
  | [x0] => some (.bool (spec_l21Ok (rdL dNotice x0)), false, [wL 20 eNotice dNotice x0, (rdL dNotice x0).length < 1099511627776, ∀ v ∈ (rdL dNotice x0), bdNotice v])
  | _ => none
theorem D_spec_l21Ok_ok : OkD Tryz.prog 69 D_spec_l21Ok := by unfold D_spec_l21Ok; exact dk N69.den
end Go.Ab

namespace Go.Ab
open Go Go.Proofs
theorem valNotice_eq (n : Notice) (h : aidL n.Aid) : impl_ValidNotice n = spec_l21One n := by
  unfold impl_ValidNotice spec_l21One impl_Notice_hasAid
  rw [validAid_eq _ h.1 h.2]
  simp only [sameAid_eq]
  have e1 : impl_isNumber n.Number = spec_l00In n.Number 1 9999 := rfl
  have e2 : impl_isNumber n.Target = spec_l00In n.Target 1 9999 := rfl
  have e3 : impl_isDay n.Day = spec_l03Day n.Day := rfl
  have e4 : impl_within n.Kind 1 4 = ((((n.Kind == 1) || (n.Kind == 2)) || (n.Kind == 3)) || (n.Kind == 4)) := by
    unfold impl_within
    apply Bool.eq_iff_iff.2
    simp only [Bool.and_eq_true, Bool.or_eq_true, decide_eq_true_eq, beq_iff_eq]
    omega
  rw [e1, e2, e3, e4]
  cases spec_l00In n.Number 1 9999 <;> cases spec_l03Day n.Day <;> cases (n.Kind == 1) <;> cases (n.Kind == 2) <;> cases (n.Kind == 3) <;> cases (n.Kind == 4) <;> rfl
theorem cancelled_any (l : List Notice) (t d : Int) : spec_l21Cancelled l t d = l.any (fun m => ((m.Kind == 4) && (m.Target == t)) && decide (m.Day ≤ d)) := by
  unfold spec_l21Cancelled
  rw [loopR_any (b := spec_l21Cancelled_b1 l t d) (fun j => (((l.getD j default).Kind == 4) && ((l.getD j default).Target == t)) && decide ((l.getD j default).Day ≤ d)) true (fun j u _ _ => rfl)]
  simp only [Nat.sub_zero, Nat.zero_add]
  rw [any_range_getD (fun m : Notice => ((m.Kind == 4) && (m.Target == t)) && decide (m.Day ≤ d)) l]
  cases l.any (fun m => ((m.Kind == 4) && (m.Target == t)) && decide (m.Day ≤ d)) <;> rfl
theorem contains2_any (l : List Notice) (n : Notice) : slices_ContainsFunc_Notice__impl_Notice_canCancel_2 l n = l.any (fun m => (m.Kind == 4) && (m.Target == n.Target)) := by
  unfold slices_ContainsFunc_Notice__impl_Notice_canCancel_2 slices_IndexFunc_Notice__impl_Notice_canCancel_2
  have ha := any_range_getD (fun m : Notice => (m.Kind == 4) && (m.Target == n.Target)) l
  rcases loopR_first (b := slices_IndexFunc_Notice__impl_Notice_canCancel_2_b1 l n) (fun j => ((l.getD j default).Kind == 4) && ((l.getD j default).Target == n.Target)) (fun j => (j : Int)) (k := l.length - 0) (i := 0) (s := ()) (fun j u _ _ => rfl) with ⟨j, _, h2, h3, h4, h5⟩ | ⟨h1, h2⟩
  · rw [h5]
    rw [← ha, List.any_eq_true.2 ⟨j, by simpa using h2, h3⟩]
    simp
  · rw [h2, ← ha]
    have : (List.range l.length).any (fun i => (((l.getD i default).Kind == 4) && ((l.getD i default).Target == n.Target))) = false := by
      rw [List.any_eq_false]
      intro i hi
      rw [h1 i (Nat.zero_le _) (by simpa using hi)]
      simp
    rw [this]; rfl
theorem inForce1_any (l : List Notice) (n : Notice) (d : Int) : slices_ContainsFunc_Notice__impl_inForce_1 l n d = spec_l21Cancelled l n.Number d := by
  rw [cancelled_any]
  unfold slices_ContainsFunc_Notice__impl_inForce_1 slices_IndexFunc_Notice__impl_inForce_1
  have ha := any_range_getD (fun m : Notice => ((m.Kind == 4) && (m.Target == n.Number)) && decide (m.Day ≤ d)) l
  rcases loopR_first (b := slices_IndexFunc_Notice__impl_inForce_1_b1 l n d) (fun j => (((l.getD j default).Kind == 4) && ((l.getD j default).Target == n.Number)) && decide ((l.getD j default).Day ≤ d)) (fun j => (j : Int)) (k := l.length - 0) (i := 0) (s := ()) (fun j u _ _ => rfl) with ⟨j, _, h2, h3, h4, h5⟩ | ⟨h1, h2⟩
  · rw [h5]
    rw [← ha, List.any_eq_true.2 ⟨j, by simpa using h2, h3⟩]
    simp
  · rw [h2, ← ha]
    have : (List.range l.length).any (fun i => ((((l.getD i default).Kind == 4) && ((l.getD i default).Target == n.Number)) && decide ((l.getD i default).Day ≤ d))) = false := by
      rw [List.any_eq_false]
      intro i hi
      rw [h1 i (Nat.zero_le _) (by simpa using hi)]
      simp
    rw [this]; rfl
theorem cancel_eq (l : List Notice) (n : Notice) (hd : ∀ m ∈ l, m.Day ≤ 99999) : ((n.Kind == 4) && (!(impl_Notice_canCancel n l))) = !(spec_l21Cancels l n) := by
  unfold spec_l21Cancels
  cases hk : (n.Kind == 4) with
  | false =>
    have : (n.Kind != 4) = true := by simp only [bne, hk]; rfl
    rw [this]; rfl
  | true =>
    have : (n.Kind != 4) = false := by simp only [bne, hk]; rfl
    rw [this, cond_false, Bool.true_and]
    congr 1
    unfold impl_Notice_canCancel
    rw [contains2_any]
    have hc : l.any (fun m => (m.Kind == 4) && (m.Target == n.Target)) = spec_l21Cancelled l n.Target 99999 := by
      rw [cancelled_any]
      apply Bool.eq_iff_iff.2
      rw [List.any_eq_true, List.any_eq_true]
      constructor
      · rintro ⟨x, hx, h⟩; exact ⟨x, hx, by rw [h]; simpa using hd x hx⟩
      · rintro ⟨x, hx, h⟩; exact ⟨x, hx, by rw [Bool.and_eq_true] at h; exact h.1⟩
    rw [hc]
    rcases slices_IndexFunc_Notice__impl_Notice_canCancel_1_first l n with ⟨j, h1, h2, h3, h4⟩ | ⟨h1, h2⟩
    · rw [h4]
      rcases loopR_first (b := spec_l21Cancels_b1 l n) (fun j => (l.getD j default).Number == n.Target) (fun j => ((((l.getD j default).Kind) != 4) && (!(spec_l21Cancelled l n.Target 99999)))) (k := l.length - 0) (i := 0) (s := ()) (fun j u _ _ => rfl) with ⟨q, _, g2, g3, g4, g5⟩ | ⟨g1, _⟩
      · have : q = j := by
          rcases Nat.lt_trichotomy q j with h | h | h
          · have := h3 q h
            unfold impl_Notice_canCancel_1 at this
            rw [this] at g3; cases g3
          · exact h
          · have := g4 j (Nat.zero_le _) h
            unfold impl_Notice_canCancel_1 at h2
            rw [this] at h2; cases h2
        subst this
        rw [g5, decide_eq_false (by omega), Bool.false_or, Int.toNat_natCast]
        simp only [bne]
        cases ((l.getD q default).Kind == 4) <;> rfl
      · have := g1 j (Nat.zero_le _) (by omega)
        unfold impl_Notice_canCancel_1 at h2
        rw [this] at h2; cases h2
    · rw [h2]
      rcases loopR_first (b := spec_l21Cancels_b1 l n) (fun j => (l.getD j default).Number == n.Target) (fun j => ((((l.getD j default).Kind) != 4) && (!(spec_l21Cancelled l n.Target 99999)))) (k := l.length - 0) (i := 0) (s := ()) (fun j u _ _ => rfl) with ⟨q, _, g2, g3, g4, g5⟩ | ⟨_, g2⟩
      · have := h1 q (by omega)
        unfold impl_Notice_canCancel_1 at this
        rw [this] at g3; cases g3
      · rw [g2]; rfl
theorem getD_mem {α : Type} [Inhabited α] {l : List α} {j : Nat} (hj : j < l.length) : l.getD j default ∈ l := by
  rw [List.getD_eq_getElem?_getD, List.getElem?_eq_getElem hj]
  exact List.getElem_mem hj
theorem aidL_default : aidL (default : Notice).Aid := ⟨by decide, by decide⟩
theorem one_day {n : Notice} (h : spec_l21One n = true) : n.Day ≤ 99999 := by
  unfold spec_l21One at h
  cases hd : spec_l03Day n.Day with
  | false => rw [hd] at h; simp at h
  | true =>
    unfold spec_l03Day spec_l00In at hd
    simp only [Bool.and_eq_true, decide_eq_true_eq] at hd
    exact hd.2
theorem valNotices_eq (l : List Notice) (h : ∀ n ∈ l, aidL n.Aid) : impl_ValidNotices l = spec_l21Ok l := by
  unfold impl_ValidNotices spec_l21Ok
  rw [loopR_sameP (b := impl_ValidNotices_b1 l) (b' := spec_l21Ok_b1 l) (fun j => (l.getD j default).Day ≤ 99999) (fun j hj => by
    simp only [spec_l21Ok_b1] at hj
    cases hc : spec_l21One (l.getD j default) with
    | true => exact one_day hc
    | false => rw [hc] at hj; simp at hj) (l.length - 0) 0 (fun q hq => absurd hq (Nat.not_lt_zero _)) (fun j _ hj hp => by
      simp only [impl_ValidNotices_b1, spec_l21Ok_b1]
      have hb : aidL (l.getD j default).Aid := bd_getD (p := fun n : Notice => aidL n.Aid) h aidL_default j
      rw [valNotice_eq _ hb, cancel_eq (subL l 0 j) (l.getD j default) (fun m hm => by
        rw [subL_take l _ (by omega)] at hm
        obtain ⟨q, hq, rfl⟩ := List.getElem_of_mem hm
        simp only [List.length_take] at hq
        have := hp q (by omega)
        rw [List.getD_eq_getElem?_getD, List.getElem?_eq_getElem (show q < l.length by omega)] at this
        simp only [List.getElem_take]
        exact this)])]
  rfl
def inF (l : List Notice) (d : Int) (n : Notice) : Bool := ((n.Kind != 4) && decide (n.Day ≤ d)) && !(spec_l21Cancelled l n.Number d)
theorem force_eq (l : List Notice) (i : Nat) (d : Int) : spec_l21Force l (i : Int) d = inF l d (l.getD i default) := by
  unfold spec_l21Force inF
  rw [Int.toNat_natCast]
  cases (l.getD i default).Kind != 4 <;> cases decide ((l.getD i default).Day ≤ d) <;> rfl
theorem inForce_eq (l : List Notice) (d : Int) : impl_inForce l d = l.filter (inF l d) := by
  unfold impl_inForce
  rw [loopR_filter l (impl_inForce_b1 l d) (inF l d) (fun x => x) (fun i s hi => by simp only [impl_inForce_b1, inForce1_any]; rfl)]
  simp
theorem l21_all {l : List Notice} (h : spec_l21Ok l = true) : (∀ n ∈ l, spec_l21One n = true) ∧ l.length ≤ 32 := by
  unfold spec_l21Ok at h
  have h := (loopR_allF (b := spec_l21Ok_b1 l) (fun i1 => (((!(spec_l21One (l.getD i1 default))) || (decide (0 < (i1 : Int)) && (decide (((l.getD i1 default).Number) ≤ ((l.getD ((IntKind.wrap .i64 ((i1 : Int) - 1)).toNat) default).Number)) || decide (((l.getD i1 default).Day) < ((l.getD ((IntKind.wrap .i64 ((i1 : Int) - 1)).toNat) default).Day))))) || (!(spec_l21Cancels (subL l 0 (i1)) (l.getD i1 default))))) l.length _ (fun j u _ => rfl)).1 h
  refine ⟨fun n hn => ?_, by have := of_decide_eq_true h.2; omega⟩
  obtain ⟨j, hj, rfl⟩ := List.getElem_of_mem hn
  have := h.1 j hj
  rw [Bool.or_eq_false_iff, Bool.or_eq_false_iff] at this
  have h3 := this.1.1
  rw [List.getD_eq_getElem?_getD, List.getElem?_eq_getElem hj] at h3
  simpa using h3
end Go.Ab

namespace Go.Ab
open Go Go.Proofs
theorem l21Ok_len {a : List Notice} (h : spec_l21Ok a = true) : a.length ≤ 32 := by
  unfold spec_l21Ok at h
  split at h
  · rename_i e he
    obtain ⟨j, t, _, _, h3⟩ := loopR_error he
    simp only [spec_l21Ok_b1, Bool.cond_eq_ite] at h3
    split at h3
    · cases h3; cases h
    · cases h3
  · have := of_decide_eq_true h; omega
theorem vNts_len {a : List Notice} (h : impl_ValidNotices a = true) : a.length ≤ 32 := by
  unfold impl_ValidNotices at h
  split at h
  · rename_i e he
    obtain ⟨j, t, _, _, h3⟩ := loopR_error he
    simp only [impl_ValidNotices_b1, Bool.cond_eq_ite] at h3
    split at h3
    · cases h3; cases h
    · cases h3
  · unfold impl_few at h; have := of_decide_eq_true h; omega
end Go.Ab

namespace Go.Ab
open Go Go.Proofs
def impl_currentCode (a0 : (List Aid)) (a1 : (List Notice)) (a2 : Int) : Int :=
  (bif ((!(impl_ValidAids a0)) || (!(impl_ValidNotices a1))) then 1 else (bif (!(impl_isDay a2)) then 2 else 0))
namespace N117
theorem DD : DOk Tryz.prog (Go.Ab.DD [(72, dP D_impl_ValidNotices), (73, dP D_impl_isDay), (79, dP D_impl_ValidAids)]) := DD_cons D_impl_ValidNotices_ok.e <| DD_cons D_impl_isDay_ok.e <| DD_cons D_impl_ValidAids_ok.e <| DD_nil _
theorem dn : type_of% (And.intro @D_impl_ValidNotices.eq_1 <| And.intro @D_impl_isDay.eq_1 <| @D_impl_ValidAids.eq_1) := by and_intros <;> intros <;> rfl
theorem gr {p : Prop} (h : p := by (grind [vNts_len, vAids_len]); first | done | fail) : p := h
theorem den (a0 : (List Aid)) (a1 : (List Notice)) (a2 : Int) (hb0 : a0.length < 1099511627776) (hb1 : ∀ v ∈ a0, bdAid v) (hb2 : a1.length < 1099511627776) (hb3 : ∀ v ∈ a1, bdNotice v) : Den Tryz.prog 117 [encL 16 eAid a0, encL 20 eNotice a1, .int .i64 a2] (.int .i64 (impl_currentCode a0 a1 a2)) := by
  generalize hR : impl_currentCode a0 a1 a2 = r
  unfold impl_currentCode at hR
  refine di Tryz.func117 Tryz.ntmps117 Tryz.results117 ?_
  intro c hL hc hk
  obtain ⟨hL0, hL1, hL2, _⟩ := hL
  have hw0 : a0.length < 9223372036854775808 := Nat.lt_succ_of_le (lens_encL hL0).1
  have hw1 : ∀ v ∈ a0, bwAid v := fun v hv => Aid_lens v ((lens_encL hL0).2 v hv)
  have hw2 : a1.length < 9223372036854775808 := Nat.lt_succ_of_le (lens_encL hL1).1
  have hw3 : ∀ v ∈ a1, bwNotice v := fun v hv => Notice_lens v ((lens_encL hL1).2 v hv)
  clear hL0 hL1 hL2
  simp only [pars, Nat.zero_add]
  iterate 2 refine rS ?_
  refine AWP.cond rfl (fun hb => ?_) (fun hb => ?_)
  · replace hR := ct hR
    refine rS ?_
    refine AWP.ret ?_
    subst hR
    exact es
  · replace hR := cf hR
    refine rS ?_
    refine AWP.cond rfl (fun hb => ?_) (fun hb => ?_)
    · replace hR := ct hR
      refine rS ?_
      refine AWP.ret ?_
      subst hR
      exact es
    · replace hR := cf hR
      refine rS ?_
      refine AWP.ret ?_
      subst hR
      exact es
end N117
def D_impl_currentCode : DF
  | [x0, x1, x2] => some (.int .i64 (impl_currentCode (rdL dAid x0) (rdL dNotice x1) (rdI x2)), false, [wL 16 eAid dAid x0, wL 20 eNotice dNotice x1, wI .i64 x2, (rdL dAid x0).length < 1099511627776, ∀ v ∈ (rdL dAid x0), bdAid v, (rdL dNotice x1).length < 1099511627776, ∀ v ∈ (rdL dNotice x1), bdNotice v])
  | _ => none
theorem D_impl_currentCode_ok : OkD Tryz.prog 117 D_impl_currentCode := by unfold D_impl_currentCode; exact dk N117.den
end Go.Ab

namespace Go.Ab
open Go Go.Proofs
def impl_Notice_effect (a0 : Notice) (a1 : (List Aid)) : ((List Aid) × Int) :=
  (bif (a0.Kind == 1) then ((impl_AddAid a1 a0.Aid).1, (impl_AddAid a1 a0.Aid).2) else (bif (a0.Kind == 2) then ((impl_ReplaceAid a1 a0.Aid).1, (impl_ReplaceAid a1 a0.Aid).2) else ((impl_DropAid a1 a0.Target).1, (impl_DropAid a1 a0.Target).2)))
namespace N175
theorem DD : DOk Tryz.prog (Go.Ab.DD [(183, dP D_impl_ReplaceAid), (184, dP D_impl_DropAid), (34, dP D_impl_AddAid)]) := DD_cons D_impl_ReplaceAid_ok.e <| DD_cons D_impl_DropAid_ok.e <| DD_cons D_impl_AddAid_ok.e <| DD_nil _
theorem dn : type_of% (And.intro @D_impl_ReplaceAid.eq_1 <| And.intro @D_impl_DropAid.eq_1 <| @D_impl_AddAid.eq_1) := by and_intros <;> intros <;> rfl
theorem den (a0 : Notice) (a1 : (List Aid)) (hb0 : bdNotice a0) (hb1 : a1.length < 1099511627776) (hb2 : ∀ v ∈ a1, bdAid v) : Den Tryz.prog 175 [.agg (eNotice a0), encL 16 eAid a1] (.tup [ownL 63 16 eAidO ((impl_Notice_effect a0 a1).1), .int .i64 ((impl_Notice_effect a0 a1).2)]) := by
  generalize hR : impl_Notice_effect a0 a1 = r
  unfold impl_Notice_effect at hR
  refine di Tryz.func175 Tryz.ntmps175 Tryz.results175 ?_
  intro c hL hc hk
  obtain ⟨hL0, hL1, _⟩ := hL
  have hw0 : bwNotice a0 := Notice_lens a0 hL0
  have hw1 : a1.length < 9223372036854775808 := Nat.lt_succ_of_le (lens_encL hL1).1
  have hw2 : ∀ v ∈ a1, bwAid v := fun v hv => Aid_lens v ((lens_encL hL1).2 v hv)
  clear hL0 hL1
  simp only [pars, Nat.zero_add]
  iterate 3 refine rS ?_
  refine AWP.cond rfl (fun hb => ?_) (fun hb => ?_)
  · replace hR := ct hR
    refine rS ?_
    refine AWP.ret ?_
    subst hR
    exact es
  · replace hR := cf hR
    refine rS ?_
    refine AWP.cond rfl (fun hb => ?_) (fun hb => ?_)
    · replace hR := ct hR
      refine rS ?_
      refine AWP.ret ?_
      subst hR
      exact es
    · replace hR := cf hR
      refine rS ?_
      refine AWP.ret ?_
      subst hR
      exact es
end N175
def D_impl_Notice_effect : DF
  | [x0, x1] => some (.tup [ownL 63 16 eAidO ((impl_Notice_effect (rdG dNotice x0) (rdL dAid x1)).1), .int .i64 ((impl_Notice_effect (rdG dNotice x0) (rdL dAid x1)).2)], false, [wG eNotice dNotice x0, wL 16 eAid dAid x1, bdNotice (rdG dNotice x0), (rdL dAid x1).length < 1099511627776, ∀ v ∈ (rdL dAid x1), bdAid v])
  | _ => none
def Dz_impl_Notice_effect : DF
  | [x0, x1] => some (.tup [ownL 63 16 eAidO ((impl_Notice_effect (rdG dNotice x0) (rdL dAid x1)).1), .int .i64 ((impl_Notice_effect (rdG dNotice x0) (rdL dAid x1)).2)], true, [wG eNotice dNotice x0, wL 16 eAid dAid x1, bdNotice (rdG dNotice x0), (rdL dAid x1).length < 1099511627776, ∀ v ∈ (rdL dAid x1), bdAid v])
  | _ => none
theorem D_impl_Notice_effect_ok : OkD Tryz.prog 175 D_impl_Notice_effect := by unfold D_impl_Notice_effect; exact dk N175.den
theorem Dz_impl_Notice_effect_ok : OkD Tryz.prog 175 Dz_impl_Notice_effect := by unfold Dz_impl_Notice_effect; exact dk N175.den
end Go.Ab

namespace Go.Ab
open Go Go.Proofs
theorem put_all (P : Aid → Prop) (l : List Aid) (a : Aid) (hl : l.length < 9223372036854775807) (hv : ∀ v ∈ l, P v) (ha : P a) : (∀ v ∈ (spec_l12Put l a).1, P v) ∧ (spec_l12Put l a).1.length ≤ l.length + 1 := by
  rw [l12Put_eq l a (by omega)]
  cases (decide (upto l a.Number < l.length) && ((l.getD (upto l a.Number) default).Number == a.Number)) with
  | true => exact ⟨fun v hv => by simp at hv, by simp⟩
  | false =>
    simp only [cond_false]
    cases ((l.length : Int) == 24) with
    | true => exact ⟨fun v hv => by simp at hv, by simp⟩
    | false =>
      simp only [cond_false, putA]
      refine ⟨fun v h => ?_, by simp; omega⟩
      simp only [List.mem_append, List.mem_singleton] at h
      rcases h with (h | h) | h
      · exact hv v (List.mem_of_mem_take h)
      · subst h; exact ha
      · exact hv v (List.mem_of_mem_drop h)
theorem set_all {α : Type} (P : α → Prop) (l : List α) (i : Nat) (a : α) (hv : ∀ v ∈ l, P v) (ha : P a) : ∀ v ∈ l.set i a, P v := fun v h => by
  rcases List.mem_or_eq_of_mem_set h with h | h
  · exact hv v h
  · subst h; exact ha
theorem repl_all (P : Aid → Prop) (l : List Aid) (a : Aid) (hv : ∀ v ∈ l, P v) (ha : P a) : (∀ v ∈ (spec_l12Replace l a).1, P v) ∧ (spec_l12Replace l a).1.length ≤ l.length := by
  unfold spec_l12Replace
  cases decide ((spec_l12Find l a.Number) < 0) with
  | true => exact ⟨fun v hv => by simp at hv, by simp⟩
  | false =>
    simp only [cond_false, ownAids_id, ownAid_id]
    exact ⟨set_all P _ _ _ hv ha, by simp⟩
theorem drop_all (P : Aid → Prop) (l : List Aid) (n : Int) (hl : l.length < 9223372036854775807) (hv : ∀ v ∈ l, P v) : (∀ v ∈ (spec_l12Drop l n).1, P v) ∧ (spec_l12Drop l n).1.length ≤ l.length := by
  unfold spec_l12Drop
  have hf := spec_l12Find_lt l n
  cases hd : decide ((spec_l12Find l n) < 0) with
  | true => exact ⟨fun v hv => by simp at hv, by simp⟩
  | false =>
    have hd := of_decide_eq_false hd
    have hw : IntKind.wrap .i64 (spec_l12Find l n + 1) = spec_l12Find l n + 1 := by rw [IntKind.wrap_i64]; omega
    simp only [cond_false, ownAids_id, hw]
    rw [subL_take l _ (by omega), subL_drop l _ (by omega)]
    refine ⟨fun v h => ?_, by simp; omega⟩
    rcases List.mem_append.1 h with h | h
    · exact hv v (List.mem_of_mem_take h)
    · exact hv v (List.mem_of_mem_drop h)
theorem iadd_all (P : Aid → Prop) (l : List Aid) (a : Aid) (hl : l.length < 9223372036854775807) (hv : ∀ v ∈ l, P v) (ha : P a) : (∀ v ∈ (impl_AddAid l a).1, P v) ∧ (impl_AddAid l a).1.length ≤ 25 := by
  unfold impl_AddAid
  cases hb : ((!(impl_ValidAids l)) || (!(impl_ValidAid a))) with
  | true => exact ⟨fun v hv => by simp at hv, by simp⟩
  | false =>
    have hn := vAids_len (a := l) (by rw [Bool.or_eq_false_iff] at hb; simpa using hb.1)
    simp only [cond_false, copyAids_id, copyAid_id]
    cases (impl_aidOf l a.Number).2 with
    | true => exact ⟨fun v hv => by simp at hv, by simp⟩
    | false =>
      simp only [cond_false]
      cases ((l.length : Int) == 24) with
      | true => exact ⟨fun v hv => by simp at hv, by simp⟩
      | false =>
        simp only [cond_false, slices_Insert_Aid]
        refine ⟨fun v h => ?_, by simp; omega⟩
        simp only [List.mem_append, List.mem_singleton] at h
        rcases h with (h | h) | h
        · exact hv v (List.mem_of_mem_take h)
        · subst h; exact ha
        · exact hv v (List.mem_of_mem_drop h)
theorem irepl_all (P : Aid → Prop) (l : List Aid) (a : Aid) (hv : ∀ v ∈ l, P v) (ha : P a) : (∀ v ∈ (impl_ReplaceAid l a).1, P v) ∧ (impl_ReplaceAid l a).1.length ≤ 25 := by
  unfold impl_ReplaceAid
  cases hb : ((!(impl_ValidAids l)) || (!(impl_ValidAid a))) with
  | true => exact ⟨fun v hv => by simp at hv, by simp⟩
  | false =>
    have hn := vAids_len (a := l) (by rw [Bool.or_eq_false_iff] at hb; simpa using hb.1)
    simp only [cond_false, copyAids_id, copyAid_id]
    cases (!(impl_aidOf l a.Number).2) with
    | true => exact ⟨fun v hv => by simp at hv, by simp⟩
    | false =>
      simp only [cond_false]
      exact ⟨set_all P _ _ _ hv ha, by simp; omega⟩
theorem idrop_all (P : Aid → Prop) (l : List Aid) (n : Int) (hl : l.length < 9223372036854775807) (hv : ∀ v ∈ l, P v) : (∀ v ∈ (impl_DropAid l n).1, P v) ∧ (impl_DropAid l n).1.length ≤ 25 := by
  unfold impl_DropAid
  cases hb : (!(impl_ValidAids l)) with
  | true => exact ⟨fun v hv => by simp at hv, by simp⟩
  | false =>
    have hn := vAids_len (a := l) (by simpa using hb)
    simp only [cond_false, copyAids_id]
    have hf := impl_aidOf_ix l n (by omega)
    have hw : IntKind.wrap .i64 ((impl_aidOf l n).1 + 1) = (impl_aidOf l n).1 + 1 := by rw [IntKind.wrap_i64]; omega
    cases (!(impl_aidOf l n).2) with
    | true => exact ⟨fun v hv => by simp at hv, by simp⟩
    | false =>
      simp only [cond_false, slices_Delete_Aid, hw]
      refine ⟨fun v h => ?_, by simp; omega⟩
      rcases List.mem_append.1 h with h | h
      · exact hv v (List.mem_of_mem_take h)
      · exact hv v (List.mem_of_mem_drop h)
end Go.Ab

namespace Go.Ab
open Go Go.Proofs
theorem eff_all (P : Aid → Prop) (l : List Aid) (n : Notice) (hl : l.length < 9223372036854775807) (hv : ∀ v ∈ l, P v) (ha : P n.Aid) : (∀ v ∈ (impl_Notice_effect n l).1, P v) ∧ (impl_Notice_effect n l).1.length ≤ 25 := by
  unfold impl_Notice_effect
  cases (n.Kind == 1) with
  | true => exact iadd_all P l _ hl hv ha
  | false =>
    cases (n.Kind == 2) with
    | true => exact irepl_all P l n.Aid hv ha
    | false => exact idrop_all P l n.Target hl hv
end Go.Ab

namespace Go.Ab
open Go Go.Proofs
def impl_current_b1 (a0 : (List Aid)) (a1 : (List Notice)) (a2 : Int) (i1 : Nat) (s1 : List Aid) : Except (((List Aid) × Int × Int)) (List Aid) :=
  (bif (((impl_Notice_effect ((impl_inForce a1 a2).getD i1 default) s1).2) != 0) then .error ([], ((impl_inForce a1 a2).getD i1 default).Number, (impl_Notice_effect ((impl_inForce a1 a2).getD i1 default) s1).2) else .ok ((impl_Notice_effect ((impl_inForce a1 a2).getD i1 default) s1).1))
def impl_current (a0 : (List Aid)) (a1 : (List Notice)) (a2 : Int) : ((List Aid) × Int × Int) :=
  (match loopR (impl_current_b1 a0 a1 a2) (((impl_inForce a1 a2).length) - 0) 0 (impl_copyAids a0) with | .error e => e | .ok s1 => (s1, 0, 0))
namespace N118
theorem DD : DOk Tryz.prog (Go.Ab.DD [(175, dP D_impl_Notice_effect), (74, dP D_impl_inForce), (96, dP D_impl_copyAids)]) := DD_cons D_impl_Notice_effect_ok.e <| DD_cons D_impl_inForce_ok.e <| DD_cons D_impl_copyAids_ok.e <| DD_nil _
theorem dn : type_of% (And.intro @D_impl_Notice_effect.eq_1 <| And.intro @D_impl_inForce.eq_1 <| @D_impl_copyAids.eq_1) := by and_intros <;> intros <;> rfl
theorem ol : type_of% (@copyAids_id) := @copyAids_id
theorem gr {p : Prop} (h : p := by (grind [inForce_len]); first | done | fail) : p := h
theorem den (a0 : (List Aid)) (a1 : (List Notice)) (a2 : Int) (hb0 : a0.length < 1099511627776) (hb1 : ∀ v ∈ a0, bdAid v) (hb2 : a1.length < 1099511627776) (hb3 : ∀ v ∈ a1, bdNotice v) (hp0 : a0.length ≤ 1048576) (hp1 : a1.length ≤ 1048576) : Den Tryz.prog 118 [encL 16 eAid a0, encL 20 eNotice a1, .int .i64 a2] (.tup [ownL 63 16 eAidO ((impl_current a0 a1 a2).1), .int .i64 ((impl_current a0 a1 a2).2.1), .int .i64 ((impl_current a0 a1 a2).2.2)]) := by
  generalize hR : impl_current a0 a1 a2 = r
  unfold impl_current at hR
  refine di Tryz.func118 Tryz.ntmps118 Tryz.results118 ?_
  intro c hL hc hk
  obtain ⟨hL0, hL1, hL2, _⟩ := hL
  have hw0 : a0.length < 9223372036854775808 := Nat.lt_succ_of_le (lens_encL hL0).1
  have hw1 : ∀ v ∈ a0, bwAid v := fun v hv => Aid_lens v ((lens_encL hL0).2 v hv)
  have hw2 : a1.length < 9223372036854775808 := Nat.lt_succ_of_le (lens_encL hL1).1
  have hw3 : ∀ v ∈ a1, bwNotice v := fun v hv => Notice_lens v ((lens_encL hL1).2 v hv)
  clear hL0 hL1 hL2
  simp only [pars, Nat.zero_add]
  have hfl := inForce_len a1 a2
  have hfa := (inForce_inv bdNotice a1 a2 (by assumption)).2
  iterate 3 refine rS ?_
  refine AWP.block ?_
  generalize hz1 : loopR (impl_current_b1 a0 a1 a2) (((impl_inForce a1 a2).length) - 0) 0 (impl_copyAids a0) = z1 at hR
  refine AWP.range (impl_current_b1 a0 a1 a2) (fun i1 s1 => ⟨[(9, .ref 0 16 0 s1.length), (18, .ref 1 20 0 ((impl_inForce a1 a2).length)), (19, .int .i64 ((impl_inForce a1 a2).length : Int)), (20, .int .i64 (i1 : Int))], [.arr 63 16 s1.length (fun j => eAidO (s1.getD j default)), .arr 90 20 (impl_inForce a1 a2).length (fun j => eNotice ((impl_inForce a1 a2).getD j default))]⟩) (fun i1 s1 => (∀ v ∈ s1, bdAid v) ∧ s1.length ≤ 1048576) (((impl_inForce a1 a2).length)) 0 (impl_copyAids a0) [0, 1] hz1 ot (by (simp only [copyAids_id, ownAids_id]; exact ⟨by assumption, by omega⟩)) sm ?_
  clear hz1
  intro i1 s1 hi1 hW1 hz1
  have hV1 := hW1; obtain ⟨hV1_0, hV1_1⟩ := hV1
  refine rS ?_
  refine AWP.seq ?_
  refine AWP.cond rfl (fun hb => ?_) (fun hb => ?_)
  · have hlt1 : i1 < ((impl_inForce a1 a2).length) := ot
    rw [loopR_lt hlt1] at hz1; simp only [impl_current_b1] at hz1
    iterate 3 refine rS ?_
    refine AWP.cond rfl (fun hb => ?_) (fun hb => ?_)
    · simp only [hb, cond_true] at hz1
      refine AWP.seq ?_
      refine AWP.regP mixed G_ok DD hc 5 [0, 1, 2] (.alt 3 [] [0, 1, 2] (.alt 4 [] [2] .leaf .stop) .stop) (by kernel_rfl) (by kernel_rfl) (by kernel_rfl) (fun K hK => ?_); simp only [rootP, runN, runP, recheck, nthO, ea, absV, absVL, cput, gv, sv, dn, reduceCtorEq, reduceIte, Nat.reduceBEq, Nat.reduceAdd, Nat.reduceEqDiff, Nat.reduceLT, Nat.reduceLeDiff, Nat.reduceMul, Nat.reduceSub, BEq.rfl, beq_self_eq_true, Int.reduceToNat]
      repeat' apply And.intro
      all_goals first | refine hK _ ?_ | exact ot
      all_goals clear hK K
      refine AWP.ret ?_
      subst hz1
      dsimp only at hR
      subst hR
      exact es
    · simp only [hb, cond_false] at hz1
      iterate 2 refine rS ?_
      exact ⟨_, [3, 1], hlt1, by (have h9 := eff_all bdAid s1 ((impl_inForce a1 a2).getD i1 default) (by have h1 := hW1.2; omega) hW1.1 (bd_getD (p := bdNotice) (by assumption) (by decide) i1); exact ⟨h9.1, by have h1 := hW1.2; have h2 := h9.2; omega⟩), hz1, sm⟩
  · obtain rfl : i1 = ((impl_inForce a1 a2).length) := ot
    rw [loopR_ge (Nat.le_refl _)] at hz1; subst hz1; dsimp only at hR
    refine AWP.exit ?_; refine exitTo_here ?_
    refine rS ?_
    refine AWP.ret ?_
    subst hR
    exact es
end N118
def D_impl_current : DF
  | [x0, x1, x2] => some (.tup [ownL 63 16 eAidO ((impl_current (rdL dAid x0) (rdL dNotice x1) (rdI x2)).1), .int .i64 ((impl_current (rdL dAid x0) (rdL dNotice x1) (rdI x2)).2.1), .int .i64 ((impl_current (rdL dAid x0) (rdL dNotice x1) (rdI x2)).2.2)], false, [wL 16 eAid dAid x0, wL 20 eNotice dNotice x1, wI .i64 x2, (rdL dAid x0).length < 1099511627776, ∀ v ∈ (rdL dAid x0), bdAid v, (rdL dNotice x1).length < 1099511627776, ∀ v ∈ (rdL dNotice x1), bdNotice v, (rdL dAid x0).length ≤ 1048576, (rdL dNotice x1).length ≤ 1048576])
  | _ => none
def Dz_impl_current : DF
  | [x0, x1, x2] => some (.tup [ownL 63 16 eAidO ((impl_current (rdL dAid x0) (rdL dNotice x1) (rdI x2)).1), .int .i64 ((impl_current (rdL dAid x0) (rdL dNotice x1) (rdI x2)).2.1), .int .i64 ((impl_current (rdL dAid x0) (rdL dNotice x1) (rdI x2)).2.2)], true, [wL 16 eAid dAid x0, wL 20 eNotice dNotice x1, wI .i64 x2, (rdL dAid x0).length < 1099511627776, ∀ v ∈ (rdL dAid x0), bdAid v, (rdL dNotice x1).length < 1099511627776, ∀ v ∈ (rdL dNotice x1), bdNotice v, (rdL dAid x0).length ≤ 1048576, (rdL dNotice x1).length ≤ 1048576])
  | _ => none
theorem D_impl_current_ok : OkD Tryz.prog 118 D_impl_current := by unfold D_impl_current; exact dk N118.den
theorem Dz_impl_current_ok : OkD Tryz.prog 118 Dz_impl_current := by unfold Dz_impl_current; exact dk N118.den
end Go.Ab

namespace Go.Ab
open Go Go.Proofs
def impl_CurrentList (a0 : (List Aid)) (a1 : (List Notice)) (a2 : Int) : ((List Aid) × Int) :=
  (bif ((impl_currentCode a0 a1 a2) != 0) then ([], (impl_currentCode a0 a1 a2)) else ((impl_current a0 a1 a2).1, (impl_current a0 a1 a2).2.2))
namespace N44
theorem DD : DOk Tryz.prog (Go.Ab.DD [(117, dP D_impl_currentCode), (118, dP D_impl_current)]) := DD_cons D_impl_currentCode_ok.e <| DD_cons D_impl_current_ok.e <| DD_nil _
theorem dn : type_of% (And.intro @D_impl_currentCode.eq_1 <| @D_impl_current.eq_1) := by and_intros <;> intros <;> rfl
theorem den (a0 : (List Aid)) (a1 : (List Notice)) (a2 : Int) (hb0 : a0.length < 1099511627776) (hb1 : ∀ v ∈ a0, bdAid v) (hb2 : a1.length < 1099511627776) (hb3 : ∀ v ∈ a1, bdNotice v) (hp0 : a0.length ≤ 1048576) (hp1 : a1.length ≤ 1048576) : Den Tryz.prog 44 [encL 16 eAid a0, encL 20 eNotice a1, .int .i64 a2] (.tup [ownL 63 16 eAidO ((impl_CurrentList a0 a1 a2).1), .int .i64 ((impl_CurrentList a0 a1 a2).2)]) := by
  generalize hR : impl_CurrentList a0 a1 a2 = r
  unfold impl_CurrentList at hR
  refine di Tryz.func44 Tryz.ntmps44 Tryz.results44 ?_
  intro c hL hc hk
  obtain ⟨hL0, hL1, hL2, _⟩ := hL
  have hw0 : a0.length < 9223372036854775808 := Nat.lt_succ_of_le (lens_encL hL0).1
  have hw1 : ∀ v ∈ a0, bwAid v := fun v hv => Aid_lens v ((lens_encL hL0).2 v hv)
  have hw2 : a1.length < 9223372036854775808 := Nat.lt_succ_of_le (lens_encL hL1).1
  have hw3 : ∀ v ∈ a1, bwNotice v := fun v hv => Notice_lens v ((lens_encL hL1).2 v hv)
  clear hL0 hL1 hL2
  simp only [pars, Nat.zero_add]
  iterate 3 refine rS ?_
  refine AWP.cond rfl (fun hb => ?_) (fun hb => ?_)
  · replace hR := ct hR
    refine rS ?_
    refine AWP.ret ?_
    subst hR
    exact es
  · replace hR := cf hR
    iterate 2 refine rS ?_
    refine AWP.ret ?_
    subst hR
    exact es
end N44
def D_impl_CurrentList : DF
  | [x0, x1, x2] => some (.tup [ownL 63 16 eAidO ((impl_CurrentList (rdL dAid x0) (rdL dNotice x1) (rdI x2)).1), .int .i64 ((impl_CurrentList (rdL dAid x0) (rdL dNotice x1) (rdI x2)).2)], false, [wL 16 eAid dAid x0, wL 20 eNotice dNotice x1, wI .i64 x2, (rdL dAid x0).length < 1099511627776, ∀ v ∈ (rdL dAid x0), bdAid v, (rdL dNotice x1).length < 1099511627776, ∀ v ∈ (rdL dNotice x1), bdNotice v, (rdL dAid x0).length ≤ 1048576, (rdL dNotice x1).length ≤ 1048576])
  | _ => none
def Dz_impl_CurrentList : DF
  | [x0, x1, x2] => some (.tup [ownL 63 16 eAidO ((impl_CurrentList (rdL dAid x0) (rdL dNotice x1) (rdI x2)).1), .int .i64 ((impl_CurrentList (rdL dAid x0) (rdL dNotice x1) (rdI x2)).2)], true, [wL 16 eAid dAid x0, wL 20 eNotice dNotice x1, wI .i64 x2, (rdL dAid x0).length < 1099511627776, ∀ v ∈ (rdL dAid x0), bdAid v, (rdL dNotice x1).length < 1099511627776, ∀ v ∈ (rdL dNotice x1), bdNotice v, (rdL dAid x0).length ≤ 1048576, (rdL dNotice x1).length ≤ 1048576])
  | _ => none
theorem D_impl_CurrentList_ok : OkD Tryz.prog 44 D_impl_CurrentList := by unfold D_impl_CurrentList; exact dk N44.den
theorem Dz_impl_CurrentList_ok : OkD Tryz.prog 44 Dz_impl_CurrentList := by unfold Dz_impl_CurrentList; exact dk N44.den
end Go.Ab

namespace Go.Ab
open Go Go.Proofs
def impl_FirstFault (a0 : (List Aid)) (a1 : (List Notice)) (a2 : Int) : (Int × Int) :=
  (bif ((impl_currentCode a0 a1 a2) != 0) then (0, (impl_currentCode a0 a1 a2)) else ((impl_current a0 a1 a2).2.1, 0))
namespace N45
theorem DD : DOk Tryz.prog (Go.Ab.DD [(117, dP D_impl_currentCode), (118, dP D_impl_current)]) := DD_cons D_impl_currentCode_ok.e <| DD_cons D_impl_current_ok.e <| DD_nil _
theorem dn : type_of% (And.intro @D_impl_currentCode.eq_1 <| @D_impl_current.eq_1) := by and_intros <;> intros <;> rfl
theorem den (a0 : (List Aid)) (a1 : (List Notice)) (a2 : Int) (hb0 : a0.length < 1099511627776) (hb1 : ∀ v ∈ a0, bdAid v) (hb2 : a1.length < 1099511627776) (hb3 : ∀ v ∈ a1, bdNotice v) (hp0 : a0.length ≤ 1048576) (hp1 : a1.length ≤ 1048576) : Den Tryz.prog 45 [encL 16 eAid a0, encL 20 eNotice a1, .int .i64 a2] (.tup [.int .i64 ((impl_FirstFault a0 a1 a2).1), .int .i64 ((impl_FirstFault a0 a1 a2).2)]) := by
  generalize hR : impl_FirstFault a0 a1 a2 = r
  unfold impl_FirstFault at hR
  refine di Tryz.func45 Tryz.ntmps45 Tryz.results45 ?_
  intro c hL hc hk
  obtain ⟨hL0, hL1, hL2, _⟩ := hL
  have hw0 : a0.length < 9223372036854775808 := Nat.lt_succ_of_le (lens_encL hL0).1
  have hw1 : ∀ v ∈ a0, bwAid v := fun v hv => Aid_lens v ((lens_encL hL0).2 v hv)
  have hw2 : a1.length < 9223372036854775808 := Nat.lt_succ_of_le (lens_encL hL1).1
  have hw3 : ∀ v ∈ a1, bwNotice v := fun v hv => Notice_lens v ((lens_encL hL1).2 v hv)
  clear hL0 hL1 hL2
  simp only [pars, Nat.zero_add]
  iterate 3 refine rS ?_
  refine AWP.cond rfl (fun hb => ?_) (fun hb => ?_)
  · replace hR := ct hR
    refine rS ?_
    refine AWP.ret ?_
    subst hR
    exact es
  · replace hR := cf hR
    iterate 2 refine rS ?_
    refine AWP.ret ?_
    subst hR
    exact es
end N45
def D_impl_FirstFault : DF
  | [x0, x1, x2] => some (.tup [.int .i64 ((impl_FirstFault (rdL dAid x0) (rdL dNotice x1) (rdI x2)).1), .int .i64 ((impl_FirstFault (rdL dAid x0) (rdL dNotice x1) (rdI x2)).2)], false, [wL 16 eAid dAid x0, wL 20 eNotice dNotice x1, wI .i64 x2, (rdL dAid x0).length < 1099511627776, ∀ v ∈ (rdL dAid x0), bdAid v, (rdL dNotice x1).length < 1099511627776, ∀ v ∈ (rdL dNotice x1), bdNotice v, (rdL dAid x0).length ≤ 1048576, (rdL dNotice x1).length ≤ 1048576])
  | _ => none
theorem D_impl_FirstFault_ok : OkD Tryz.prog 45 D_impl_FirstFault := by unfold D_impl_FirstFault; exact dk N45.den
end Go.Ab

namespace Go.Ab
open Go Go.Proofs
def spec_l21Ask (a0 : (List Aid)) (a1 : (List Notice)) (a2 : Int) : Int :=
  (bif ((!(spec_l12Ok a0)) || (!(spec_l21Ok a1))) then 1 else (bif (!(spec_l03Day a2)) then 2 else 0))
namespace N128
theorem DD : DOk Tryz.prog (Go.Ab.DD [(69, dP D_spec_l21Ok), (70, dP D_spec_l03Day), (77, dP D_spec_l12Ok)]) := DD_cons D_spec_l21Ok_ok.e <| DD_cons D_spec_l03Day_ok.e <| DD_cons D_spec_l12Ok_ok.e <| DD_nil _
theorem dn : type_of% (And.intro @D_spec_l21Ok.eq_1 <| And.intro @D_spec_l03Day.eq_1 <| @D_spec_l12Ok.eq_1) := by and_intros <;> intros <;> rfl
theorem gr {p : Prop} (h : p := by (grind [l21Ok_len, l12Ok_len]); first | done | fail) : p := h
theorem den (a0 : (List Aid)) (a1 : (List Notice)) (a2 : Int) (hb0 : a0.length < 1099511627776) (hb1 : ∀ v ∈ a0, bdAid v) (hb2 : a1.length < 1099511627776) (hb3 : ∀ v ∈ a1, bdNotice v) : Den Tryz.prog 128 [encL 16 eAid a0, encL 20 eNotice a1, .int .i64 a2] (.int .i64 (spec_l21Ask a0 a1 a2)) := by
  generalize hR : spec_l21Ask a0 a1 a2 = r
  unfold spec_l21Ask at hR
  refine di Tryz.func128 Tryz.ntmps128 Tryz.results128 ?_
  intro c hL hc hk
  obtain ⟨hL0, hL1, hL2, _⟩ := hL
  have hw0 : a0.length < 9223372036854775808 := Nat.lt_succ_of_le (lens_encL hL0).1
  have hw1 : ∀ v ∈ a0, bwAid v := fun v hv => Aid_lens v ((lens_encL hL0).2 v hv)
  have hw2 : a1.length < 9223372036854775808 := Nat.lt_succ_of_le (lens_encL hL1).1
  have hw3 : ∀ v ∈ a1, bwNotice v := fun v hv => Notice_lens v ((lens_encL hL1).2 v hv)
  clear hL0 hL1 hL2
  simp only [pars, Nat.zero_add]
  iterate 2 refine rS ?_
  refine AWP.cond rfl (fun hb => ?_) (fun hb => ?_)
  · replace hR := ct hR
    refine rS ?_
    refine AWP.ret ?_
    subst hR
    exact es
  · replace hR := cf hR
    refine rS ?_
    refine AWP.cond rfl (fun hb => ?_) (fun hb => ?_)
    · replace hR := ct hR
      refine rS ?_
      refine AWP.ret ?_
      subst hR
      exact es
    · replace hR := cf hR
      refine rS ?_
      refine AWP.ret ?_
      subst hR
      exact es
end N128
def D_spec_l21Ask : DF
  | [x0, x1, x2] => some (.int .i64 (spec_l21Ask (rdL dAid x0) (rdL dNotice x1) (rdI x2)), false, [wL 16 eAid dAid x0, wL 20 eNotice dNotice x1, wI .i64 x2, (rdL dAid x0).length < 1099511627776, ∀ v ∈ (rdL dAid x0), bdAid v, (rdL dNotice x1).length < 1099511627776, ∀ v ∈ (rdL dNotice x1), bdNotice v])
  | _ => none
theorem D_spec_l21Ask_ok : OkD Tryz.prog 128 D_spec_l21Ask := by unfold D_spec_l21Ask; exact dk N128.den
end Go.Ab

namespace Go.Ab
open Go Go.Proofs
def spec_l21Do (a0 : (List Aid)) (a1 : Notice) : ((List Aid) × Int) :=
  (bif (a1.Kind == 1) then ((spec_l12Put a0 a1.Aid).1, (spec_l12Put a0 a1.Aid).2) else (bif (a1.Kind == 2) then ((spec_l12Replace a0 a1.Aid).1, (spec_l12Replace a0 a1.Aid).2) else ((spec_l12Drop a0 a1.Target).1, (spec_l12Drop a0 a1.Target).2)))
namespace N180
theorem DD : DOk Tryz.prog (Go.Ab.DD [(216, dP D_spec_l12Replace), (217, dP D_spec_l12Drop), (88, dP D_spec_l12Put)]) := DD_cons D_spec_l12Replace_ok.e <| DD_cons D_spec_l12Drop_ok.e <| DD_cons D_spec_l12Put_ok.e <| DD_nil _
theorem dn : type_of% (And.intro @D_spec_l12Replace.eq_1 <| And.intro @D_spec_l12Drop.eq_1 <| @D_spec_l12Put.eq_1) := by and_intros <;> intros <;> rfl
theorem den (a0 : (List Aid)) (a1 : Notice) (hb0 : a0.length < 1099511627776) (hb1 : ∀ v ∈ a0, bdAid v) (hb2 : bdNotice a1) (hp0 : a0.length ≤ 1073741824) : Den Tryz.prog 180 [encL 16 eAid a0, .ep (eNotice a1)] (.tup [ownL 63 16 eAidO ((spec_l21Do a0 a1).1), .int .i64 ((spec_l21Do a0 a1).2)]) := by
  generalize hR : spec_l21Do a0 a1 = r
  unfold spec_l21Do at hR
  refine di Tryz.func180 Tryz.ntmps180 Tryz.results180 ?_
  intro c hL hc hk
  obtain ⟨hL0, hL1, _⟩ := hL
  have hw0 : a0.length < 9223372036854775808 := Nat.lt_succ_of_le (lens_encL hL0).1
  have hw1 : ∀ v ∈ a0, bwAid v := fun v hv => Aid_lens v ((lens_encL hL0).2 v hv)
  have hw2 : bwNotice a1 := Notice_lens a1 hL1
  clear hL0 hL1
  simp only [pars, Nat.zero_add]
  iterate 3 refine rS ?_
  refine AWP.cond rfl (fun hb => ?_) (fun hb => ?_)
  · replace hR := ct hR
    refine rS ?_
    refine AWP.ret ?_
    subst hR
    exact es
  · replace hR := cf hR
    refine rS ?_
    refine AWP.cond rfl (fun hb => ?_) (fun hb => ?_)
    · replace hR := ct hR
      refine rS ?_
      refine AWP.ret ?_
      subst hR
      exact es
    · replace hR := cf hR
      refine rS ?_
      refine AWP.ret ?_
      subst hR
      exact es
end N180
def D_spec_l21Do : DF
  | [x0, x1] => some (.tup [ownL 63 16 eAidO ((spec_l21Do (rdL dAid x0) (rdP dNotice x1)).1), .int .i64 ((spec_l21Do (rdL dAid x0) (rdP dNotice x1)).2)], false, [wL 16 eAid dAid x0, wP eNotice dNotice x1, (rdL dAid x0).length < 1099511627776, ∀ v ∈ (rdL dAid x0), bdAid v, bdNotice (rdP dNotice x1), (rdL dAid x0).length ≤ 1073741824])
  | _ => none
def Dz_spec_l21Do : DF
  | [x0, x1] => some (.tup [ownL 63 16 eAidO ((spec_l21Do (rdL dAid x0) (rdP dNotice x1)).1), .int .i64 ((spec_l21Do (rdL dAid x0) (rdP dNotice x1)).2)], true, [wL 16 eAid dAid x0, wP eNotice dNotice x1, (rdL dAid x0).length < 1099511627776, ∀ v ∈ (rdL dAid x0), bdAid v, bdNotice (rdP dNotice x1), (rdL dAid x0).length ≤ 1073741824])
  | _ => none
theorem D_spec_l21Do_ok : OkD Tryz.prog 180 D_spec_l21Do := by unfold D_spec_l21Do; exact dk N180.den
theorem Dz_spec_l21Do_ok : OkD Tryz.prog 180 Dz_spec_l21Do := by unfold Dz_spec_l21Do; exact dk N180.den
end Go.Ab

namespace Go.Ab
open Go Go.Proofs
theorem do_all (P : Aid → Prop) (l : List Aid) (n : Notice) (hl : l.length < 9223372036854775807) (hv : ∀ v ∈ l, P v) (ha : P n.Aid) : (∀ v ∈ (spec_l21Do l n).1, P v) ∧ (spec_l21Do l n).1.length ≤ l.length + 1 := by
  unfold spec_l21Do
  cases (n.Kind == 1) with
  | true => exact put_all P l _ hl hv ha
  | false =>
    cases (n.Kind == 2) with
    | true => have := repl_all P l n.Aid hv ha; exact ⟨this.1, Nat.le_succ_of_le this.2⟩
    | false => have := drop_all P l n.Target hl hv; exact ⟨this.1, Nat.le_succ_of_le this.2⟩
end Go.Ab

namespace Go.Ab
open Go Go.Proofs
def spec_l21Current_b1 (a0 : (List Aid)) (a1 : (List Notice)) (a2 : Int) (i1 : Nat) (s1 : List Aid) : Except (((List Aid) × Int × Int)) (List Aid) :=
  (bif (!(spec_l21Force a1 (i1 : Int) a2)) then .ok s1 else (bif (((spec_l21Do s1 (a1.getD i1 default)).2) != 0) then .error ([], (a1.getD i1 default).Number, (spec_l21Do s1 (a1.getD i1 default)).2) else .ok ((spec_l21Do s1 (a1.getD i1 default)).1)))
def spec_l21Current (a0 : (List Aid)) (a1 : (List Notice)) (a2 : Int) : ((List Aid) × Int × Int) :=
  (match loopR (spec_l21Current_b1 a0 a1 a2) (a1.length - 0) 0 (spec_l12OwnAll a0) with | .error e => e | .ok s1 => (s1, 0, 0))
namespace N129
theorem DD : DOk Tryz.prog (Go.Ab.DD [(155, dP D_spec_l12OwnAll), (180, dP D_spec_l21Do), (71, dP D_spec_l21Force)]) := DD_cons D_spec_l12OwnAll_ok.e <| DD_cons D_spec_l21Do_ok.e <| DD_cons D_spec_l21Force_ok.e <| DD_nil _
theorem dn : type_of% (And.intro @D_spec_l12OwnAll.eq_1 <| And.intro @D_spec_l21Do.eq_1 <| @D_spec_l21Force.eq_1) := by and_intros <;> intros <;> rfl
theorem ol : type_of% (@ownAids_id) := @ownAids_id
theorem den (a0 : (List Aid)) (a1 : (List Notice)) (a2 : Int) (hb0 : a0.length < 1099511627776) (hb1 : ∀ v ∈ a0, bdAid v) (hb2 : a1.length < 1099511627776) (hb3 : ∀ v ∈ a1, bdNotice v) (hp0 : a0.length ≤ 1048576) (hp1 : a1.length ≤ 1048576) : Den Tryz.prog 129 [encL 16 eAid a0, encL 20 eNotice a1, .int .i64 a2] (.tup [ownL 63 16 eAidO ((spec_l21Current a0 a1 a2).1), .int .i64 ((spec_l21Current a0 a1 a2).2.1), .int .i64 ((spec_l21Current a0 a1 a2).2.2)]) := by
  generalize hR : spec_l21Current a0 a1 a2 = r
  unfold spec_l21Current at hR
  refine di Tryz.func129 Tryz.ntmps129 Tryz.results129 ?_
  intro c hL hc hk
  obtain ⟨hL0, hL1, hL2, _⟩ := hL
  have hw0 : a0.length < 9223372036854775808 := Nat.lt_succ_of_le (lens_encL hL0).1
  have hw1 : ∀ v ∈ a0, bwAid v := fun v hv => Aid_lens v ((lens_encL hL0).2 v hv)
  have hw2 : a1.length < 9223372036854775808 := Nat.lt_succ_of_le (lens_encL hL1).1
  have hw3 : ∀ v ∈ a1, bwNotice v := fun v hv => Notice_lens v ((lens_encL hL1).2 v hv)
  clear hL0 hL1 hL2
  simp only [pars, Nat.zero_add]
  iterate 3 refine rS ?_
  refine AWP.block ?_
  generalize hz1 : loopR (spec_l21Current_b1 a0 a1 a2) (a1.length - 0) 0 (spec_l12OwnAll a0) = z1 at hR
  refine AWP.range (spec_l21Current_b1 a0 a1 a2) (fun i1 s1 => ⟨[(1, encL 20 eNotice a1), (2, .int .i64 a2), (9, .ref 0 16 0 s1.length), (10, .int .i64 (i1 : Int))], [.arr 63 16 s1.length (fun j => eAidO (s1.getD j default))]⟩) (fun i1 s1 => (∀ v ∈ s1, bdAid v) ∧ s1.length ≤ a0.length + i1) (a1.length) 0 (spec_l12OwnAll a0) [0] hz1 ot (by (simp only [copyAids_id, ownAids_id]; exact ⟨by assumption, by omega⟩)) sm ?_
  clear hz1
  intro i1 s1 hi1 hW1 hz1
  have hV1 := hW1; obtain ⟨hV1_0, hV1_1⟩ := hV1
  refine rS ?_
  refine AWP.cond rfl (fun hb => ?_) (fun hb => ?_)
  · have hlt1 : i1 < a1.length := ot
    rw [loopR_lt hlt1] at hz1; simp only [spec_l21Current_b1] at hz1
    refine rS ?_
    refine AWP.cond rfl (fun hb => ?_) (fun hb => ?_)
    · simp only [hb, cond_true] at hz1
      refine AWP.exit ?_
      refine exitTo_here ?_
      refine rS ?_
      exact ⟨_, [0], hlt1, by (first | exact ⟨hW1.1, by have h1 := hW1.2; omega⟩ | (have h9 := do_all bdAid s1 (a1.getD i1 default) (by have h1 := hW1.2; omega) hW1.1 (bd_getD (p := bdNotice) (by assumption) (by decide) i1); exact ⟨h9.1, by have h1 := hW1.2; have h2 := h9.2; omega⟩)), hz1, sm⟩
    · simp only [hb, cond_false] at hz1
      iterate 2 refine rS ?_
      refine AWP.cond rfl (fun hb => ?_) (fun hb => ?_)
      · simp only [hb, cond_true] at hz1
        refine AWP.seq ?_
        refine AWP.regP mixed G_ok DD hc 8 [0, 1, 2, 3, 4, 5] (.alt 6 [] [0, 1, 2, 3, 4, 5] (.alt 7 [] [5] .leaf .stop) .stop) (by kernel_rfl) (by kernel_rfl) (by kernel_rfl) (fun K hK => ?_); simp only [rootP, runN, runP, recheck, nthO, ea, absV, absVL, cput, gv, sv, dn, reduceCtorEq, reduceIte, Nat.reduceBEq, Nat.reduceAdd, Nat.reduceEqDiff, Nat.reduceLT, Nat.reduceLeDiff, Nat.reduceMul, Nat.reduceSub, BEq.rfl, beq_self_eq_true, Int.reduceToNat]
        repeat' apply And.intro
        all_goals first | refine hK _ ?_ | exact ot
        all_goals clear hK K
        refine AWP.ret ?_
        subst hz1
        dsimp only at hR
        subst hR
        exact es
      · simp only [hb, cond_false] at hz1
        iterate 2 refine rS ?_
        exact ⟨_, [1], hlt1, by (first | exact ⟨hW1.1, by have h1 := hW1.2; omega⟩ | (have h9 := do_all bdAid s1 (a1.getD i1 default) (by have h1 := hW1.2; omega) hW1.1 (bd_getD (p := bdNotice) (by assumption) (by decide) i1); exact ⟨h9.1, by have h1 := hW1.2; have h2 := h9.2; omega⟩)), hz1, sm⟩
  · obtain rfl : i1 = a1.length := ot
    rw [loopR_ge (Nat.le_refl _)] at hz1; subst hz1; dsimp only at hR
    refine AWP.exit ?_; refine exitTo_here ?_
    refine rS ?_
    refine AWP.ret ?_
    subst hR
    exact es
end N129
def D_spec_l21Current : DF
  | [x0, x1, x2] => some (.tup [ownL 63 16 eAidO ((spec_l21Current (rdL dAid x0) (rdL dNotice x1) (rdI x2)).1), .int .i64 ((spec_l21Current (rdL dAid x0) (rdL dNotice x1) (rdI x2)).2.1), .int .i64 ((spec_l21Current (rdL dAid x0) (rdL dNotice x1) (rdI x2)).2.2)], false, [wL 16 eAid dAid x0, wL 20 eNotice dNotice x1, wI .i64 x2, (rdL dAid x0).length < 1099511627776, ∀ v ∈ (rdL dAid x0), bdAid v, (rdL dNotice x1).length < 1099511627776, ∀ v ∈ (rdL dNotice x1), bdNotice v, (rdL dAid x0).length ≤ 1048576, (rdL dNotice x1).length ≤ 1048576])
  | _ => none
def Dz_spec_l21Current : DF
  | [x0, x1, x2] => some (.tup [ownL 63 16 eAidO ((spec_l21Current (rdL dAid x0) (rdL dNotice x1) (rdI x2)).1), .int .i64 ((spec_l21Current (rdL dAid x0) (rdL dNotice x1) (rdI x2)).2.1), .int .i64 ((spec_l21Current (rdL dAid x0) (rdL dNotice x1) (rdI x2)).2.2)], true, [wL 16 eAid dAid x0, wL 20 eNotice dNotice x1, wI .i64 x2, (rdL dAid x0).length < 1099511627776, ∀ v ∈ (rdL dAid x0), bdAid v, (rdL dNotice x1).length < 1099511627776, ∀ v ∈ (rdL dNotice x1), bdNotice v, (rdL dAid x0).length ≤ 1048576, (rdL dNotice x1).length ≤ 1048576])
  | _ => none
theorem D_spec_l21Current_ok : OkD Tryz.prog 129 D_spec_l21Current := by unfold D_spec_l21Current; exact dk N129.den
theorem Dz_spec_l21Current_ok : OkD Tryz.prog 129 Dz_spec_l21Current := by unfold Dz_spec_l21Current; exact dk N129.den
end Go.Ab

namespace Go.Ab
open Go Go.Proofs
def spec_CurrentList (a0 : (List Aid)) (a1 : (List Notice)) (a2 : Int) : ((List Aid) × Int) :=
  (bif ((spec_l21Ask a0 a1 a2) != 0) then ([], (spec_l21Ask a0 a1 a2)) else ((spec_l21Current a0 a1 a2).1, (spec_l21Current a0 a1 a2).2.2))
namespace N62
theorem DD : DOk Tryz.prog (Go.Ab.DD [(128, dP D_spec_l21Ask), (129, dP D_spec_l21Current)]) := DD_cons D_spec_l21Ask_ok.e <| DD_cons D_spec_l21Current_ok.e <| DD_nil _
theorem dn : type_of% (And.intro @D_spec_l21Ask.eq_1 <| @D_spec_l21Current.eq_1) := by and_intros <;> intros <;> rfl
theorem den (a0 : (List Aid)) (a1 : (List Notice)) (a2 : Int) (hb0 : a0.length < 1099511627776) (hb1 : ∀ v ∈ a0, bdAid v) (hb2 : a1.length < 1099511627776) (hb3 : ∀ v ∈ a1, bdNotice v) (hp0 : a0.length ≤ 1048576) (hp1 : a1.length ≤ 1048576) : Den Tryz.prog 62 [encL 16 eAid a0, encL 20 eNotice a1, .int .i64 a2] (.tup [ownL 63 16 eAidO ((spec_CurrentList a0 a1 a2).1), .int .i64 ((spec_CurrentList a0 a1 a2).2)]) := by
  generalize hR : spec_CurrentList a0 a1 a2 = r
  unfold spec_CurrentList at hR
  refine di Tryz.func62 Tryz.ntmps62 Tryz.results62 ?_
  intro c hL hc hk
  obtain ⟨hL0, hL1, hL2, _⟩ := hL
  have hw0 : a0.length < 9223372036854775808 := Nat.lt_succ_of_le (lens_encL hL0).1
  have hw1 : ∀ v ∈ a0, bwAid v := fun v hv => Aid_lens v ((lens_encL hL0).2 v hv)
  have hw2 : a1.length < 9223372036854775808 := Nat.lt_succ_of_le (lens_encL hL1).1
  have hw3 : ∀ v ∈ a1, bwNotice v := fun v hv => Notice_lens v ((lens_encL hL1).2 v hv)
  clear hL0 hL1 hL2
  simp only [pars, Nat.zero_add]
  iterate 3 refine rS ?_
  refine AWP.cond rfl (fun hb => ?_) (fun hb => ?_)
  · replace hR := ct hR
    refine rS ?_
    refine AWP.ret ?_
    subst hR
    exact es
  · replace hR := cf hR
    iterate 2 refine rS ?_
    refine AWP.ret ?_
    subst hR
    exact es
end N62
def D_spec_CurrentList : DF
  | [x0, x1, x2] => some (.tup [ownL 63 16 eAidO ((spec_CurrentList (rdL dAid x0) (rdL dNotice x1) (rdI x2)).1), .int .i64 ((spec_CurrentList (rdL dAid x0) (rdL dNotice x1) (rdI x2)).2)], false, [wL 16 eAid dAid x0, wL 20 eNotice dNotice x1, wI .i64 x2, (rdL dAid x0).length < 1099511627776, ∀ v ∈ (rdL dAid x0), bdAid v, (rdL dNotice x1).length < 1099511627776, ∀ v ∈ (rdL dNotice x1), bdNotice v, (rdL dAid x0).length ≤ 1048576, (rdL dNotice x1).length ≤ 1048576])
  | _ => none
def Dz_spec_CurrentList : DF
  | [x0, x1, x2] => some (.tup [ownL 63 16 eAidO ((spec_CurrentList (rdL dAid x0) (rdL dNotice x1) (rdI x2)).1), .int .i64 ((spec_CurrentList (rdL dAid x0) (rdL dNotice x1) (rdI x2)).2)], true, [wL 16 eAid dAid x0, wL 20 eNotice dNotice x1, wI .i64 x2, (rdL dAid x0).length < 1099511627776, ∀ v ∈ (rdL dAid x0), bdAid v, (rdL dNotice x1).length < 1099511627776, ∀ v ∈ (rdL dNotice x1), bdNotice v, (rdL dAid x0).length ≤ 1048576, (rdL dNotice x1).length ≤ 1048576])
  | _ => none
theorem D_spec_CurrentList_ok : OkD Tryz.prog 62 D_spec_CurrentList := by unfold D_spec_CurrentList; exact dk N62.den
theorem Dz_spec_CurrentList_ok : OkD Tryz.prog 62 Dz_spec_CurrentList := by unfold Dz_spec_CurrentList; exact dk N62.den
end Go.Ab

namespace Go.Ab
open Go Go.Proofs
def spec_FirstFault (a0 : (List Aid)) (a1 : (List Notice)) (a2 : Int) : (Int × Int) :=
  (bif ((spec_l21Ask a0 a1 a2) != 0) then (0, (spec_l21Ask a0 a1 a2)) else ((spec_l21Current a0 a1 a2).2.1, 0))
namespace N57
theorem DD : DOk Tryz.prog (Go.Ab.DD [(128, dP D_spec_l21Ask), (129, dP D_spec_l21Current)]) := DD_cons D_spec_l21Ask_ok.e <| DD_cons D_spec_l21Current_ok.e <| DD_nil _
theorem dn : type_of% (And.intro @D_spec_l21Ask.eq_1 <| @D_spec_l21Current.eq_1) := by and_intros <;> intros <;> rfl
theorem den (a0 : (List Aid)) (a1 : (List Notice)) (a2 : Int) (hb0 : a0.length < 1099511627776) (hb1 : ∀ v ∈ a0, bdAid v) (hb2 : a1.length < 1099511627776) (hb3 : ∀ v ∈ a1, bdNotice v) (hp0 : a0.length ≤ 1048576) (hp1 : a1.length ≤ 1048576) : Den Tryz.prog 57 [encL 16 eAid a0, encL 20 eNotice a1, .int .i64 a2] (.tup [.int .i64 ((spec_FirstFault a0 a1 a2).1), .int .i64 ((spec_FirstFault a0 a1 a2).2)]) := by
  generalize hR : spec_FirstFault a0 a1 a2 = r
  unfold spec_FirstFault at hR
  refine di Tryz.func57 Tryz.ntmps57 Tryz.results57 ?_
  intro c hL hc hk
  obtain ⟨hL0, hL1, hL2, _⟩ := hL
  have hw0 : a0.length < 9223372036854775808 := Nat.lt_succ_of_le (lens_encL hL0).1
  have hw1 : ∀ v ∈ a0, bwAid v := fun v hv => Aid_lens v ((lens_encL hL0).2 v hv)
  have hw2 : a1.length < 9223372036854775808 := Nat.lt_succ_of_le (lens_encL hL1).1
  have hw3 : ∀ v ∈ a1, bwNotice v := fun v hv => Notice_lens v ((lens_encL hL1).2 v hv)
  clear hL0 hL1 hL2
  simp only [pars, Nat.zero_add]
  iterate 3 refine rS ?_
  refine AWP.cond rfl (fun hb => ?_) (fun hb => ?_)
  · replace hR := ct hR
    refine rS ?_
    refine AWP.ret ?_
    subst hR
    exact es
  · replace hR := cf hR
    iterate 2 refine rS ?_
    refine AWP.ret ?_
    subst hR
    exact es
end N57
def D_spec_FirstFault : DF
  | [x0, x1, x2] => some (.tup [.int .i64 ((spec_FirstFault (rdL dAid x0) (rdL dNotice x1) (rdI x2)).1), .int .i64 ((spec_FirstFault (rdL dAid x0) (rdL dNotice x1) (rdI x2)).2)], false, [wL 16 eAid dAid x0, wL 20 eNotice dNotice x1, wI .i64 x2, (rdL dAid x0).length < 1099511627776, ∀ v ∈ (rdL dAid x0), bdAid v, (rdL dNotice x1).length < 1099511627776, ∀ v ∈ (rdL dNotice x1), bdNotice v, (rdL dAid x0).length ≤ 1048576, (rdL dNotice x1).length ≤ 1048576])
  | _ => none
theorem D_spec_FirstFault_ok : OkD Tryz.prog 57 D_spec_FirstFault := by unfold D_spec_FirstFault; exact dk N57.den
end Go.Ab

namespace Go.Ab
open Go Go.Proofs
theorem one_aid {n : Notice} (h : spec_l21One n = true) (hk : (n.Kind == 1) = true ∨ (n.Kind == 2) = true) : spec_l12One n.Aid = true := by
  unfold spec_l21One at h
  cases h1 : ((!(spec_l00In n.Number 1 9999)) || (!(spec_l03Day n.Day))) with
  | true => rw [h1] at h; cases h
  | false =>
    rw [h1, cond_false] at h
    cases h2 : (n.Kind == 1) with
    | true => rw [h2, cond_true, Bool.and_eq_true] at h; exact h.1
    | false =>
      rw [h2, cond_false] at h
      cases h3 : (n.Kind == 2) with
      | true => rw [h3, cond_true, Bool.and_eq_true] at h; exact h.1
      | false => rw [h2, h3] at hk; simp at hk
theorem effect_eq (P : Aid → Prop) (hP : ∀ v, P v → aidL v) (n : Notice) (s : List Aid) (hs : okP P s) (hn : spec_l21One n = true) (ha : P n.Aid) :
    impl_Notice_effect n s = spec_l21Do s n ∧ ((spec_l21Do s n).2 = 0 → okP P (spec_l21Do s n).1) := by
  unfold impl_Notice_effect spec_l21Do
  have hv : ∀ v ∈ s, aidL v := fun v h => hP v (hs.2 v h)
  cases h1 : (n.Kind == 1) with
  | true =>
    simp only [cond_true]
    have ho := one_aid hn (.inl h1)
    rw [addAid_put s n.Aid hs.1 hv (hP _ ha) ho]
    exact ⟨rfl, fun h => put_okP P hs ⟨ho, ha⟩ (Prod.ext rfl h)⟩
  | false =>
    simp only [cond_false]
    cases h2 : (n.Kind == 2) with
    | true =>
      simp only [cond_true]
      have ho := one_aid hn (.inr h2)
      rw [replAid_eq s n.Aid hs.1 hv (hP _ ha) ho]
      exact ⟨rfl, fun h => repl_okP P hs ⟨ho, ha⟩ (Prod.ext rfl h)⟩
    | false =>
      simp only [cond_false]
      rw [dropAid_eq s n.Target hs.1 hv]
      exact ⟨rfl, fun h => drop_okP P hs (Prod.ext rfl h)⟩
theorem current_eq (P : Aid → Prop) (hP : ∀ v, P v → aidL v) (e : List Aid) (l : List Notice) (d : Int) (he : okP P e) (hl : ∀ n ∈ l, spec_l21One n = true) (ha : ∀ n ∈ l, P n.Aid) :
    impl_current e l d = spec_l21Current e l d ∧ ((spec_l21Current e l d).2.2 = 0 → okP P (spec_l21Current e l d).1) ∧ ((spec_l21Current e l d).2.2 ≠ 0 → (spec_l21Current e l d).1 = []) := by
  unfold impl_current spec_l21Current
  rw [copyAids_id, ownAids_id]
  rw [loopR_foldE (impl_inForce l d) (impl_current_b1 e l d) (fun n s => bif (((impl_Notice_effect n s).2) != 0) then .error ([], n.Number, (impl_Notice_effect n s).2) else .ok ((impl_Notice_effect n s).1)) e (fun i s _ => rfl)]
  rw [inForce_eq, foldE_filter]
  rw [loopR_foldE l (spec_l21Current_b1 e l d) (fun n s => bif inF l d n then (bif (((spec_l21Do s n).2) != 0) then .error ([], n.Number, (spec_l21Do s n).2) else .ok ((spec_l21Do s n).1)) else .ok s) e (fun i s _ => by
    simp only [spec_l21Current_b1, force_eq]
    cases inF l d (l.getD i default) <;> rfl)]
  obtain ⟨h1, h2⟩ := foldE_same (ρ := List Aid × Int × Int) (okP P) (fun n s => bif inF l d n then (bif (((impl_Notice_effect n s).2) != 0) then .error ([], n.Number, (impl_Notice_effect n s).2) else .ok ((impl_Notice_effect n s).1)) else .ok s)
    (fun n s => bif inF l d n then (bif (((spec_l21Do s n).2) != 0) then .error ([], n.Number, (spec_l21Do s n).2) else .ok ((spec_l21Do s n).1)) else .ok s) l e he (fun n hn s hs => by
      obtain ⟨g1, g2⟩ := effect_eq P hP n s hs (hl n hn) (ha n hn)
      rw [g1]
      refine ⟨rfl, fun t ht => ?_⟩
      cases hf : inF l d n with
      | false =>
        simp only [hf, cond_false, Except.ok.injEq] at ht
        subst ht; exact hs
      | true =>
        simp only [hf, cond_true] at ht
        cases hz : ((spec_l21Do s n).2 != 0) with
        | true => rw [hz] at ht; cases ht
        | false =>
          rw [hz] at ht
          simp only [cond_false, Except.ok.injEq] at ht
          subst ht
          exact g2 (by simpa using hz))
  rw [h1]
  have herr : ∀ (r : List Notice) (s : List Aid) (x : List Aid × Int × Int), foldE (ρ := List Aid × Int × Int) (fun n s => bif inF l d n then (bif (((spec_l21Do s n).2) != 0) then .error ([], n.Number, (spec_l21Do s n).2) else .ok ((spec_l21Do s n).1)) else .ok s) r s = .error x → x.1 = [] ∧ x.2.2 ≠ 0 := by
    intro r
    induction r with
    | nil => intro s x h; simp [foldE] at h
    | cons n r ih =>
      intro s x h
      simp only [foldE] at h
      cases hf : inF l d n with
      | false => simp only [hf, cond_false] at h; exact ih _ _ h
      | true =>
        simp only [hf, cond_true] at h
        cases hz : ((spec_l21Do s n).2 != 0) with
        | true =>
          simp only [hz, cond_true, Except.error.injEq] at h
          subst h
          exact ⟨rfl, by simpa using hz⟩
        | false => simp only [hz, cond_false] at h; exact ih _ _ h
  cases hc : foldE (ρ := List Aid × Int × Int) (fun n s => bif inF l d n then (bif (((spec_l21Do s n).2) != 0) then .error ([], n.Number, (spec_l21Do s n).2) else .ok ((spec_l21Do s n).1)) else .ok s) l e with
  | error x =>
    obtain ⟨g1, g2⟩ := herr l e x hc
    exact ⟨rfl, fun h => absurd h g2, fun _ => g1⟩
  | ok t => exact ⟨rfl, fun _ => h2 t hc, fun h => absurd rfl h⟩
theorem ask_eq (e : List Aid) (l : List Notice) (d : Int) (he : ∀ v ∈ e, aidL v) (hl : ∀ n ∈ l, aidL n.Aid) : impl_currentCode e l d = spec_l21Ask e l d := by
  unfold impl_currentCode spec_l21Ask
  rw [validAids_eq e he, valNotices_eq l hl]
  rfl
theorem ask_ok {e : List Aid} {l : List Notice} {d : Int} (h : (spec_l21Ask e l d != 0) = false) : okA e ∧ (∀ n ∈ l, spec_l21One n = true) ∧ l.length ≤ 32 := by
  unfold spec_l21Ask at h
  cases h1 : spec_l12Ok e with
  | false => rw [h1] at h; simp at h
  | true =>
    cases h2 : spec_l21Ok l with
    | false => rw [h1, h2] at h; simp at h
    | true => exact ⟨(okA_iff e).1 h1, l21_all h2⟩
theorem curList_eq (P : Aid → Prop) (hP : ∀ v, P v → aidL v) (e : List Aid) (l : List Notice) (d : Int) (he : ∀ v ∈ e, P v) (hl : ∀ n ∈ l, P n.Aid) :
    impl_CurrentList e l d = spec_CurrentList e l d ∧ (∀ v ∈ (spec_CurrentList e l d).1, P v) ∧ (spec_CurrentList e l d).1.length ≤ 24 := by
  unfold impl_CurrentList spec_CurrentList
  rw [ask_eq e l d (fun v h => hP v (he v h)) (fun n h => hP _ (hl n h))]
  cases hk : (spec_l21Ask e l d != 0) with
  | true => exact ⟨rfl, fun v hv => by simp at hv, by simp⟩
  | false =>
    simp only [cond_false]
    obtain ⟨h1, h2, h3⟩ := ask_ok hk
    obtain ⟨g1, g2, g3⟩ := current_eq P hP e l d ⟨h1, he⟩ h2 hl
    rw [g1]
    refine ⟨rfl, ?_⟩
    by_cases hz : (spec_l21Current e l d).2.2 = 0
    · have := g2 hz
      exact ⟨this.2, this.1.2.2⟩
    · rw [g3 hz]; exact ⟨fun v hv => by simp at hv, by simp⟩
theorem fault_eq (P : Aid → Prop) (hP : ∀ v, P v → aidL v) (e : List Aid) (l : List Notice) (d : Int) (he : ∀ v ∈ e, P v) (hl : ∀ n ∈ l, P n.Aid) :
    impl_FirstFault e l d = spec_FirstFault e l d := by
  unfold impl_FirstFault spec_FirstFault
  rw [ask_eq e l d (fun v h => hP v (he v h)) (fun n h => hP _ (hl n h))]
  cases hk : (spec_l21Ask e l d != 0) with
  | true => rfl
  | false =>
    obtain ⟨h1, h2, h3⟩ := ask_ok hk
    rw [(current_eq P hP e l d ⟨h1, he⟩ h2 hl).1]
end Go.Ab

namespace Go.Ab
open Go Go.Proofs
def laws_toPoint (a0 : Point) : Point :=
  a0
namespace N89
theorem DD : DOk Tryz.prog (Go.Ab.DD []) := DD_nil _
theorem den (a0 : Point)  : Den Tryz.prog 89 [.agg (ePoint a0)] (.agg (ePoint (laws_toPoint a0))) := by
  generalize hR : laws_toPoint a0 = r
  unfold laws_toPoint at hR
  refine di Tryz.func89 Tryz.ntmps89 Tryz.results89 ?_
  intro c hL hc hk
  clear hL
  simp only [pars, Nat.zero_add]
  iterate 5 refine rS ?_
  refine AWP.ret ?_
  subst hR
  exact es
end N89
def D_laws_toPoint : DF
  | [x0] => some (.agg (ePoint (laws_toPoint (rdG dPoint x0))), false, [wG ePoint dPoint x0])
  | _ => none
theorem D_laws_toPoint_ok : OkD Tryz.prog 89 D_laws_toPoint := by unfold D_laws_toPoint; exact dk N89.den
end Go.Ab

namespace Go.Ab
open Go Go.Proofs
def laws_toMark (a0 : Mark) : Mark :=
  a0
namespace N90
theorem DD : DOk Tryz.prog (Go.Ab.DD []) := DD_nil _
theorem den (a0 : Mark)  : Den Tryz.prog 90 [.agg (eMark a0)] (.agg (eMark (laws_toMark a0))) := by
  generalize hR : laws_toMark a0 = r
  unfold laws_toMark at hR
  refine di Tryz.func90 Tryz.ntmps90 Tryz.results90 ?_
  intro c hL hc hk
  obtain ⟨hL0, _⟩ := hL
  have hw0 : bwMark a0 := Mark_lens a0 hL0
  clear hL0
  simp only [pars, Nat.zero_add]
  iterate 7 refine rS ?_
  refine AWP.ret ?_
  subst hR
  exact es
end N90
def D_laws_toMark : DF
  | [x0] => some (.agg (eMark (laws_toMark (rdG dMark x0))), false, [wG eMark dMark x0])
  | _ => none
theorem D_laws_toMark_ok : OkD Tryz.prog 90 D_laws_toMark := by unfold D_laws_toMark; exact dk N90.den
end Go.Ab

namespace Go.Ab
open Go Go.Proofs
def laws_toInt64S_b1 (a0 : (List Int)) (i1 : Nat) (s1 : List Int) : Except ((List Int)) (List Int) :=
  .ok (s1.set i1 (a0.getD i1 default))
def laws_toInt64S (a0 : (List Int)) : (List Int) :=
  (match loopR (laws_toInt64S_b1 a0) (a0.length - 0) 0 (List.replicate a0.length (default : Int)) with | .error e => e | .ok s1 => s1)
namespace N156
theorem DD : DOk Tryz.prog (Go.Ab.DD []) := DD_nil _
theorem den (a0 : (List Int)) (hb0 : a0.length < 1099511627776) : Den Tryz.prog 156 [encL 1 eIi64 a0] (ownL 2 1 eIi64 (laws_toInt64S a0)) := by
  generalize hR : laws_toInt64S a0 = r
  unfold laws_toInt64S at hR
  refine di Tryz.func156 Tryz.ntmps156 Tryz.results156 ?_
  intro c hL hc hk
  obtain ⟨hL0, _⟩ := hL
  have hw0 : a0.length < 9223372036854775808 := Nat.lt_succ_of_le (lens_encL hL0).1
  clear hL0
  simp only [pars, Nat.zero_add]
  iterate 3 refine rS ?_
  refine AWP.block ?_
  generalize hz1 : loopR (laws_toInt64S_b1 a0) (a0.length - 0) 0 (List.replicate a0.length (default : Int)) = z1 at hR
  refine AWP.range (laws_toInt64S_b1 a0) (fun i1 s1 => ⟨[(0, encL 1 eIi64 a0), (3, .ref 0 1 0 s1.length), (4, .int .i64 (i1 : Int))], [.arr 2 1 s1.length (fun j => eIi64 (s1.getD j default))]⟩) (fun i1 s1 => s1.length = (List.replicate a0.length (default : Int)).length) (a0.length) 0 (List.replicate a0.length (default : Int)) [0] hz1 ot wt sm ?_
  clear hz1
  intro i1 s1 hi1 hW1 hz1
  refine rS ?_
  refine AWP.cond rfl (fun hb => ?_) (fun hb => ?_)
  · have hlt1 : i1 < a0.length := ot
    rw [loopR_lt hlt1] at hz1; simp only [laws_toInt64S_b1] at hz1
    iterate 2 refine rS ?_
    exact ⟨_, [0], hlt1, wt, hz1, sm⟩
  · obtain rfl : i1 = a0.length := ot
    rw [loopR_ge (Nat.le_refl _)] at hz1; subst hz1; dsimp only at hR
    refine AWP.exit ?_; refine exitTo_here ?_
    refine rS ?_
    refine AWP.ret ?_
    subst hR
    exact es
end N156
def D_laws_toInt64S : DF
  | [x0] => some (ownL 2 1 eIi64 (laws_toInt64S (rdL dIi64 x0)), false, [wL 1 eIi64 dIi64 x0, (rdL dIi64 x0).length < 1099511627776])
  | _ => none
def Dz_laws_toInt64S : DF
  | [x0] => some (ownL 2 1 eIi64 (laws_toInt64S (rdL dIi64 x0)), true, [wL 1 eIi64 dIi64 x0, (rdL dIi64 x0).length < 1099511627776])
  | _ => none
theorem D_laws_toInt64S_ok : OkD Tryz.prog 156 D_laws_toInt64S := by unfold D_laws_toInt64S; exact dk N156.den
theorem Dz_laws_toInt64S_ok : OkD Tryz.prog 156 Dz_laws_toInt64S := by unfold Dz_laws_toInt64S; exact dk N156.den
end Go.Ab

namespace Go.Ab
open Go Go.Proofs
theorem laws_toInt64S_id (a : List Int) : laws_toInt64S a = a := by
  unfold laws_toInt64S
  rw [loopR_fill (b := laws_toInt64S_b1 a) (fun i => a.getD i default) (by simp) (fun i s _ => rfl)]
  skip
  exact range_getD a
end Go.Ab
