/- A part of a proof: walks of functions and lemmas of our own. No conditions. -/
import Derived.Test.YtpakbdamggpneaaGreatDoorTAl
import Derived.Test.YtpakbdamggpneaaGreatDoorTAo
import Derived.Test.YtpakbdamggpneaaGreatDoorTAp
import Derived.Test.YtpakbdamggpneaaGreatDoorTAm
set_option linter.unusedSectionVars false
set_option linter.unusedVariables false
set_option linter.unusedSimpArgs false
set_option maxHeartbeats 1000000
namespace Go.Ab
open Go Go.Proofs
def impl_Character_times_b1 (a0 : Character) (i1 : Nat) (s1 : List Int) : Except ((List Int)) (List Int) :=
  (bif decide (0 < (i1 : Int)) then (bif ((((impl_signsOf a0.Letter).getD i1 0).toNat : Int) == 45) then .ok ((s1 ++ ([(impl_rhythm a0.Kind).2.1] : List Int)) ++ ([IntKind.wrap .i64 (3 * ((impl_rhythm a0.Kind).1))] : List Int)) else .ok ((s1 ++ ([(impl_rhythm a0.Kind).2.1] : List Int)) ++ ([(impl_rhythm a0.Kind).1] : List Int))) else (bif ((((impl_signsOf a0.Letter).getD i1 0).toNat : Int) == 45) then .ok (s1 ++ ([IntKind.wrap .i64 (3 * ((impl_rhythm a0.Kind).1))] : List Int)) else .ok (s1 ++ ([(impl_rhythm a0.Kind).1] : List Int))))
def impl_Character_times_b3 (a0 : Character) (i2 : Nat) (s2 : List Int) (i3 : Nat) (s3 : List Int) : Except ((List Int)) (List Int) :=
  (bif decide (0 < (i3 : Int)) then .ok ((s3 ++ ([(impl_rhythm a0.Kind).2.1] : List Int)) ++ ([(impl_rhythm a0.Kind).1] : List Int)) else (bif decide (0 < (i2 : Int)) then .ok ((s3 ++ ([IntKind.wrap .i64 (((impl_rhythm a0.Kind).2.1) + 20)] : List Int)) ++ ([(impl_rhythm a0.Kind).1] : List Int)) else .ok (s3 ++ ([(impl_rhythm a0.Kind).1] : List Int))))
def impl_Character_times_b2 (a0 : Character) (i2 : Nat) (s2 : List Int) : Except ((List Int)) (List Int) :=
  (match loopR (impl_Character_times_b3 a0 i2 s2) (((([1] : List Int).getD i2 default)).toNat - 0) 0 s2 with | .error e => .error e | .ok s3 => .ok s3)
def impl_Character_times_b5 (a0 : Character) (i4 : Nat) (s4 : List Int) (i5 : Nat) (s5 : List Int) : Except ((List Int)) (List Int) :=
  (bif decide (0 < (i5 : Int)) then .ok ((s5 ++ ([(impl_rhythm a0.Kind).2.1] : List Int)) ++ ([(impl_rhythm a0.Kind).1] : List Int)) else (bif decide (0 < (i4 : Int)) then .ok ((s5 ++ ([IntKind.wrap .i64 (((impl_rhythm a0.Kind).2.1) + 20)] : List Int)) ++ ([(impl_rhythm a0.Kind).1] : List Int)) else .ok (s5 ++ ([(impl_rhythm a0.Kind).1] : List Int))))
def impl_Character_times_b4 (a0 : Character) (i4 : Nat) (s4 : List Int) : Except ((List Int)) (List Int) :=
  (match loopR (impl_Character_times_b5 a0 i4 s4) (((a0.Group.getD i4 default)).toNat - 0) 0 s4 with | .error e => .error e | .ok s5 => .ok s5)
def impl_Character_times (a0 : Character) : (List Int) :=
  (bif (a0.Kind == 8) then (match loopR (impl_Character_times_b1 a0) ((impl_signsOf a0.Letter).length - 0) 0 ([] : List Int) with | .error e => e | .ok s1 => s1) else (bif ((a0.Group.length : Int) == 0) then (match loopR (impl_Character_times_b2 a0) (1 - 0) 0 ([] : List Int) with | .error e => e | .ok s2 => (bif (a0.Letter != []) then s2 ++ ([(impl_rhythm a0.Kind).2.1, 20] : List Int) else s2)) else (match loopR (impl_Character_times_b4 a0) (a0.Group.length - 0) 0 ([] : List Int) with | .error e => e | .ok s4 => (bif (a0.Letter != []) then s4 ++ ([(impl_rhythm a0.Kind).2.1, 20] : List Int) else s4))))
namespace N141
theorem DD : DOk Tryz.prog (Go.Ab.DD [(137, dP D_impl_signsOf), (139, dP D_impl_rhythm)]) := DD_cons D_impl_signsOf_ok.e <| DD_cons D_impl_rhythm_ok.e <| DD_nil _
theorem dn : type_of% (And.intro @D_impl_signsOf.eq_1 <| @D_impl_rhythm.eq_1) := by and_intros <;> intros <;> rfl
theorem o2 {p : Prop} (h : p := by (first | (and_intros <;> first | decide | omega | (simp; (first | done | fail)) | (rw [IntKind.wrap_i64]; have := hg9 i4; omega) | (rw [IntKind.wrap_i64]; have := hg1 i2; omega) | (rw [IntKind.wrap_i64]; omega) | (intro i hi; exact app1_get _ _ i hi) | (intro i hi; exact app11_get _ _ _ i hi))); first | done | fail) : p := h
theorem o3 {p : Prop} (h : p := by (first | (refine ⟨⟨Nat.le_refl _, fun i hi => app2_pure _ _ _ i hi⟩, .inl fun i hi => by rw [app2_get _ _ _ i hi]; simp [NoBorL, NoBor], by simp, fun i hi => by rw [app2_get _ _ _ i hi]; exact simOL_refl _⟩)); first | done | fail) : p := h
theorem lx {p : Prop} (h : p := by (exact lxx); first | done | fail) : p := h
set_option maxHeartbeats 1000000 in
set_option maxRecDepth 20000 in
theorem den (a0 : Character) (hb0 : bdCharacter a0) (hp0 : a0.Group.length ≤ 4) (hp1 : ∀ v ∈ a0.Group, v ≤ 9) : Den Tryz.prog 141 [.agg (eCharacter a0)] (ownL 2 1 eIi64 (impl_Character_times a0)) := by
  generalize hR : impl_Character_times a0 = r
  unfold impl_Character_times at hR
  refine di Tryz.func141 Tryz.ntmps141 Tryz.results141 ?_
  intro c hL hc hk
  obtain ⟨hL0, _⟩ := hL
  have hw0 : bwCharacter a0 := Character_lens a0 hL0
  clear hL0
  simp only [pars, Nat.zero_add]
  have hg9 : ∀ i : Nat, a0.Group.getD i default ≤ 9 := fun i => getD_le hp1 i
  have hs9 := signs_len a0.Letter
  have hs8 := signs_ascii a0.Letter
  have hg1 : ∀ i : Nat, ([1] : List Int).getD i default ≤ 9 := fun i => getD_le (by simp) i
  iterate 3 refine rS ?_
  refine AWP.cond rfl (fun hb => ?_) (fun hb => ?_)
  · replace hR := ct hR
    iterate 2 refine rS ?_
    refine AWP.block ?_
    refine AWP.lensT 27 rfl (fun hLn1 => ?_)
    generalize hz1 : loopR (impl_Character_times_b1 a0) ((impl_signsOf a0.Letter).length - 0) 0 ([] : List Int) = z1 at hR
    refine AWP.range (impl_Character_times_b1 a0) (fun i1 s1 => ⟨[(3, .int .i64 ((impl_rhythm a0.Kind).1)), (4, .int .i64 ((impl_rhythm a0.Kind).2.1)), (6, .ref 0 1 0 s1.length), (28, .ptr 1 0)], [.arr 2 1 s1.length (fun j => eIi64 (s1.getD j default)), .it (impl_signsOf a0.Letter) i1 (decide (i1 < (impl_signsOf a0.Letter).length))]⟩) (fun i1 s1 => s1.length ≤ 2 * i1) ((impl_signsOf a0.Letter).length) 0 ([] : List Int) [1, 2] hz1 ot wt sm ?_
    clear hz1
    intro i1 s1 hi1 hW1 hz1
    refine AWP.seq ?_
    by_cases hlt1 : i1 < (impl_signsOf a0.Letter).length
    · rw [loopR_lt hlt1] at hz1; simp only [impl_Character_times_b1] at hz1
      rw [decide_eq_true hlt1]
      refine rS ?_
      refine AWP.seq ?_
      refine AWP.cond rfl (fun hb => ?_) (fun hb=>by cases hb)
      iterate 2 refine rS ?_
      refine AWP.cond rfl (fun hb => ?_) (fun hb => ?_)
      · simp only [hb, cond_true] at hz1
        iterate 2 refine rS ?_
        refine AWP.cond rfl (fun hb => ?_) (fun hb => ?_)
        · simp only [hb, cond_true] at hz1
          refine rS ?_
          exact ⟨_, [5, 1], hlt1, wt, hz1, sm⟩
        · simp only [hb, cond_false] at hz1
          refine rS ?_
          exact ⟨_, [5, 1], hlt1, wt, hz1, sm⟩
      · simp only [hb, cond_false] at hz1
        refine rS ?_
        refine AWP.cond rfl (fun hb => ?_) (fun hb => ?_)
        · simp only [hb, cond_true] at hz1
          refine rS ?_
          exact ⟨_, [3, 1], hlt1, wt, hz1, sm⟩
        · simp only [hb, cond_false] at hz1
          refine rS ?_
          exact ⟨_, [3, 1], hlt1, wt, hz1, sm⟩
    · obtain rfl : i1 = (impl_signsOf a0.Letter).length := by omega
      rw [loopR_ge (Nat.le_refl _)] at hz1; subst hz1; dsimp only at hR
      simp only [Nat.lt_irrefl, decide_false]
      refine rS ?_
      refine AWP.seq ?_
      refine AWP.cond rfl (fun hb=>by cases hb) (fun hb => ?_)
      refine AWP.exit ?_; refine exitTo_here ?_
      refine rS ?_
      refine AWP.ret ?_
      subst hR
      exact es
  · replace hR := cf hR
    iterate 2 refine rS ?_
    refine AWP.cond rfl (fun hb => ?_) (fun hb => ?_)
    · replace hR := ct hR
      iterate 3 refine rS ?_
      refine AWP.block ?_
      generalize hz2 : loopR (impl_Character_times_b2 a0) (1 - 0) 0 ([] : List Int) = z2 at hR
      refine AWP.range (impl_Character_times_b2 a0) (fun i2 s2 => ⟨[(1, .ptr 0 0), (3, .int .i64 ((impl_rhythm a0.Kind).1)), (4, .int .i64 ((impl_rhythm a0.Kind).2.1)), (10, .ref 1 1 0 s2.length), (58, .ref 2 1 0 1), (59, .int .i64 1), (60, .int .i64 (i2 : Int))], [.box [.int .i64 a0.Kind, encL 1 eIi64 a0.Group, .str a0.Letter, .str a0.Colors, .int .i64 a0.Period], .arr 2 1 s2.length (fun j => eIi64 (s2.getD j default)), .arr 2 1 ([1] : List Int).length (fun j => eIi64 (([1] : List Int).getD j default))]⟩) (fun i2 s2 => s2.length ≤ 18 * i2) (1) 0 ([] : List Int) [0, 2, 1] hz2 ot wt sm ?_
      clear hz2
      intro i2 s2 hi2 hW2 hz2
      refine rS ?_
      refine AWP.seq ?_
      refine AWP.cond rfl (fun hb => ?_) (fun hb => ?_)
      · have hlt2 : i2 < 1 := ot
        rw [loopR_lt hlt2] at hz2; simp only [impl_Character_times_b2] at hz2
        iterate 2 refine rS ?_
        refine AWP.block ?_
        generalize hz3 : loopR (impl_Character_times_b3 a0 i2 s2) (((([1] : List Int).getD i2 default)).toNat - 0) 0 s2 = z3 at hz2
        refine AWP.range (impl_Character_times_b3 a0 i2 s2) (fun i3 s3 => ⟨[(1, .ptr 0 0), (3, .int .i64 ((impl_rhythm a0.Kind).1)), (4, .int .i64 ((impl_rhythm a0.Kind).2.1)), (10, .ref 1 1 0 s3.length), (11, .int .i64 (i2 : Int)), (58, .ref 2 1 0 1), (59, .int .i64 1), (60, .int .i64 (i2 : Int)), (65, .int .i64 (([1] : List Int).getD i2 default)), (66, .int .i64 (i3 : Int))], [.box [.int .i64 a0.Kind, encL 1 eIi64 a0.Group, .str a0.Letter, .str a0.Colors, .int .i64 a0.Period], .arr 2 1 s3.length (fun j => eIi64 (s3.getD j default)), .arr 2 1 ([1] : List Int).length (fun j => eIi64 (([1] : List Int).getD j default))]⟩) (fun i3 s3 => s3.length ≤ 18 * i2 + 2 * i3) (((([1] : List Int).getD i2 default)).toNat) 0 s2 [0, 1, 2] hz3 ot wt sm ?_
        clear hz3
        intro i3 s3 hi3 hW3 hz3
        refine rS ?_
        refine AWP.seq ?_
        refine AWP.cond rfl (fun hb => ?_) (fun hb => ?_)
        · have hlt3 : i3 < ((([1] : List Int).getD i2 default)).toNat := ot
          rw [loopR_lt hlt3] at hz3; simp only [impl_Character_times_b3] at hz3
          iterate 2 refine rS ?_
          refine AWP.cond rfl (fun hb => ?_) (fun hb => ?_)
          · simp only [hb, cond_true] at hz3
            iterate 3 refine rS ?_
            exact ⟨_, [0, 6, 2], hlt3, wt, hz3, sm⟩
          · simp only [hb, cond_false] at hz3
            refine rS ?_
            refine AWP.cond rfl (fun hb => ?_) (fun hb => ?_)
            · simp only [hb, cond_true] at hz3
              iterate 3 refine rS ?_
              exact ⟨_, [0, 6, 2], hlt3, wt, hz3, sm⟩
            · simp only [hb, cond_false] at hz3
              iterate 2 refine rS ?_
              exact ⟨_, [0, 4, 2], hlt3, wt, hz3, sm⟩
        · obtain rfl : i3 = ((([1] : List Int).getD i2 default)).toNat := ot
          rw [loopR_ge (Nat.le_refl _)] at hz3; subst hz3; dsimp only at hz2
          refine AWP.exit ?_; refine exitTo_here ?_
          refine rS ?_
          exact ⟨_, [0, 1, 2], hlt2, by (have h9 := hg1 i2; omega), hz2, sm⟩
      · obtain rfl : i2 = 1 := ot
        rw [loopR_ge (Nat.le_refl _)] at hz2; subst hz2; dsimp only at hR
        refine AWP.exit ?_; refine exitTo_here ?_
        refine rS ?_
        refine AWP.cond rfl (fun hb => ?_) (fun hb => ?_)
        · replace hR := ct hR
          iterate 2 refine rS ?_
          refine AWP.ret ?_
          subst hR
          exact es
        · replace hR := cf hR
          refine rS ?_
          refine AWP.ret ?_
          subst hR
          exact es
    · replace hR := cf hR
      iterate 2 refine rS ?_
      refine AWP.block ?_
      refine AWP.lensS 9 rfl (fun hLn4 => ?_)
      generalize hz4 : loopR (impl_Character_times_b4 a0) (a0.Group.length - 0) 0 ([] : List Int) = z4 at hR
      refine AWP.range (impl_Character_times_b4 a0) (fun i4 s4 => ⟨[(1, .ptr 0 0), (3, .int .i64 ((impl_rhythm a0.Kind).1)), (4, .int .i64 ((impl_rhythm a0.Kind).2.1)), (10, .ref 1 1 0 s4.length), (58, encL 1 eIi64 a0.Group), (59, .int .i64 (a0.Group.length : Int)), (60, .int .i64 (i4 : Int))], [.box [.int .i64 a0.Kind, encL 1 eIi64 a0.Group, .str a0.Letter, .str a0.Colors, .int .i64 a0.Period], .arr 2 1 s4.length (fun j => eIi64 (s4.getD j default))]⟩) (fun i4 s4 => s4.length ≤ 18 * i4) (a0.Group.length) 0 ([] : List Int) [0, 1] hz4 ot wt sm ?_
      clear hz4
      intro i4 s4 hi4 hW4 hz4
      refine rS ?_
      refine AWP.seq ?_
      refine AWP.cond rfl (fun hb => ?_) (fun hb => ?_)
      · have hlt4 : i4 < a0.Group.length := ot
        rw [loopR_lt hlt4] at hz4; simp only [impl_Character_times_b4] at hz4
        iterate 2 refine rS ?_
        refine AWP.block ?_
        generalize hz5 : loopR (impl_Character_times_b5 a0 i4 s4) (((a0.Group.getD i4 default)).toNat - 0) 0 s4 = z5 at hz4
        refine AWP.range (impl_Character_times_b5 a0 i4 s4) (fun i5 s5 => ⟨[(1, .ptr 0 0), (3, .int .i64 ((impl_rhythm a0.Kind).1)), (4, .int .i64 ((impl_rhythm a0.Kind).2.1)), (10, .ref 1 1 0 s5.length), (11, .int .i64 (i4 : Int)), (58, encL 1 eIi64 a0.Group), (59, .int .i64 (a0.Group.length : Int)), (60, .int .i64 (i4 : Int)), (65, .int .i64 (a0.Group.getD i4 default)), (66, .int .i64 (i5 : Int))], [.box [.int .i64 a0.Kind, encL 1 eIi64 a0.Group, .str a0.Letter, .str a0.Colors, .int .i64 a0.Period], .arr 2 1 s5.length (fun j => eIi64 (s5.getD j default))]⟩) (fun i5 s5 => s5.length ≤ 18 * i4 + 2 * i5) (((a0.Group.getD i4 default)).toNat) 0 s4 [0, 1] hz5 ot wt sm ?_
        clear hz5
        intro i5 s5 hi5 hW5 hz5
        refine rS ?_
        refine AWP.seq ?_
        refine AWP.cond rfl (fun hb => ?_) (fun hb => ?_)
        · have hlt5 : i5 < ((a0.Group.getD i4 default)).toNat := ot
          rw [loopR_lt hlt5] at hz5; simp only [impl_Character_times_b5] at hz5
          iterate 2 refine rS ?_
          refine AWP.cond rfl (fun hb => ?_) (fun hb => ?_)
          · simp only [hb, cond_true] at hz5
            iterate 3 refine rS ?_
            exact ⟨_, [0, 5], hlt5, wt, hz5, sm⟩
          · simp only [hb, cond_false] at hz5
            refine rS ?_
            refine AWP.cond rfl (fun hb => ?_) (fun hb => ?_)
            · simp only [hb, cond_true] at hz5
              iterate 3 refine rS ?_
              exact ⟨_, [0, 5], hlt5, wt, hz5, sm⟩
            · simp only [hb, cond_false] at hz5
              iterate 2 refine rS ?_
              exact ⟨_, [0, 3], hlt5, wt, hz5, sm⟩
        · obtain rfl : i5 = ((a0.Group.getD i4 default)).toNat := ot
          rw [loopR_ge (Nat.le_refl _)] at hz5; subst hz5; dsimp only at hz4
          refine AWP.exit ?_; refine exitTo_here ?_
          refine rS ?_
          exact ⟨_, [0, 1], hlt4, by (have h9 := hg9 i4; omega), hz4, sm⟩
      · obtain rfl : i4 = a0.Group.length := ot
        rw [loopR_ge (Nat.le_refl _)] at hz4; subst hz4; dsimp only at hR
        refine AWP.exit ?_; refine exitTo_here ?_
        refine rS ?_
        refine AWP.cond rfl (fun hb => ?_) (fun hb => ?_)
        · replace hR := ct hR
          iterate 2 refine rS ?_
          refine AWP.ret ?_
          subst hR
          exact es
        · replace hR := cf hR
          refine rS ?_
          refine AWP.ret ?_
          subst hR
          exact es
end N141
def D_impl_Character_times : DF
  | [x0] => some (ownL 2 1 eIi64 (impl_Character_times (rdG dCharacter x0)), false, [wG eCharacter dCharacter x0, bdCharacter (rdG dCharacter x0), (rdG dCharacter x0).Group.length ≤ 4, ∀ v ∈ (rdG dCharacter x0).Group, v ≤ 9])
  | _ => none
def Dz_impl_Character_times : DF
  | [x0] => some (ownL 2 1 eIi64 (impl_Character_times (rdG dCharacter x0)), true, [wG eCharacter dCharacter x0, bdCharacter (rdG dCharacter x0), (rdG dCharacter x0).Group.length ≤ 4, ∀ v ∈ (rdG dCharacter x0).Group, v ≤ 9])
  | _ => none
theorem D_impl_Character_times_ok : OkD Tryz.prog 141 D_impl_Character_times := by unfold D_impl_Character_times; exact dk N141.den
theorem Dz_impl_Character_times_ok : OkD Tryz.prog 141 Dz_impl_Character_times := by unfold Dz_impl_Character_times; exact dk N141.den
end Go.Ab

namespace Go.Ab
open Go Go.Proofs
def impl_Character_leastPeriod (a0 : Character) : Int :=
  (bif (impl_Character_isSteady a0) then 0 else (bif (a0.Kind == 3) then 20 else (bif decide (1 < (a0.Group.length : Int)) then IntKind.wrap .i64 ((impl_sumOf (impl_Character_times a0)) + (IntKind.wrap .i64 (((impl_rhythm a0.Kind).2.2) + 20))) else IntKind.wrap .i64 ((impl_sumOf (impl_Character_times a0)) + ((impl_rhythm a0.Kind).2.2)))))
namespace N96
theorem DD : DOk Tryz.prog (Go.Ab.DD [(139, dP D_impl_rhythm), (140, dP D_impl_sumOf), (141, dP D_impl_Character_times), (95, dP D_impl_Character_isSteady)]) := DD_cons D_impl_rhythm_ok.e <| DD_cons D_impl_sumOf_ok.e <| DD_cons D_impl_Character_times_ok.e <| DD_cons D_impl_Character_isSteady_ok.e <| DD_nil _
theorem dn : type_of% (And.intro @D_impl_rhythm.eq_1 <| And.intro @D_impl_sumOf.eq_1 <| And.intro @D_impl_Character_times.eq_1 <| @D_impl_Character_isSteady.eq_1) := by and_intros <;> intros <;> rfl
theorem den (a0 : Character) (hb0 : bdCharacter a0) (hp0 : a0.Group.length ≤ 4) (hp1 : ∀ v ∈ a0.Group, v ≤ 9) : Den Tryz.prog 96 [.agg (eCharacter a0)] (.int .i64 (impl_Character_leastPeriod a0)) := by
  generalize hR : impl_Character_leastPeriod a0 = r
  unfold impl_Character_leastPeriod at hR
  refine di Tryz.func96 Tryz.ntmps96 Tryz.results96 ?_
  intro c hL hc hk
  obtain ⟨hL0, _⟩ := hL
  have hw0 : bwCharacter a0 := Character_lens a0 hL0
  clear hL0
  simp only [pars, Nat.zero_add]
  iterate 2 refine rS ?_
  refine AWP.cond rfl (fun hb => ?_) (fun hb => ?_)
  · replace hR := ct hR
    refine rS ?_
    refine AWP.ret ?_
    subst hR
    exact es
  · replace hR := cf hR
    refine rS ?_
    refine AWP.cond rfl (fun hb => ?_) (fun hb => ?_)
    · replace hR := ct hR
      refine rS ?_
      refine AWP.ret ?_
      subst hR
      exact es
    · replace hR := cf hR
      iterate 2 refine rS ?_
      refine AWP.cond rfl (fun hb => ?_) (fun hb => ?_)
      · replace hR := ct hR
        iterate 2 refine rS ?_
        refine AWP.ret ?_
        subst hR
        exact es
      · replace hR := cf hR
        refine rS ?_
        refine AWP.ret ?_
        subst hR
        exact es
end N96
def D_impl_Character_leastPeriod : DF
  | [x0] => some (.int .i64 (impl_Character_leastPeriod (rdG dCharacter x0)), false, [wG eCharacter dCharacter x0, bdCharacter (rdG dCharacter x0), (rdG dCharacter x0).Group.length ≤ 4, ∀ v ∈ (rdG dCharacter x0).Group, v ≤ 9])
  | _ => none
theorem D_impl_Character_leastPeriod_ok : OkD Tryz.prog 96 D_impl_Character_leastPeriod := by unfold D_impl_Character_leastPeriod; exact dk N96.den
end Go.Ab

namespace Go.Ab
open Go Go.Proofs
def impl_ValidCharacter (a0 : Character) : Bool :=
  (bif ((!(impl_areCharacterColors a0.Colors)) || (!(impl_Character_fits a0))) then false else (bif (impl_Character_isSteady a0) then (a0.Period == 0) else ((impl_within a0.Period (impl_Character_leastPeriod a0) 600) && ((a0.Kind != 3) || ((a0.Period.tmod 2) == 0)))))
namespace N49
theorem DD : DOk Tryz.prog (Go.Ab.DD [(68, dP D_impl_within), (93, dP D_impl_areCharacterColors), (94, dP D_impl_Character_fits), (95, dP D_impl_Character_isSteady), (96, dP D_impl_Character_leastPeriod)]) := DD_cons D_impl_within_ok.e <| DD_cons D_impl_areCharacterColors_ok.e <| DD_cons D_impl_Character_fits_ok.e <| DD_cons D_impl_Character_isSteady_ok.e <| DD_cons D_impl_Character_leastPeriod_ok.e <| DD_nil _
theorem dn : type_of% (And.intro @D_impl_within.eq_1 <| And.intro @D_impl_areCharacterColors.eq_1 <| And.intro @D_impl_Character_fits.eq_1 <| And.intro @D_impl_Character_isSteady.eq_1 <| @D_impl_Character_leastPeriod.eq_1) := by and_intros <;> intros <;> rfl
theorem ol : type_of% (@impl_within.eq_1) := @impl_within.eq_1
theorem o0 {p : Prop} (h : p := by (first | (have q9 := ‹(!impl_areCharacterColors a0.Colors || !impl_Character_fits a0) = false›; have h9 := fits_grp a0 (by simp only [Bool.or_eq_false_iff, Bool.not_eq_false'] at q9; exact q9.2); first | exact ⟨hb0, h9.1, fun v hv => (h9.2 v hv).2, fun _ _ => by decide⟩ | exact ⟨hb0, h9.1, fun v hv => (h9.2 v hv).2⟩ | exact h9.1)); first | done | fail) : p := h
theorem den (a0 : Character) (hb0 : bdCharacter a0) : Den Tryz.prog 49 [.agg (eCharacter a0)] (.bool (impl_ValidCharacter a0)) := by
  generalize hR : impl_ValidCharacter a0 = r
  unfold impl_ValidCharacter at hR
  refine di Tryz.func49 Tryz.ntmps49 Tryz.results49 ?_
  intro c hL hc hk
  obtain ⟨hL0, _⟩ := hL
  have hw0 : bwCharacter a0 := Character_lens a0 hL0
  clear hL0
  simp only [pars, Nat.zero_add]
  iterate 2 refine rS ?_
  refine AWP.cond rfl (fun hb => ?_) (fun hb => ?_)
  · replace hR := ct hR
    refine rS ?_
    refine AWP.ret ?_
    subst hR
    exact es
  · replace hR := cf hR
    refine rS ?_
    refine AWP.cond rfl (fun hb => ?_) (fun hb => ?_)
    · replace hR := ct hR
      refine rS ?_
      refine AWP.ret ?_
      subst hR
      exact es
    · replace hR := cf hR
      refine rD 16 ?_
      refine AWP.ret ?_
      subst hR
      exact es
end N49
def D_impl_ValidCharacter : DF
  | [x0] => some (.bool (impl_ValidCharacter (rdG dCharacter x0)), false, [wG eCharacter dCharacter x0, bdCharacter (rdG dCharacter x0)])
  | _ => none
theorem D_impl_ValidCharacter_ok : OkD Tryz.prog 49 D_impl_ValidCharacter := by unfold D_impl_ValidCharacter; exact dk N49.den
end Go.Ab

namespace Go.Ab
open Go Go.Proofs
def spec_l05Steady (a0 : Character) : Bool :=
  ((a0.Kind == 1) || (((a0.Kind == 6) || (a0.Kind == 7)) && ((a0.Group.length : Int) == 0)))
namespace N128
theorem DD : DOk Tryz.prog (Go.Ab.DD []) := DD_nil _
theorem den (a0 : Character)  : Den Tryz.prog 128 [.ep (eCharacter a0)] (.bool (spec_l05Steady a0)) := by
  generalize hR : spec_l05Steady a0 = r
  unfold spec_l05Steady at hR
  refine di Tryz.func128 Tryz.ntmps128 Tryz.results128 ?_
  intro c hL hc hk
  obtain ⟨hL0, _⟩ := hL
  have hw0 : bwCharacter a0 := Character_lens a0 hL0
  clear hL0
  simp only [pars, Nat.zero_add]
  iterate 2 refine rS ?_
  refine AWP.ret ?_
  subst hR
  exact es
end N128
def D_spec_l05Steady : DF
  | [x0] => some (.bool (spec_l05Steady (rdP dCharacter x0)), false, [wP eCharacter dCharacter x0])
  | _ => none
theorem D_spec_l05Steady_ok : OkD Tryz.prog 128 D_spec_l05Steady := by unfold D_spec_l05Steady; exact dk N128.den
end Go.Ab

namespace Go.Ab
open Go Go.Proofs
def spec_l05Total_b1 (a0 : (List Int)) (i1 : Nat) (s1 : Int) : Except (Int) (Int) :=
  .ok (IntKind.wrap .i64 (s1 + (a0.getD i1 default)))
def spec_l05Total (a0 : (List Int)) : Int :=
  (match loopR (spec_l05Total_b1 a0) (a0.length - 0) 0 0 with | .error e => e | .ok s1 => s1)
namespace N177
theorem DD : DOk Tryz.prog (Go.Ab.DD []) := DD_nil _
theorem den (a0 : (List Int))  : Den Tryz.prog 177 [encL 1 eIi64 a0] (.int .i64 (spec_l05Total a0)) := by
  generalize hR : spec_l05Total a0 = r
  unfold spec_l05Total at hR
  refine di Tryz.func177 Tryz.ntmps177 Tryz.results177 ?_
  intro c hL hc hk
  obtain ⟨hL0, _⟩ := hL
  have hw0 : a0.length < 9223372036854775808 := Nat.lt_succ_of_le (lens_encL hL0).1
  clear hL0
  simp only [pars, Nat.zero_add]
  iterate 3 refine rS ?_
  refine AWP.block ?_
  generalize hz1 : loopR (spec_l05Total_b1 a0) (a0.length - 0) 0 0 = z1 at hR
  refine AWP.range (spec_l05Total_b1 a0) (fun i1 s1 => ⟨[(0, encL 1 eIi64 a0), (3, .int .i64 s1), (4, .int .i64 (i1 : Int))], []⟩) (fun i1 s1 => True) (a0.length) 0 0 [] hz1 ot wt sm ?_
  clear hz1
  intro i1 s1 hi1 hW1 hz1
  refine rS ?_
  refine AWP.cond rfl (fun hb => ?_) (fun hb => ?_)
  · have hlt1 : i1 < a0.length := ot
    rw [loopR_lt hlt1] at hz1; simp only [spec_l05Total_b1] at hz1
    iterate 2 refine rS ?_
    exact ⟨_, [], hlt1, wt, hz1, sm⟩
  · obtain rfl : i1 = a0.length := ot
    rw [loopR_ge (Nat.le_refl _)] at hz1; subst hz1; dsimp only at hR
    refine AWP.exit ?_; refine exitTo_here ?_
    refine rS ?_
    refine AWP.ret ?_
    subst hR
    exact es
end N177
def D_spec_l05Total : DF
  | [x0] => some (.int .i64 (spec_l05Total (rdL dIi64 x0)), false, [wL 1 eIi64 dIi64 x0])
  | _ => none
theorem D_spec_l05Total_ok : OkD Tryz.prog 177 D_spec_l05Total := by unfold D_spec_l05Total; exact dk N177.den
end Go.Ab

namespace Go.Ab
open Go Go.Proofs
def spec_l05Gap (a0 : Int) : Int :=
  (bif (a0 == 2) then 10 else (bif (a0 == 4) then 15 else (bif (a0 == 5) then 20 else (bif (a0 == 7) then 3 else 5))))
namespace N207
theorem DD : DOk Tryz.prog (Go.Ab.DD []) := DD_nil _
theorem den (a0 : Int)  : Den Tryz.prog 207 [.int .i64 a0] (.int .i64 (spec_l05Gap a0)) := by
  generalize hR : spec_l05Gap a0 = r
  unfold spec_l05Gap at hR
  refine di Tryz.func207 Tryz.ntmps207 Tryz.results207 ?_
  intro c hL hc hk
  clear hL
  simp only [pars, Nat.zero_add]
  iterate 3 refine rS ?_
  refine AWP.cond rfl (fun hb => ?_) (fun hb => ?_)
  · replace hR := ct hR
    refine rS ?_
    refine AWP.ret ?_
    subst hR
    exact es
  · replace hR := cf hR
    refine rS ?_
    refine AWP.cond rfl (fun hb => ?_) (fun hb => ?_)
    · replace hR := ct hR
      refine rS ?_
      refine AWP.ret ?_
      subst hR
      exact es
    · replace hR := cf hR
      refine rS ?_
      refine AWP.cond rfl (fun hb => ?_) (fun hb => ?_)
      · replace hR := ct hR
        refine rS ?_
        refine AWP.ret ?_
        subst hR
        exact es
      · replace hR := cf hR
        refine rS ?_
        refine AWP.cond rfl (fun hb => ?_) (fun hb => ?_)
        · replace hR := ct hR
          refine rS ?_
          refine AWP.ret ?_
          subst hR
          exact es
        · replace hR := cf hR
          refine rS ?_
          refine AWP.ret ?_
          subst hR
          exact es
end N207
def D_spec_l05Gap : DF
  | [x0] => some (.int .i64 (spec_l05Gap (rdI x0)), false, [wI .i64 x0])
  | _ => none
theorem D_spec_l05Gap_ok : OkD Tryz.prog 207 D_spec_l05Gap := by unfold D_spec_l05Gap; exact dk N207.den
end Go.Ab

namespace Go.Ab
open Go Go.Proofs
def spec_l05Flash (a0 : Int) : Int :=
  (bif (a0 == 2) then 10 else (bif (a0 == 5) then 20 else (bif (a0 == 7) then 2 else 5)))
namespace N208
theorem DD : DOk Tryz.prog (Go.Ab.DD []) := DD_nil _
theorem den (a0 : Int)  : Den Tryz.prog 208 [.int .i64 a0] (.int .i64 (spec_l05Flash a0)) := by
  generalize hR : spec_l05Flash a0 = r
  unfold spec_l05Flash at hR
  refine di Tryz.func208 Tryz.ntmps208 Tryz.results208 ?_
  intro c hL hc hk
  clear hL
  simp only [pars, Nat.zero_add]
  iterate 3 refine rS ?_
  refine AWP.cond rfl (fun hb => ?_) (fun hb => ?_)
  · replace hR := ct hR
    refine rS ?_
    refine AWP.ret ?_
    subst hR
    exact es
  · replace hR := cf hR
    refine rS ?_
    refine AWP.cond rfl (fun hb => ?_) (fun hb => ?_)
    · replace hR := ct hR
      refine rS ?_
      refine AWP.ret ?_
      subst hR
      exact es
    · replace hR := cf hR
      refine rS ?_
      refine AWP.cond rfl (fun hb => ?_) (fun hb => ?_)
      · replace hR := ct hR
        refine rS ?_
        refine AWP.ret ?_
        subst hR
        exact es
      · replace hR := cf hR
        refine rS ?_
        refine AWP.ret ?_
        subst hR
        exact es
end N208
def D_spec_l05Flash : DF
  | [x0] => some (.int .i64 (spec_l05Flash (rdI x0)), false, [wI .i64 x0])
  | _ => none
theorem D_spec_l05Flash_ok : OkD Tryz.prog 208 D_spec_l05Flash := by unfold D_spec_l05Flash; exact dk N208.den
end Go.Ab

namespace Go.Ab
open Go Go.Proofs
def spec_l05Times_b1 (a0 : Character) (i1 : Nat) (s1 : List Int) : Except ((List Int)) (List Int) :=
  (bif decide (0 < (i1 : Int)) then .ok ((s1 ++ ([5] : List Int)) ++ ([((spec_l05Morse ((a0.Letter.getD 0 0).toNat : Int)).getD i1 default)] : List Int)) else .ok (s1 ++ ([((spec_l05Morse ((a0.Letter.getD 0 0).toNat : Int)).getD i1 default)] : List Int)))
def spec_l05Times_b3 (a0 : Character) (i2 : Nat) (s2 : List Int) (i3 : Nat) (s3 : List Int) : Except ((List Int)) (List Int) :=
  (bif decide (0 < (i3 : Int)) then .ok ((s3 ++ ([(spec_l05Gap a0.Kind)] : List Int)) ++ ([(spec_l05Flash a0.Kind)] : List Int)) else (bif decide (0 < (i2 : Int)) then .ok ((s3 ++ ([IntKind.wrap .i64 ((spec_l05Gap a0.Kind) + 20)] : List Int)) ++ ([(spec_l05Flash a0.Kind)] : List Int)) else .ok (s3 ++ ([(spec_l05Flash a0.Kind)] : List Int))))
def spec_l05Times_b2 (a0 : Character) (i2 : Nat) (s2 : List Int) : Except ((List Int)) (List Int) :=
  (match loopR (spec_l05Times_b3 a0 i2 s2) (((([1] : List Int).getD i2 default)).toNat - 0) 0 s2 with | .error e => .error e | .ok s3 => .ok s3)
def spec_l05Times_b5 (a0 : Character) (i4 : Nat) (s4 : List Int) (i5 : Nat) (s5 : List Int) : Except ((List Int)) (List Int) :=
  (bif decide (0 < (i5 : Int)) then .ok ((s5 ++ ([(spec_l05Gap a0.Kind)] : List Int)) ++ ([(spec_l05Flash a0.Kind)] : List Int)) else (bif decide (0 < (i4 : Int)) then .ok ((s5 ++ ([IntKind.wrap .i64 ((spec_l05Gap a0.Kind) + 20)] : List Int)) ++ ([(spec_l05Flash a0.Kind)] : List Int)) else .ok (s5 ++ ([(spec_l05Flash a0.Kind)] : List Int))))
def spec_l05Times_b4 (a0 : Character) (i4 : Nat) (s4 : List Int) : Except ((List Int)) (List Int) :=
  (match loopR (spec_l05Times_b5 a0 i4 s4) (((a0.Group.getD i4 default)).toNat - 0) 0 s4 with | .error e => .error e | .ok s5 => .ok s5)
def spec_l05Times (a0 : Character) : (List Int) :=
  (bif (a0.Kind == 8) then (match loopR (spec_l05Times_b1 a0) (((spec_l05Morse ((a0.Letter.getD 0 0).toNat : Int)).length) - 0) 0 ([] : List Int) with | .error e => e | .ok s1 => s1) else (bif ((a0.Group.length : Int) == 0) then (match loopR (spec_l05Times_b2 a0) (1 - 0) 0 ([] : List Int) with | .error e => e | .ok s2 => (bif (a0.Letter == [76]) then s2 ++ ([(spec_l05Gap a0.Kind), 20] : List Int) else s2)) else (match loopR (spec_l05Times_b4 a0) (a0.Group.length - 0) 0 ([] : List Int) with | .error e => e | .ok s4 => (bif (a0.Letter == [76]) then s4 ++ ([(spec_l05Gap a0.Kind), 20] : List Int) else s4))))
namespace N178
theorem DD : DOk Tryz.prog (Go.Ab.DD [(206, dP D_spec_l05Morse), (207, dP D_spec_l05Gap), (208, dP D_spec_l05Flash)]) := DD_cons D_spec_l05Morse_ok.e <| DD_cons D_spec_l05Gap_ok.e <| DD_cons D_spec_l05Flash_ok.e <| DD_nil _
theorem dn : type_of% (And.intro @D_spec_l05Morse.eq_1 <| And.intro @D_spec_l05Gap.eq_1 <| @D_spec_l05Flash.eq_1) := by and_intros <;> intros <;> rfl
theorem o2 {p : Prop} (h : p := by (first | (and_intros <;> first | decide | omega | (simp; (first | done | fail)) | (rw [IntKind.wrap_i64]; have := hg9 i4; omega) | (rw [IntKind.wrap_i64]; have := hg1 i2; omega) | (rw [IntKind.wrap_i64]; omega) | (intro i hi; exact app1_get _ _ i hi) | (intro i hi; exact app11_get _ _ _ i hi))); first | done | fail) : p := h
theorem o3 {p : Prop} (h : p := by (first | (refine ⟨⟨Nat.le_refl _, fun i hi => app2_pure _ _ _ i hi⟩, .inl fun i hi => by rw [app2_get _ _ _ i hi]; simp [NoBorL, NoBor], by simp, fun i hi => by rw [app2_get _ _ _ i hi]; exact simOL_refl _⟩)); first | done | fail) : p := h
theorem lx {p : Prop} (h : p := by (exact lxx); first | done | fail) : p := h
set_option maxHeartbeats 1000000 in
set_option maxRecDepth 20000 in
theorem den (a0 : Character) (hb0 : bdCharacter a0) (hp0 : a0.Group.length ≤ 4) (hp1 : ∀ v ∈ a0.Group, v ≤ 9) (hp2 : a0.Kind = 8 → a0.Letter.length = 1 ∧ 65 ≤ (a0.Letter.getD 0 0).toNat ∧ (a0.Letter.getD 0 0).toNat ≤ 90) : Den Tryz.prog 178 [.ep (eCharacter a0)] (ownL 2 1 eIi64 (spec_l05Times a0)) := by
  generalize hR : spec_l05Times a0 = r
  unfold spec_l05Times at hR
  refine di Tryz.func178 Tryz.ntmps178 Tryz.results178 ?_
  intro c hL hc hk
  obtain ⟨hL0, _⟩ := hL
  have hw0 : bwCharacter a0 := Character_lens a0 hL0
  clear hL0
  simp only [pars, Nat.zero_add]
  have hg9 : ∀ i : Nat, a0.Group.getD i default ≤ 9 := fun i => getD_le hp1 i
  have hs9 := morse_len ((a0.Letter.getD 0 0).toNat : Int)
  have hg1 : ∀ i : Nat, ([1] : List Int).getD i default ≤ 9 := fun i => getD_le (by simp) i
  iterate 3 refine rS ?_
  refine AWP.cond rfl (fun hb => ?_) (fun hb => ?_)
  · replace hR := ct hR
    iterate 2 refine rS ?_
    refine AWP.block ?_
    generalize hz1 : loopR (spec_l05Times_b1 a0) (((spec_l05Morse ((a0.Letter.getD 0 0).toNat : Int)).length) - 0) 0 ([] : List Int) = z1 at hR
    refine AWP.range (spec_l05Times_b1 a0) (fun i1 s1 => ⟨[(3, .ref 0 1 0 s1.length), (4, .ref 1 1 0 ((spec_l05Morse ((a0.Letter.getD 0 0).toNat : Int)).length)), (5, .int .i64 (i1 : Int))], [.arr 2 1 s1.length (fun j => eIi64 (s1.getD j default)), .arr 2 1 (spec_l05Morse ((a0.Letter.getD 0 0).toNat : Int)).length (fun j => eIi64 ((spec_l05Morse ((a0.Letter.getD 0 0).toNat : Int)).getD j default))]⟩) (fun i1 s1 => s1.length ≤ 2 * i1) (((spec_l05Morse ((a0.Letter.getD 0 0).toNat : Int)).length)) 0 ([] : List Int) [0, 1] hz1 ot wt sm ?_
    clear hz1
    intro i1 s1 hi1 hW1 hz1
    refine rS ?_
    refine AWP.cond rfl (fun hb => ?_) (fun hb => ?_)
    · have hlt1 : i1 < ((spec_l05Morse ((a0.Letter.getD 0 0).toNat : Int)).length) := ot
      rw [loopR_lt hlt1] at hz1; simp only [spec_l05Times_b1] at hz1
      refine rS ?_
      refine AWP.cond rfl (fun hb => ?_) (fun hb => ?_)
      · simp only [hb, cond_true] at hz1
        iterate 3 refine rS ?_
        exact ⟨_, [5, 1], hlt1, wt, hz1, sm⟩
      · simp only [hb, cond_false] at hz1
        iterate 2 refine rS ?_
        exact ⟨_, [3, 1], hlt1, wt, hz1, sm⟩
    · obtain rfl : i1 = ((spec_l05Morse ((a0.Letter.getD 0 0).toNat : Int)).length) := ot
      rw [loopR_ge (Nat.le_refl _)] at hz1; subst hz1; dsimp only at hR
      refine AWP.exit ?_; refine exitTo_here ?_
      refine rS ?_
      refine AWP.ret ?_
      subst hR
      exact es
  · replace hR := cf hR
    iterate 2 refine rS ?_
    refine AWP.cond rfl (fun hb => ?_) (fun hb => ?_)
    · replace hR := ct hR
      iterate 2 refine rS ?_
      refine AWP.block ?_
      generalize hz2 : loopR (spec_l05Times_b2 a0) (1 - 0) 0 ([] : List Int) = z2 at hR
      refine AWP.range (spec_l05Times_b2 a0) (fun i2 s2 => ⟨[(0, .ep (eCharacter a0)), (3, .ref 0 1 0 s2.length), (6, .ref 1 1 0 1), (7, .int .i64 (i2 : Int))], [.arr 2 1 s2.length (fun j => eIi64 (s2.getD j default)), .arr 2 1 ([1] : List Int).length (fun j => eIi64 (([1] : List Int).getD j default))]⟩) (fun i2 s2 => s2.length ≤ 18 * i2) (1) 0 ([] : List Int) [0, 1] hz2 ot wt sm ?_
      clear hz2
      intro i2 s2 hi2 hW2 hz2
      refine rS ?_
      refine AWP.cond rfl (fun hb => ?_) (fun hb => ?_)
      · have hlt2 : i2 < 1 := ot
        rw [loopR_lt hlt2] at hz2; simp only [spec_l05Times_b2] at hz2
        refine rS ?_
        refine AWP.block ?_
        generalize hz3 : loopR (spec_l05Times_b3 a0 i2 s2) (((([1] : List Int).getD i2 default)).toNat - 0) 0 s2 = z3 at hz2
        refine AWP.range (spec_l05Times_b3 a0 i2 s2) (fun i3 s3 => ⟨[(0, .ep (eCharacter a0)), (3, .ref 0 1 0 s3.length), (6, .ref 1 1 0 1), (7, .int .i64 (i2 : Int)), (8, .int .i64 (i3 : Int))], [.arr 2 1 s3.length (fun j => eIi64 (s3.getD j default)), .arr 2 1 ([1] : List Int).length (fun j => eIi64 (([1] : List Int).getD j default))]⟩) (fun i3 s3 => s3.length ≤ 18 * i2 + 2 * i3) (((([1] : List Int).getD i2 default)).toNat) 0 s2 [0, 1] hz3 ot wt sm ?_
        clear hz3
        intro i3 s3 hi3 hW3 hz3
        refine rS ?_
        refine AWP.cond rfl (fun hb => ?_) (fun hb => ?_)
        · have hlt3 : i3 < ((([1] : List Int).getD i2 default)).toNat := ot
          rw [loopR_lt hlt3] at hz3; simp only [spec_l05Times_b3] at hz3
          refine rS ?_
          refine AWP.cond rfl (fun hb => ?_) (fun hb => ?_)
          · simp only [hb, cond_true] at hz3
            iterate 3 refine rS ?_
            exact ⟨_, [5, 1], hlt3, wt, hz3, sm⟩
          · simp only [hb, cond_false] at hz3
            refine rS ?_
            refine AWP.cond rfl (fun hb => ?_) (fun hb => ?_)
            · simp only [hb, cond_true] at hz3
              iterate 3 refine rS ?_
              exact ⟨_, [5, 1], hlt3, wt, hz3, sm⟩
            · simp only [hb, cond_false] at hz3
              iterate 2 refine rS ?_
              exact ⟨_, [3, 1], hlt3, wt, hz3, sm⟩
        · obtain rfl : i3 = ((([1] : List Int).getD i2 default)).toNat := ot
          rw [loopR_ge (Nat.le_refl _)] at hz3; subst hz3; dsimp only at hz2
          refine AWP.exit ?_; refine exitTo_here ?_
          refine rS ?_
          exact ⟨_, [0, 1], hlt2, by (have h9 := hg1 i2; omega), hz2, sm⟩
      · obtain rfl : i2 = 1 := ot
        rw [loopR_ge (Nat.le_refl _)] at hz2; subst hz2; dsimp only at hR
        refine AWP.exit ?_; refine exitTo_here ?_
        refine rS ?_
        refine AWP.cond rfl (fun hb => ?_) (fun hb => ?_)
        · replace hR := ct hR
          iterate 2 refine rS ?_
          refine AWP.ret ?_
          subst hR
          exact es
        · replace hR := cf hR
          refine rS ?_
          refine AWP.ret ?_
          subst hR
          exact es
    · replace hR := cf hR
      refine rS ?_
      refine AWP.block ?_
      refine AWP.lensS 6 rfl (fun hLn4 => ?_)
      generalize hz4 : loopR (spec_l05Times_b4 a0) (a0.Group.length - 0) 0 ([] : List Int) = z4 at hR
      refine AWP.range (spec_l05Times_b4 a0) (fun i4 s4 => ⟨[(0, .ep (eCharacter a0)), (3, .ref 0 1 0 s4.length), (6, encL 1 eIi64 a0.Group), (7, .int .i64 (i4 : Int))], [.arr 2 1 s4.length (fun j => eIi64 (s4.getD j default))]⟩) (fun i4 s4 => s4.length ≤ 18 * i4) (a0.Group.length) 0 ([] : List Int) [0] hz4 ot wt sm ?_
      clear hz4
      intro i4 s4 hi4 hW4 hz4
      refine rS ?_
      refine AWP.cond rfl (fun hb => ?_) (fun hb => ?_)
      · have hlt4 : i4 < a0.Group.length := ot
        rw [loopR_lt hlt4] at hz4; simp only [spec_l05Times_b4] at hz4
        refine rS ?_
        refine AWP.block ?_
        generalize hz5 : loopR (spec_l05Times_b5 a0 i4 s4) (((a0.Group.getD i4 default)).toNat - 0) 0 s4 = z5 at hz4
        refine AWP.range (spec_l05Times_b5 a0 i4 s4) (fun i5 s5 => ⟨[(0, .ep (eCharacter a0)), (3, .ref 0 1 0 s5.length), (6, encL 1 eIi64 a0.Group), (7, .int .i64 (i4 : Int)), (8, .int .i64 (i5 : Int))], [.arr 2 1 s5.length (fun j => eIi64 (s5.getD j default))]⟩) (fun i5 s5 => s5.length ≤ 18 * i4 + 2 * i5) (((a0.Group.getD i4 default)).toNat) 0 s4 [0] hz5 ot wt sm ?_
        clear hz5
        intro i5 s5 hi5 hW5 hz5
        refine rS ?_
        refine AWP.cond rfl (fun hb => ?_) (fun hb => ?_)
        · have hlt5 : i5 < ((a0.Group.getD i4 default)).toNat := ot
          rw [loopR_lt hlt5] at hz5; simp only [spec_l05Times_b5] at hz5
          refine rS ?_
          refine AWP.cond rfl (fun hb => ?_) (fun hb => ?_)
          · simp only [hb, cond_true] at hz5
            iterate 3 refine rS ?_
            exact ⟨_, [4], hlt5, wt, hz5, sm⟩
          · simp only [hb, cond_false] at hz5
            refine rS ?_
            refine AWP.cond rfl (fun hb => ?_) (fun hb => ?_)
            · simp only [hb, cond_true] at hz5
              iterate 3 refine rS ?_
              exact ⟨_, [4], hlt5, wt, hz5, sm⟩
            · simp only [hb, cond_false] at hz5
              iterate 2 refine rS ?_
              exact ⟨_, [2], hlt5, wt, hz5, sm⟩
        · obtain rfl : i5 = ((a0.Group.getD i4 default)).toNat := ot
          rw [loopR_ge (Nat.le_refl _)] at hz5; subst hz5; dsimp only at hz4
          refine AWP.exit ?_; refine exitTo_here ?_
          refine rS ?_
          exact ⟨_, [0], hlt4, by (have h9 := hg9 i4; omega), hz4, sm⟩
      · obtain rfl : i4 = a0.Group.length := ot
        rw [loopR_ge (Nat.le_refl _)] at hz4; subst hz4; dsimp only at hR
        refine AWP.exit ?_; refine exitTo_here ?_
        refine rS ?_
        refine AWP.cond rfl (fun hb => ?_) (fun hb => ?_)
        · replace hR := ct hR
          iterate 2 refine rS ?_
          refine AWP.ret ?_
          subst hR
          exact es
        · replace hR := cf hR
          refine rS ?_
          refine AWP.ret ?_
          subst hR
          exact es
end N178
def D_spec_l05Times : DF
  | [x0] => some (ownL 2 1 eIi64 (spec_l05Times (rdP dCharacter x0)), false, [wP eCharacter dCharacter x0, bdCharacter (rdP dCharacter x0), (rdP dCharacter x0).Group.length ≤ 4, ∀ v ∈ (rdP dCharacter x0).Group, v ≤ 9, (rdP dCharacter x0).Kind = 8 → (rdP dCharacter x0).Letter.length = 1 ∧ 65 ≤ ((rdP dCharacter x0).Letter.getD 0 0).toNat ∧ ((rdP dCharacter x0).Letter.getD 0 0).toNat ≤ 90])
  | _ => none
def Dz_spec_l05Times : DF
  | [x0] => some (ownL 2 1 eIi64 (spec_l05Times (rdP dCharacter x0)), true, [wP eCharacter dCharacter x0, bdCharacter (rdP dCharacter x0), (rdP dCharacter x0).Group.length ≤ 4, ∀ v ∈ (rdP dCharacter x0).Group, v ≤ 9, (rdP dCharacter x0).Kind = 8 → (rdP dCharacter x0).Letter.length = 1 ∧ 65 ≤ ((rdP dCharacter x0).Letter.getD 0 0).toNat ∧ ((rdP dCharacter x0).Letter.getD 0 0).toNat ≤ 90])
  | _ => none
theorem D_spec_l05Times_ok : OkD Tryz.prog 178 D_spec_l05Times := by unfold D_spec_l05Times; exact dk N178.den
theorem Dz_spec_l05Times_ok : OkD Tryz.prog 178 Dz_spec_l05Times := by unfold Dz_spec_l05Times; exact dk N178.den
end Go.Ab

namespace Go.Ab
open Go Go.Proofs
def spec_l05Rest (a0 : Character) : Int :=
  (bif (a0.Kind == 6) then 20 else (bif (a0.Kind == 7) then 10 else (bif (a0.Kind == 8) then 30 else (bif decide (1 < (a0.Group.length : Int)) then IntKind.wrap .i64 ((IntKind.wrap .i64 ((spec_l05Gap a0.Kind) + 5)) + 20) else IntKind.wrap .i64 ((spec_l05Gap a0.Kind) + 5)))))
namespace N179
theorem DD : DOk Tryz.prog (Go.Ab.DD [(207, dP D_spec_l05Gap)]) := DD_cons D_spec_l05Gap_ok.e <| DD_nil _
theorem dn : type_of% (@D_spec_l05Gap.eq_1) := by and_intros <;> intros <;> rfl
theorem den (a0 : Character)  : Den Tryz.prog 179 [.ep (eCharacter a0)] (.int .i64 (spec_l05Rest a0)) := by
  generalize hR : spec_l05Rest a0 = r
  unfold spec_l05Rest at hR
  refine di Tryz.func179 Tryz.ntmps179 Tryz.results179 ?_
  intro c hL hc hk
  obtain ⟨hL0, _⟩ := hL
  have hw0 : bwCharacter a0 := Character_lens a0 hL0
  clear hL0
  simp only [pars, Nat.zero_add]
  iterate 3 refine rS ?_
  refine AWP.cond rfl (fun hb => ?_) (fun hb => ?_)
  · replace hR := ct hR
    refine rS ?_
    refine AWP.ret ?_
    subst hR
    exact es
  · replace hR := cf hR
    refine rS ?_
    refine AWP.cond rfl (fun hb => ?_) (fun hb => ?_)
    · replace hR := ct hR
      refine rS ?_
      refine AWP.ret ?_
      subst hR
      exact es
    · replace hR := cf hR
      refine rS ?_
      refine AWP.cond rfl (fun hb => ?_) (fun hb => ?_)
      · replace hR := ct hR
        refine rS ?_
        refine AWP.ret ?_
        subst hR
        exact es
      · replace hR := cf hR
        iterate 2 refine rS ?_
        refine AWP.cond rfl (fun hb => ?_) (fun hb => ?_)
        · replace hR := ct hR
          iterate 2 refine rS ?_
          refine AWP.ret ?_
          subst hR
          exact es
        · replace hR := cf hR
          refine rS ?_
          refine AWP.ret ?_
          subst hR
          exact es
end N179
def D_spec_l05Rest : DF
  | [x0] => some (.int .i64 (spec_l05Rest (rdP dCharacter x0)), false, [wP eCharacter dCharacter x0])
  | _ => none
theorem D_spec_l05Rest_ok : OkD Tryz.prog 179 D_spec_l05Rest := by unfold D_spec_l05Rest; exact dk N179.den
end Go.Ab

namespace Go.Ab
open Go Go.Proofs
def spec_l05Least (a0 : Character) : Int :=
  (bif (spec_l05Steady a0) then 0 else (bif (a0.Kind == 3) then 20 else IntKind.wrap .i64 ((spec_l05Total (spec_l05Times a0)) + (spec_l05Rest a0))))
namespace N129
theorem DD : DOk Tryz.prog (Go.Ab.DD [(128, dP D_spec_l05Steady), (177, dP D_spec_l05Total), (178, dP D_spec_l05Times), (179, dP D_spec_l05Rest)]) := DD_cons D_spec_l05Steady_ok.e <| DD_cons D_spec_l05Total_ok.e <| DD_cons D_spec_l05Times_ok.e <| DD_cons D_spec_l05Rest_ok.e <| DD_nil _
theorem dn : type_of% (And.intro @D_spec_l05Steady.eq_1 <| And.intro @D_spec_l05Total.eq_1 <| And.intro @D_spec_l05Times.eq_1 <| @D_spec_l05Rest.eq_1) := by and_intros <;> intros <;> rfl
theorem den (a0 : Character) (hb0 : bdCharacter a0) (hp0 : a0.Group.length ≤ 4) (hp1 : ∀ v ∈ a0.Group, v ≤ 9) (hp2 : a0.Kind = 8 → a0.Letter.length = 1 ∧ 65 ≤ (a0.Letter.getD 0 0).toNat ∧ (a0.Letter.getD 0 0).toNat ≤ 90) : Den Tryz.prog 129 [.ep (eCharacter a0)] (.int .i64 (spec_l05Least a0)) := by
  generalize hR : spec_l05Least a0 = r
  unfold spec_l05Least at hR
  refine di Tryz.func129 Tryz.ntmps129 Tryz.results129 ?_
  intro c hL hc hk
  obtain ⟨hL0, _⟩ := hL
  have hw0 : bwCharacter a0 := Character_lens a0 hL0
  clear hL0
  simp only [pars, Nat.zero_add]
  iterate 2 refine rS ?_
  refine AWP.cond rfl (fun hb => ?_) (fun hb => ?_)
  · replace hR := ct hR
    refine rS ?_
    refine AWP.ret ?_
    subst hR
    exact es
  · replace hR := cf hR
    refine rS ?_
    refine AWP.cond rfl (fun hb => ?_) (fun hb => ?_)
    · replace hR := ct hR
      refine rS ?_
      refine AWP.ret ?_
      subst hR
      exact es
    · replace hR := cf hR
      refine rS ?_
      refine AWP.ret ?_
      subst hR
      exact es
end N129
def D_spec_l05Least : DF
  | [x0] => some (.int .i64 (spec_l05Least (rdP dCharacter x0)), false, [wP eCharacter dCharacter x0, bdCharacter (rdP dCharacter x0), (rdP dCharacter x0).Group.length ≤ 4, ∀ v ∈ (rdP dCharacter x0).Group, v ≤ 9, (rdP dCharacter x0).Kind = 8 → (rdP dCharacter x0).Letter.length = 1 ∧ 65 ≤ ((rdP dCharacter x0).Letter.getD 0 0).toNat ∧ ((rdP dCharacter x0).Letter.getD 0 0).toNat ≤ 90])
  | _ => none
theorem D_spec_l05Least_ok : OkD Tryz.prog 129 D_spec_l05Least := by unfold D_spec_l05Least; exact dk N129.den
end Go.Ab

namespace Go.Ab
open Go Go.Proofs
def spec_l05Ok (a0 : Character) : Bool :=
  (bif (!(spec_l05Shape a0)) then false else (bif (spec_l05Steady a0) then (a0.Period == 0) else (bif ((a0.Kind == 3) && ((a0.Period.tmod 2) != 0)) then false else (spec_l00In a0.Period (spec_l05Least a0) 600))))
namespace N86
theorem DD : DOk Tryz.prog (Go.Ab.DD [(127, dP D_spec_l05Shape), (128, dP D_spec_l05Steady), (129, dP D_spec_l05Least), (98, dP D_spec_l00In)]) := DD_cons D_spec_l05Shape_ok.e <| DD_cons D_spec_l05Steady_ok.e <| DD_cons D_spec_l05Least_ok.e <| DD_cons D_spec_l00In_ok.e <| DD_nil _
theorem dn : type_of% (And.intro @D_spec_l05Shape.eq_1 <| And.intro @D_spec_l05Steady.eq_1 <| And.intro @D_spec_l05Least.eq_1 <| @D_spec_l00In.eq_1) := by and_intros <;> intros <;> rfl
theorem ol : type_of% (@spec_l00In.eq_1) := @spec_l00In.eq_1
theorem o0 {p : Prop} (h : p := by (first | (have q9 := ‹(!spec_l05Shape a0) = false›; have h9 := shape_grp a0 (by simpa using q9); first | exact ⟨hb0, h9.1, fun v hv => (h9.2.1 v hv).2, h9.2.2⟩ | exact ⟨h9.1, fun v hv => (h9.2.1 v hv).2, h9.2.2⟩ | (and_intros <;> first | exact hb0 | exact h9.1 | exact fun v hv => (h9.2.1 v hv).2 | exact h9.2.2 | decide | (intros; decide)))); first | done | fail) : p := h
theorem den (a0 : Character) (hb0 : bdCharacter a0) : Den Tryz.prog 86 [.ep (eCharacter a0)] (.bool (spec_l05Ok a0)) := by
  generalize hR : spec_l05Ok a0 = r
  unfold spec_l05Ok at hR
  refine di Tryz.func86 Tryz.ntmps86 Tryz.results86 ?_
  intro c hL hc hk
  obtain ⟨hL0, _⟩ := hL
  have hw0 : bwCharacter a0 := Character_lens a0 hL0
  clear hL0
  simp only [pars, Nat.zero_add]
  iterate 2 refine rS ?_
  refine AWP.cond rfl (fun hb => ?_) (fun hb => ?_)
  · replace hR := ct hR
    refine rS ?_
    refine AWP.ret ?_
    subst hR
    exact es
  · replace hR := cf hR
    refine rS ?_
    refine AWP.cond rfl (fun hb => ?_) (fun hb => ?_)
    · replace hR := ct hR
      refine rS ?_
      refine AWP.ret ?_
      subst hR
      exact es
    · replace hR := cf hR
      refine rS ?_
      refine AWP.cond rfl (fun hb => ?_) (fun hb => ?_)
      · replace hR := ct hR
        refine rS ?_
        refine AWP.ret ?_
        subst hR
        exact es
      · replace hR := cf hR
        refine rD 6 ?_
        refine AWP.ret ?_
        subst hR
        exact es
end N86
def D_spec_l05Ok : DF
  | [x0] => some (.bool (spec_l05Ok (rdP dCharacter x0)), false, [wP eCharacter dCharacter x0, bdCharacter (rdP dCharacter x0)])
  | _ => none
theorem D_spec_l05Ok_ok : OkD Tryz.prog 86 D_spec_l05Ok := by unfold D_spec_l05Ok; exact dk N86.den
end Go.Ab

namespace Go.Ab
open Go Go.Proofs
theorem group_eq (g : List Int) : impl_isGroup g = spec_l05Group g := Bool.eq_iff_iff.2 ((isGroup_iff g).trans (l05Group_iff g).symm)
theorem signs_ne (a : List UInt8) : (impl_signsOf a != []) = decide (a.length = 1 ∧ 65 ≤ (a.getD 0 0).toNat ∧ (a.getD 0 0).toNat ≤ 90) := by
  rw [signs_eq]
  by_cases h : a.length = 1 ∧ 65 ≤ (a.getD 0 0).toNat ∧ (a.getD 0 0).toNat ≤ 90
  · rw [if_pos h, decide_eq_true h]
    have hlt : (a.getD 0 0).toNat - 65 < codesL.length := by show _ < 26; omega
    rw [List.getD_eq_getElem?_getD, List.getElem?_eq_getElem hlt, Option.getD_some]
    have := (codes_all _ (List.getElem_mem hlt)).1
    rw [bne_iff_ne]
    intro h2; rw [h2] at this; simp at this
  · rw [if_neg h, decide_eq_false h]; rfl
theorem quick_eq (L : List UInt8) (g : List Int) :
    (bif (L == []) then (((g.length : Int) == 0) || (((g.length : Int) == 1) && (impl_within (g.getD 0 default) 2 9))) else ((L == [76]) && (slices_Equal_int64 g [6]))) =
    (bif (L == [76]) then (((g.length : Int) == 1) && ((g.getD 0 default) == 6)) else (((L == []) && decide ((g.length : Int) ≤ 1)) && (spec_l05Group g))) := by
  by_cases h1 : L = []
  · subst h1
    simp only [show (([] : List UInt8) == []) = true from rfl, show (([] : List UInt8) == [76]) = false from rfl, cond_true, cond_false, Bool.true_and]
    apply Bool.eq_iff_iff.2
    rw [Bool.and_eq_true, l05Group_iff, decide_eq_true_eq]
    match g with
    | [] => simp [GrpOk]
    | [x] =>
      have e : ((([x] : List Int).length : Int) == 0) = false := rfl
      have e2 : ((([x] : List Int).length : Int) == 1) = true := rfl
      rw [e, e2]
      simp only [Bool.false_or, Bool.true_and, impl_within, Bool.and_eq_true, decide_eq_true_eq, List.getD_cons_zero, GrpOk, List.length_singleton, List.mem_singleton, forall_eq, List.sum_cons, List.sum_nil, ne_eq, List.cons.injEq, and_true]
      omega
    | x :: y :: t =>
      have e : (((x :: y :: t).length : Int) == 0) = false := by rw [beq_eq_false_iff_ne]; simp only [List.length_cons]; omega
      have e2 : (((x :: y :: t).length : Int) == 1) = false := by rw [beq_eq_false_iff_ne]; simp only [List.length_cons]; omega
      rw [e, e2]
      simp only [Bool.false_and, Bool.or_self, Bool.false_eq_true, false_iff, List.length_cons]
      omega
  · have e1 : (L == []) = false := by simpa using h1
    rw [e1]
    by_cases h2 : L = [76]
    · subst h2
      simp only [BEq.rfl, cond_true, cond_false, Bool.true_and, equal_dec]
      apply Bool.eq_iff_iff.2
      rw [Bool.and_eq_true, decide_eq_true_eq, beq_iff_eq, beq_iff_eq]
      constructor
      · intro h; subst h; simp
      · rintro ⟨h3, h4⟩
        obtain ⟨x, rfl⟩ := List.length_eq_one_iff.1 (show g.length = 1 by omega)
        simp only [List.getD_cons_zero] at h4
        rw [h4]
    · have e2 : (L == [76]) = false := by simpa using h2
      rw [e2]; simp
theorem shape_eq (c : Character) (hl : c.Colors.length < 9223372036854775808) : spec_l05Shape c = (impl_areCharacterColors c.Colors && impl_Character_fits c) := by
  unfold spec_l05Shape impl_Character_fits spec_l05Kind spec_l00In
  rw [colors_eq _ hl, ← quick_eq, group_eq, signs_ne]
  cases spec_l05Colors c.Colors with
  | false => simp
  | true =>
    simp only [Bool.not_true, Bool.or_false, Bool.true_and]
    rcases (show c.Kind = 1 ∨ c.Kind = 2 ∨ c.Kind = 3 ∨ c.Kind = 4 ∨ c.Kind = 5 ∨ c.Kind = 6 ∨ c.Kind = 7 ∨ c.Kind = 8 ∨ (c.Kind < 1 ∨ 8 < c.Kind) by omega) with h | h | h | h | h | h | h | h | h
    · rw [h]; rfl
    · rw [h]; rfl
    · rw [h]; rfl
    · rw [h]; rfl
    · rw [h]; rfl
    · rw [h]; rfl
    · rw [h]; rfl
    · rw [h]
      show ((((((c.Group.length : Int) == 0) && ((c.Letter.length : Int) == 1)) && decide (65 ≤ ((c.Letter.getD 0 0).toNat : Int))) && decide (((c.Letter.getD 0 0).toNat : Int) ≤ 90))) = (decide (c.Letter.length = 1 ∧ 65 ≤ (c.Letter.getD 0 0).toNat ∧ (c.Letter.getD 0 0).toNat ≤ 90) && ((c.Group.length : Int) == 0))
      apply Bool.eq_iff_iff.2
      simp only [Bool.and_eq_true, beq_iff_eq, decide_eq_true_eq]
      omega
    · have e0 : (decide (1 ≤ c.Kind) && decide (c.Kind ≤ 8)) = false := by
        rw [Bool.and_eq_false_iff, decide_eq_false_iff_not, decide_eq_false_iff_not]; omega
      have e : ∀ n : Int, 1 ≤ n → n ≤ 8 → (c.Kind == n) = false := fun n h1 h2 => by rw [beq_eq_false_iff_ne]; omega
      rw [e0, e 1 (by omega) (by omega), e 2 (by omega) (by omega), e 3 (by omega) (by omega), e 4 (by omega) (by omega), e 5 (by omega) (by omega), e 6 (by omega) (by omega), e 7 (by omega) (by omega), e 8 (by omega) (by omega)]
      rfl
theorem sum_eq (l : List Int) : impl_sumOf l = spec_l05Total l := rfl
theorem steady_eq (c : Character) : impl_Character_isSteady c = spec_l05Steady c := rfl
theorem letter_eq (c : Character) (h : impl_Character_fits c = true) (h8 : c.Kind ≠ 8) : (c.Letter != []) = (c.Letter == [76]) := by
  unfold impl_Character_fits at h
  simp only [Bool.cond_eq_ite] at h
  have e8 : (c.Kind == 8) = false := by rw [beq_eq_false_iff_ne]; exact h8
  repeat' split at h
  all_goals first
    | (rename_i q; rw [e8] at q; cases q; done)
    | (cases h; done)
    | (simp only [Bool.and_eq_true, beq_iff_eq] at h; rw [h.2]; rfl)
    | (simp only [Bool.and_eq_true, beq_iff_eq] at h; rw [h.1]; rfl)
    | (rename_i q; simp only [beq_iff_eq] at q; rw [q]; rfl)
theorem rhythm_eq (k : Int) (h : k = 2 ∨ k = 4 ∨ k = 5 ∨ k = 6 ∨ k = 7 ∨ k = 8) : (impl_rhythm k).1 = spec_l05Flash k ∧ (impl_rhythm k).2.1 = spec_l05Gap k := by
  rcases h with h | h | h | h | h | h <;> subst h <;> exact ⟨rfl, rfl⟩
theorem times_eq (c : Character) (h : impl_Character_fits c = true) (hk : c.Kind = 2 ∨ c.Kind = 4 ∨ c.Kind = 5 ∨ c.Kind = 6 ∨ c.Kind = 7 ∨ c.Kind = 8) : impl_Character_times c = spec_l05Times c := by
  obtain ⟨r1, r2⟩ := rhythm_eq c.Kind hk
  by_cases h8 : c.Kind = 8
  · have hs : (impl_signsOf c.Letter != []) = true := by
      unfold impl_Character_fits at h
      rw [h8] at h
      have h : (((impl_signsOf c.Letter) != []) && ((c.Group.length : Int) == 0)) = true := h
      rw [Bool.and_eq_true] at h
      exact h.1
    rw [signs_ne, decide_eq_true_eq] at hs
    have e1 := signs_eq c.Letter
    rw [if_pos hs] at e1
    have e2 := l05Morse_eq ((c.Letter.getD 0 0).toNat : Int)
    rw [u8_wrap _ (by omega) (by omega), show ((((c.Letter.getD 0 0).toNat : Int) - 65).toNat) = (c.Letter.getD 0 0).toNat - 65 by omega] at e2
    have hd : (default : List UInt8) = [] := rfl
    rw [hd] at e2
    have hall : ∀ x ∈ codesL.getD ((c.Letter.getD 0 0).toNat - 65) [], x = 45 ∨ x = 46 := by
      have hlt : (c.Letter.getD 0 0).toNat - 65 < codesL.length := by show _ < 26; omega
      rw [List.getD_eq_getElem?_getD, List.getElem?_eq_getElem hlt, Option.getD_some]
      exact (codes_all _ (List.getElem_mem hlt)).2.2
    generalize codesL.getD ((c.Letter.getD 0 0).toNat - 65) [] = code at *
    have hb : loopR (impl_Character_times_b1 c) code.length 0 [] = loopR (spec_l05Times_b1 c) code.length 0 [] := loopR_same _ _ _ (fun j u _ hj => by
      unfold impl_Character_times_b1 spec_l05Times_b1
      rw [e1, e2, r1, r2, h8]
      have hg : (code.map (fun c => if c = 46 then (5 : Int) else 15)).getD j default = if code.getD j 0 = 46 then 5 else 15 := by
        rw [List.getD_eq_getElem?_getD, List.getD_eq_getElem?_getD, List.getElem?_map, List.getElem?_eq_getElem (by omega)]
        rfl
      rw [hg]
      have hm := hall (code.getD j 0) (by rw [List.getD_eq_getElem?_getD, List.getElem?_eq_getElem (by omega), Option.getD_some]; exact List.getElem_mem _)
      generalize code.getD j 0 = x at hm
      rcases hm with hm | hm <;> subst hm <;> rfl)
    unfold impl_Character_times spec_l05Times
    rw [h8, e1, e2]
    simp only [List.length_map, Nat.sub_zero]
    rw [hb]
    rfl
  · have e8 : (c.Kind == 8) = false := by rw [beq_eq_false_iff_ne]; exact h8
    unfold impl_Character_times spec_l05Times
    rw [e8, letter_eq c h h8, r2]
    have b3 : impl_Character_times_b3 c = spec_l05Times_b3 c := by
      funext i s j t
      unfold impl_Character_times_b3 spec_l05Times_b3
      rw [r1, r2]
    have b5 : impl_Character_times_b5 c = spec_l05Times_b5 c := by
      funext i s j t
      unfold impl_Character_times_b5 spec_l05Times_b5
      rw [r1, r2]
    have b2 : impl_Character_times_b2 c = spec_l05Times_b2 c := by
      funext i s
      unfold impl_Character_times_b2 spec_l05Times_b2
      rw [b3]
      all_goals rfl
    have b4 : impl_Character_times_b4 c = spec_l05Times_b4 c := by
      funext i s
      unfold impl_Character_times_b4 spec_l05Times_b4
      rw [b5]
      all_goals rfl
    rw [b2, b4]
    rfl
theorem least_eq (c : Character) (h : impl_Character_fits c = true) (hs : impl_Character_isSteady c = false) : impl_Character_leastPeriod c = spec_l05Least c := by
  unfold impl_Character_leastPeriod spec_l05Least
  rw [hs, ← steady_eq, hs]
  simp only [cond_false]
  by_cases h3 : c.Kind = 3
  · rw [h3]; rfl
  · have e3 : (c.Kind == 3) = false := by rw [beq_eq_false_iff_ne]; exact h3
    rw [e3]
    simp only [cond_false]
    have hk : c.Kind = 2 ∨ c.Kind = 4 ∨ c.Kind = 5 ∨ c.Kind = 6 ∨ c.Kind = 7 ∨ c.Kind = 8 := by
      unfold impl_Character_fits at h
      unfold impl_Character_isSteady at hs
      simp only [Bool.cond_eq_ite] at h
      simp only [Bool.or_eq_false_iff, beq_eq_false_iff_ne] at hs
      repeat' split at h
      all_goals (try simp only [beq_iff_eq] at *)
      all_goals first | omega | (cases h; done)
    rw [times_eq c h hk, sum_eq]
    have hg := (fits_grp c h).1
    have hone : c.Kind = 6 ∨ c.Kind = 7 ∨ c.Kind = 8 → c.Group.length ≤ 1 := by
      intro hq
      unfold impl_Character_fits at h
      simp only [Bool.cond_eq_ite] at h
      repeat' split at h
      all_goals (try simp only [Bool.and_eq_true, Bool.or_eq_true, beq_iff_eq, equal_dec, decide_eq_true_eq] at *)
      all_goals first | omega | (rcases h with h | h <;> omega) | (rw [h.2]; simp)
    have e1 : ∀ n : Int, IntKind.wrap .i64 n = n ∨ True := fun _ => .inr trivial
    unfold spec_l05Rest
    rcases hk with hk | hk | hk | hk | hk | hk
    · rw [hk]
      cases decide (1 < (c.Group.length : Int)) <;> rfl
    · rw [hk]
      cases decide (1 < (c.Group.length : Int)) <;> rfl
    · rw [hk]
      cases decide (1 < (c.Group.length : Int)) <;> rfl
    · have := hone (by omega)
      rw [hk, decide_eq_false (show ¬ 1 < (c.Group.length : Int) by omega)]; rfl
    · have := hone (by omega)
      rw [hk, decide_eq_false (show ¬ 1 < (c.Group.length : Int) by omega)]; rfl
    · have := hone (by omega)
      rw [hk, decide_eq_false (show ¬ 1 < (c.Group.length : Int) by omega)]; rfl
theorem valid_eq (c : Character) (hl : c.Colors.length < 9223372036854775808) : impl_ValidCharacter c = spec_l05Ok c := by
  unfold impl_ValidCharacter spec_l05Ok
  rw [shape_eq c hl, ← steady_eq]
  cases h1 : impl_areCharacterColors c.Colors with
  | false => rfl
  | true =>
    cases h2 : impl_Character_fits c with
    | false => rfl
    | true =>
      cases h3 : impl_Character_isSteady c with
      | true => rfl
      | false =>
        rw [least_eq c h2 h3]
        simp only [Bool.not_true, Bool.or_self, Bool.and_self, cond_false, impl_within, spec_l00In]
        cases h4 : (c.Kind == 3) with
        | false =>
          have : (c.Kind != 3) = true := by rw [bne, h4]; rfl
          rw [this]; simp
        | true =>
          have : (c.Kind != 3) = false := by rw [bne, h4]; rfl
          rw [this]
          simp only [Bool.false_or, Bool.true_and]
          cases h5 : (c.Period.tmod 2 == 0) with
          | true =>
            have : (c.Period.tmod 2 != 0) = false := by rw [bne, h5]; rfl
            rw [this]; simp
          | false =>
            have : (c.Period.tmod 2 != 0) = true := by rw [bne, h5]; rfl
            rw [this]; simp
end Go.Ab

namespace Go.Ab
open Go Go.Proofs
def InR (s : List Int) : Prop := ∀ v ∈ s, 0 ≤ v ∧ v ≤ 100
theorem InR.app {s t : List Int} (h1 : InR s) (h2 : InR t) : InR (s ++ t) := fun v hv => (List.mem_append.1 hv).elim (h1 v) (h2 v)
theorem InR.one {x : Int} (h1 : 0 ≤ x) (h2 : x ≤ 100) : InR [x] := fun v hv => by rw [List.mem_singleton] at hv; subst hv; exact ⟨h1, h2⟩
theorem InR.nil : InR [] := fun v hv => by simp at hv
theorem flash_rng (k : Int) : 0 ≤ spec_l05Flash k ∧ spec_l05Flash k ≤ 100 := by
  unfold spec_l05Flash
  simp only [Bool.cond_eq_ite]
  repeat' split
  all_goals omega
theorem gap_rng (k : Int) : 0 ≤ spec_l05Gap k ∧ spec_l05Gap k ≤ 20 := by
  unfold spec_l05Gap
  simp only [Bool.cond_eq_ite]
  repeat' split
  all_goals omega
theorem gapw_rng (k : Int) : 0 ≤ IntKind.wrap .i64 (spec_l05Gap k + 20) ∧ IntKind.wrap .i64 (spec_l05Gap k + 20) ≤ 100 := by
  have := gap_rng k
  rw [IntKind.wrap_i64]; omega
theorem times_rng (c : Character) (h1 : c.Group.length ≤ 4) (h2 : ∀ v ∈ c.Group, 1 ≤ v ∧ v ≤ 9) : InR (spec_l05Times c) ∧ (spec_l05Times c).length ≤ 80 := by
  have hf := flash_rng c.Kind
  have hg := gap_rng c.Kind
  have hw := gapw_rng c.Kind
  unfold spec_l05Times
  cases hk : (c.Kind == 8) with
  | true =>
    simp only [cond_true]
    have hm : (spec_l05Morse ((c.Letter.getD 0 0).toNat : Int)).length ≤ 4 := morse_len _
    have hmr : ∀ j, 0 ≤ (spec_l05Morse ((c.Letter.getD 0 0).toNat : Int)).getD j default ∧ (spec_l05Morse ((c.Letter.getD 0 0).toNat : Int)).getD j default ≤ 100 := by
      intro j
      rw [l05Morse_eq, List.getD_eq_getElem?_getD, List.getElem?_map]
      cases (codesL.getD (IntKind.wrap .u8 (((c.Letter.getD 0 0).toNat : Int) - 65)).toNat default)[j]? with
      | none => show (0 : Int) ≤ 0 ∧ (0 : Int) ≤ 100; omega
      | some x => simp only [Option.map_some, Option.getD_some]; split <;> omega
    obtain ⟨t, q1, q2, q3⟩ := loopR_total (b := spec_l05Times_b1 c) (fun i s => InR s ∧ s.length ≤ 2 * i) (k := (spec_l05Morse ((c.Letter.getD 0 0).toNat : Int)).length - 0) (i := 0) (s := []) ⟨InR.nil, by simp⟩ (fun j u _ _ h => by
      unfold spec_l05Times_b1
      cases decide (0 < (j : Int)) with
      | true => exact ⟨_, rfl, (h.1.app (InR.one (by omega) (by omega))).app (InR.one (hmr j).1 (hmr j).2), by simp only [List.length_append, List.length_singleton]; omega⟩
      | false => exact ⟨_, rfl, h.1.app (InR.one (hmr j).1 (hmr j).2), by simp only [List.length_append, List.length_singleton]; omega⟩)
    rw [q1]
    exact ⟨q2, by simp only; omega⟩
  | false =>
    simp only [cond_false]
    have hend : ∀ s : List Int, InR s → s.length ≤ 72 → InR (bif (c.Letter == [76]) then s ++ [spec_l05Gap c.Kind, 20] else s) ∧ (bif (c.Letter == [76]) then s ++ [spec_l05Gap c.Kind, 20] else s).length ≤ 80 := by
      intro s h3 h4
      cases (c.Letter == [76]) with
      | true => exact ⟨h3.app (fun v hv => by simp only [List.mem_cons, List.not_mem_nil, or_false] at hv; rcases hv with h | h <;> subst h <;> omega), by simp only [cond_true, List.length_append, List.length_cons, List.length_nil]; omega⟩
      | false => exact ⟨h3, by simp only [cond_false]; omega⟩
    cases hz : ((c.Group.length : Int) == 0) with
    | true =>
      simp only [cond_true]
      obtain ⟨t, q1, q2, q3⟩ := loopR_total (b := spec_l05Times_b2 c) (fun i s => InR s ∧ s.length ≤ 18 * i) (k := 1 - 0) (i := 0) (s := []) ⟨InR.nil, by simp⟩ (fun j u _ hj h => by
        unfold spec_l05Times_b2
        have hj0 : j = 0 := by omega
        obtain ⟨t, q1, q2, q3⟩ := loopR_total (b := spec_l05Times_b3 c j u) (fun i s => InR s ∧ s.length ≤ 18 * j + 2 * i) (k := (([1] : List Int).getD j default).toNat - 0) (i := 0) (s := u) ⟨h.1, by omega⟩ (fun i w _ hi h => by
          unfold spec_l05Times_b3
          cases decide (0 < (i : Int)) with
          | true => exact ⟨_, rfl, (h.1.app (InR.one hg.1 (by omega))).app (InR.one hf.1 hf.2), by simp only [List.length_append, List.length_singleton]; omega⟩
          | false =>
            cases decide (0 < (j : Int)) with
            | true => exact ⟨_, rfl, (h.1.app (InR.one hw.1 hw.2)).app (InR.one hf.1 hf.2), by simp only [List.length_append, List.length_singleton]; omega⟩
            | false => exact ⟨_, rfl, h.1.app (InR.one hf.1 hf.2), by simp only [List.length_append, List.length_singleton]; omega⟩)
        rw [q1]
        subst hj0
        exact ⟨t, rfl, q2, by simp only [List.getD_cons_zero] at q3; omega⟩)
      rw [q1]
      exact hend t q2 (by omega)
    | false =>
      simp only [cond_false]
      obtain ⟨t, q1, q2, q3⟩ := loopR_total (b := spec_l05Times_b4 c) (fun i s => InR s ∧ s.length ≤ 18 * i) (k := c.Group.length - 0) (i := 0) (s := []) ⟨InR.nil, by simp⟩ (fun j u _ hj h => by
        unfold spec_l05Times_b4
        have hgj := getD_rng h2 j
        obtain ⟨t, q1, q2, q3⟩ := loopR_total (b := spec_l05Times_b5 c j u) (fun i s => InR s ∧ s.length ≤ 18 * j + 2 * i) (k := (c.Group.getD j default).toNat - 0) (i := 0) (s := u) ⟨h.1, by omega⟩ (fun i w _ hi h => by
          unfold spec_l05Times_b5
          cases decide (0 < (i : Int)) with
          | true => exact ⟨_, rfl, (h.1.app (InR.one hg.1 (by omega))).app (InR.one hf.1 hf.2), by simp only [List.length_append, List.length_singleton]; omega⟩
          | false =>
            cases decide (0 < (j : Int)) with
            | true => exact ⟨_, rfl, (h.1.app (InR.one hw.1 hw.2)).app (InR.one hf.1 hf.2), by simp only [List.length_append, List.length_singleton]; omega⟩
            | false => exact ⟨_, rfl, h.1.app (InR.one hf.1 hf.2), by simp only [List.length_append, List.length_singleton]; omega⟩)
        rw [q1]
        exact ⟨t, rfl, q2, by omega⟩)
      rw [q1]
      exact hend t q2 (by omega)
theorem total_nn (l : List Int) (h : InR l) (hl : l.length ≤ 80) : 0 ≤ spec_l05Total l ∧ spec_l05Total l ≤ 8000 := by
  unfold spec_l05Total
  obtain ⟨t, q1, q2, q3⟩ := loopR_total (b := spec_l05Total_b1 l) (fun i s => 0 ≤ s ∧ s ≤ 100 * i) (k := l.length - 0) (i := 0) (s := 0) ⟨by omega, by omega⟩ (fun j u _ hj hI => by
    have hx : 0 ≤ l.getD j default ∧ l.getD j default ≤ 100 := by
      rw [List.getD_eq_getElem?_getD, List.getElem?_eq_getElem (by omega), Option.getD_some]
      exact h _ (List.getElem_mem _)
    refine ⟨_, rfl, ?_⟩
    rw [IntKind.wrap_i64]; omega)
  rw [q1]
  exact ⟨q2, by simp only; omega⟩
theorem least_nn2 (c : Character) (h : impl_Character_fits c = true) (hs : impl_Character_isSteady c = false) : 0 < spec_l05Least c := by
  obtain ⟨g1, g2⟩ := fits_grp c h
  obtain ⟨t1, t2⟩ := times_rng c g1 g2
  have t3 := total_nn _ t1 t2
  have hg := gap_rng c.Kind
  unfold spec_l05Least
  rw [← steady_eq, hs]
  simp only [cond_false]
  cases (c.Kind == 3) with
  | true => simp
  | false =>
    simp only [cond_false]
    have hr : 0 < spec_l05Rest c ∧ spec_l05Rest c ≤ 100 := by
      unfold spec_l05Rest
      simp only [Bool.cond_eq_ite]
      repeat' split
      all_goals (try rw [IntKind.wrap_i64]); (try rw [IntKind.wrap_i64]); omega
    rw [IntKind.wrap_i64]; omega
end Go.Ab
