/- A part of a proof: walks of functions and lemmas of our own. No conditions. -/
import Derived.Test.YtaneiddiakjgdaaGreatDoorTAl
import Derived.Test.YtaneiddiakjgdaaGreatDoorTAp
import Derived.Test.YtaneiddiakjgdaaGreatDoorTAt
import Derived.Test.YtaneiddiakjgdaaGreatDoorTAr
import Derived.Test.YtaneiddiakjgdaaGreatDoorTAs
import Derived.Test.YtaneiddiakjgdaaGreatDoorTAi
import Derived.Test.YtaneiddiakjgdaaGreatDoorTAq
import Derived.Test.YtaneiddiakjgdaaGreatDoorTAk
import Derived.Test.YtaneiddiakjgdaaGreatDoorTAn
import Derived.Test.YtaneiddiakjgdaaGreatDoorTAo
set_option linter.unusedSectionVars false
set_option linter.unusedVariables false
set_option linter.unusedSimpArgs false
set_option maxHeartbeats 1000000
namespace Go.Ab
open Go Go.Proofs
def impl_ValidAids_b1 (a0 : (List Aid)) (i1 : Nat) (s1 : Unit) : Except (Bool) (Unit) :=
  (bif ((!(impl_ValidAid (a0.getD i1 default))) || (decide (0 < (i1 : Int)) && decide (((a0.getD i1 default).Number) ≤ ((a0.getD ((IntKind.wrap .i64 ((i1 : Int) - 1)).toNat) default).Number)))) then .error false else .ok ())
def impl_ValidAids (a0 : (List Aid)) : Bool :=
  (match loopR (impl_ValidAids_b1 a0) (a0.length - 0) 0 () with | .error e => e | .ok s1 => (impl_few (a0.length : Int) 24))
namespace N79
theorem DD : DOk Tryz.prog (Go.Ab.DD [(112, dP D_impl_few), (93, dP D_impl_ValidAid)]) := DD_cons D_impl_few_ok.e <| DD_cons D_impl_ValidAid_ok.e <| DD_nil _
theorem dn : type_of% (And.intro @D_impl_few.eq_1 <| @D_impl_ValidAid.eq_1) := by and_intros <;> intros <;> rfl
theorem den (a0 : (List Aid)) (hb0 : a0.length < 1099511627776) (hb1 : ∀ v ∈ a0, bdAid v) : Den Tryz.prog 79 [encL 16 eAid a0] (.bool (impl_ValidAids a0)) := by
  generalize hR : impl_ValidAids a0 = r
  unfold impl_ValidAids at hR
  refine di Tryz.func79 Tryz.ntmps79 Tryz.results79 ?_
  intro c hL hc hk
  obtain ⟨hL0, _⟩ := hL
  have hw0 : a0.length < 9223372036854775808 := Nat.lt_succ_of_le (lens_encL hL0).1
  have hw1 : ∀ v ∈ a0, bwAid v := fun v hv => Aid_lens v ((lens_encL hL0).2 v hv)
  clear hL0
  simp only [pars, Nat.zero_add]
  iterate 2 refine rS ?_
  refine AWP.block ?_
  generalize hz1 : loopR (impl_ValidAids_b1 a0) (a0.length - 0) 0 () = z1 at hR
  refine AWP.range (impl_ValidAids_b1 a0) (fun i1 s1 => ⟨[(0, encL 16 eAid a0), (5, encL 16 eAid a0), (6, .int .i64 (a0.length : Int)), (7, .int .i64 (i1 : Int))], []⟩) (fun i1 s1 => True) (a0.length) 0 () [] hz1 ot wt sm ?_
  clear hz1
  intro i1 s1 hi1 hW1 hz1
  refine rS ?_
  refine AWP.seq ?_
  refine AWP.cond rfl (fun hb => ?_) (fun hb => ?_)
  · have hlt1 : i1 < a0.length := ot
    rw [loopR_lt hlt1] at hz1; simp only [impl_ValidAids_b1] at hz1
    refine rS ?_
    refine rD 18 ?_
    refine AWP.cond rfl (fun hb => ?_) (fun hb => ?_)
    · simp only [hb, cond_true] at hz1
      refine rS ?_
      refine AWP.ret ?_
      subst hz1
      dsimp only at hR
      subst hR
      exact es
    · simp only [hb, cond_false] at hz1
      refine rS ?_
      exact ⟨_, [], hlt1, wt, hz1, sm⟩
  · obtain rfl : i1 = a0.length := ot
    rw [loopR_ge (Nat.le_refl _)] at hz1; subst hz1; dsimp only at hR
    refine AWP.exit ?_; refine exitTo_here ?_
    refine rS ?_
    refine AWP.ret ?_
    subst hR
    exact es
end N79
def D_impl_ValidAids : DF
  | [x0] => some (.bool (impl_ValidAids (rdL dAid x0)), false, [wL 16 eAid dAid x0, (rdL dAid x0).length < 1099511627776, ∀ v ∈ (rdL dAid x0), bdAid v])
  | _ => none
theorem D_impl_ValidAids_ok : OkD Tryz.prog 79 D_impl_ValidAids := by unfold D_impl_ValidAids; exact dk N79.den
end Go.Ab

namespace Go.Ab
open Go Go.Proofs
def spec_l12One (a0 : Aid) : Bool :=
  (bif (((((!(spec_l00In a0.Number 1 9999)) || (!(spec_l01Name a0.Name))) || (!(spec_l02Ok a0.At))) || (!(spec_l00In a0.Height 0 3000))) || (!(spec_ValidMark a0.Mark))) then false else (bif (spec_l12Plain a0.Light) then (((a0.Sectors.length : Int) == 0) && (a0.Intensity == 0)) else (bif (((!(spec_l05Ok a0.Light)) || (!(spec_l00In a0.Intensity 1 100000000))) || (!(spec_l08Ok a0.Sectors))) then false else (bif ((a0.Sectors.length : Int) == 0) then ((a0.Light.Colors.length : Int) == 1) else ((spec_l08Colors a0.Sectors) == a0.Light.Colors)))))
namespace N87
theorem DD : DOk Tryz.prog (Go.Ab.DD [(137, dP D_spec_l00In), (148, dP D_spec_l01Name), (149, dP D_spec_l02Ok), (150, dP D_spec_ValidMark), (151, dP D_spec_l12Plain), (152, dP D_spec_l05Ok), (153, dP D_spec_l08Ok), (154, dP D_spec_l08Colors)]) := DD_cons D_spec_l00In_ok.e <| DD_cons D_spec_l01Name_ok.e <| DD_cons D_spec_l02Ok_ok.e <| DD_cons D_spec_ValidMark_ok.e <| DD_cons D_spec_l12Plain_ok.e <| DD_cons D_spec_l05Ok_ok.e <| DD_cons D_spec_l08Ok_ok.e <| DD_cons D_spec_l08Colors_ok.e <| DD_nil _
theorem dn : type_of% (And.intro @D_spec_l00In.eq_1 <| And.intro @D_spec_l01Name.eq_1 <| And.intro @D_spec_l02Ok.eq_1 <| And.intro @D_spec_ValidMark.eq_1 <| And.intro @D_spec_l12Plain.eq_1 <| And.intro @D_spec_l05Ok.eq_1 <| And.intro @D_spec_l08Ok.eq_1 <| @D_spec_l08Colors.eq_1) := by and_intros <;> intros <;> rfl
theorem ol : type_of% (@spec_l00In.eq_1) := @spec_l00In.eq_1
theorem den (a0 : Aid) (hb0 : bdAid a0) : Den Tryz.prog 87 [.ep (eAid a0)] (.bool (spec_l12One a0)) := by
  generalize hR : spec_l12One a0 = r
  unfold spec_l12One at hR
  refine di Tryz.func87 Tryz.ntmps87 Tryz.results87 ?_
  intro c hL hc hk
  obtain ⟨hL0, _⟩ := hL
  have hw0 : bwAid a0 := Aid_lens a0 hL0
  clear hL0
  simp only [pars, Nat.zero_add]
  iterate 2 refine rS ?_
  refine AWP.cond rfl (fun hb => ?_) (fun hb => ?_)
  · replace hR := ct hR
    refine rS ?_
    refine AWP.ret ?_
    subst hR
    exact es
  · replace hR := cf hR
    refine rS ?_
    refine AWP.cond rfl (fun hb => ?_) (fun hb => ?_)
    · replace hR := ct hR
      refine rS ?_
      refine AWP.ret ?_
      subst hR
      exact es
    · replace hR := cf hR
      refine rS ?_
      refine AWP.cond rfl (fun hb => ?_) (fun hb => ?_)
      · replace hR := ct hR
        refine rS ?_
        refine AWP.ret ?_
        subst hR
        exact es
      · replace hR := cf hR
        refine rS ?_
        refine AWP.cond rfl (fun hb => ?_) (fun hb => ?_)
        · replace hR := ct hR
          refine rS ?_
          refine AWP.ret ?_
          subst hR
          exact es
        · replace hR := cf hR
          refine rD 11 ?_
          refine AWP.ret ?_
          subst hR
          exact es
end N87
def D_spec_l12One : DF
  | [x0] => some (.bool (spec_l12One (rdP dAid x0)), false, [wP eAid dAid x0, bdAid (rdP dAid x0)])
  | _ => none
theorem D_spec_l12One_ok : OkD Tryz.prog 87 D_spec_l12One := by unfold D_spec_l12One; exact dk N87.den
end Go.Ab

namespace Go.Ab
open Go Go.Proofs
def spec_l12Ok_b1 (a0 : (List Aid)) (i1 : Nat) (s1 : Unit) : Except (Bool) (Unit) :=
  (bif ((!(spec_l12One (a0.getD i1 default))) || (decide (0 < (i1 : Int)) && decide (((a0.getD i1 default).Number) ≤ ((a0.getD ((IntKind.wrap .i64 ((i1 : Int) - 1)).toNat) default).Number)))) then .error false else .ok ())
def spec_l12Ok (a0 : (List Aid)) : Bool :=
  (match loopR (spec_l12Ok_b1 a0) (a0.length - 0) 0 () with | .error e => e | .ok s1 => decide ((a0.length : Int) ≤ 24))
namespace N77
theorem DD : DOk Tryz.prog (Go.Ab.DD [(87, dP D_spec_l12One)]) := DD_cons D_spec_l12One_ok.e <| DD_nil _
theorem dn : type_of% (@D_spec_l12One.eq_1) := by and_intros <;> intros <;> rfl
theorem den (a0 : (List Aid)) (hb0 : a0.length < 1099511627776) (hb1 : ∀ v ∈ a0, bdAid v) : Den Tryz.prog 77 [encL 16 eAid a0] (.bool (spec_l12Ok a0)) := by
  generalize hR : spec_l12Ok a0 = r
  unfold spec_l12Ok at hR
  refine di Tryz.func77 Tryz.ntmps77 Tryz.results77 ?_
  intro c hL hc hk
  obtain ⟨hL0, _⟩ := hL
  have hw0 : a0.length < 9223372036854775808 := Nat.lt_succ_of_le (lens_encL hL0).1
  have hw1 : ∀ v ∈ a0, bwAid v := fun v hv => Aid_lens v ((lens_encL hL0).2 v hv)
  clear hL0
  simp only [pars, Nat.zero_add]
  iterate 2 refine rS ?_
  refine AWP.block ?_
  generalize hz1 : loopR (spec_l12Ok_b1 a0) (a0.length - 0) 0 () = z1 at hR
  refine AWP.range (spec_l12Ok_b1 a0) (fun i1 s1 => ⟨[(0, encL 16 eAid a0), (3, .int .i64 (i1 : Int))], []⟩) (fun i1 s1 => True) (a0.length) 0 () [] hz1 ot wt sm ?_
  clear hz1
  intro i1 s1 hi1 hW1 hz1
  refine rS ?_
  refine AWP.cond rfl (fun hb => ?_) (fun hb => ?_)
  · have hlt1 : i1 < a0.length := ot
    rw [loopR_lt hlt1] at hz1; simp only [spec_l12Ok_b1] at hz1
    refine rD 23 ?_
    refine AWP.cond rfl (fun hb => ?_) (fun hb => ?_)
    · simp only [hb, cond_true] at hz1
      refine rS ?_
      refine AWP.ret ?_
      subst hz1
      dsimp only at hR
      subst hR
      exact es
    · simp only [hb, cond_false] at hz1
      refine rS ?_
      exact ⟨_, [], hlt1, wt, hz1, sm⟩
  · obtain rfl : i1 = a0.length := ot
    rw [loopR_ge (Nat.le_refl _)] at hz1; subst hz1; dsimp only at hR
    refine AWP.exit ?_; refine exitTo_here ?_
    refine rS ?_
    refine AWP.ret ?_
    subst hR
    exact es
end N77
def D_spec_l12Ok : DF
  | [x0] => some (.bool (spec_l12Ok (rdL dAid x0)), false, [wL 16 eAid dAid x0, (rdL dAid x0).length < 1099511627776, ∀ v ∈ (rdL dAid x0), bdAid v])
  | _ => none
theorem D_spec_l12Ok_ok : OkD Tryz.prog 77 D_spec_l12Ok := by unfold D_spec_l12Ok; exact dk N77.den
end Go.Ab

namespace Go.Ab
open Go Go.Proofs
theorem plain_not (c : Character) (h : spec_l12Plain c = true) : impl_ValidCharacter c = false := by
  unfold spec_l12Plain at h
  simp only [Bool.and_eq_true, beq_iff_eq] at h
  obtain ⟨⟨⟨⟨h1, h2⟩, h3⟩, h4⟩, h5⟩ := h
  cases c
  simp only at h1 h2 h3 h4 h5
  rename_i k g l cs p
  have hg : g = [] := List.length_eq_zero_iff.1 (by omega)
  subst h1 hg h3 h4 h5
  decide
theorem unlit_eq (a : Aid) : impl_Aid_unlit a = ((spec_l12Plain a.Light && ((a.Sectors.length : Int) == 0)) && (a.Intensity == 0)) := by
  unfold impl_Aid_unlit impl_SameCharacter spec_l12Plain
  rw [same_int64_dec]
  have : decide (a.Light.Group = []) = ((a.Light.Group.length : Int) == 0) := by
    cases a.Light.Group with
    | nil => rfl
    | cons x l => simp; omega
  rw [this]
theorem validAid_eq (a : Aid) (hl : a.Light.Colors.length < 9223372036854775808) (hs : a.Sectors.length < 9223372036854775807) : impl_ValidAid a = spec_l12One a := by
  unfold impl_ValidAid spec_l12One
  rw [unlit_eq]
  unfold impl_Aid_lit
  rw [validSectors_eq a.Sectors hs, secColors_eq, validMark_eq, name_eq]
  have e1 : impl_isNumber a.Number = spec_l00In a.Number 1 9999 := rfl
  have e2 : impl_ValidPoint a.At = spec_l02Ok a.At := rfl
  have e3 : impl_isHeight a.Height = spec_l00In a.Height 0 3000 := rfl
  have e4 : impl_isIntensity a.Intensity = spec_l00In a.Intensity 1 100000000 := rfl
  rw [e1, e2, e3, e4]
  cases hp : spec_l12Plain a.Light with
  | true =>
    rw [plain_not _ hp]
    simp only [Bool.not_false, Bool.true_or, cond_true, Bool.true_and, Bool.false_or]
    cases spec_l00In a.Number 1 9999 <;> cases spec_l01Name a.Name <;> cases spec_l02Ok a.At <;> cases spec_l00In a.Height 0 3000 <;> cases spec_ValidMark a.Mark <;> rfl
  | false =>
    rw [valid_eq a.Light hl]
    simp only [Bool.false_and, Bool.or_false, cond_false]
    cases spec_l00In a.Number 1 9999 <;> cases spec_l01Name a.Name <;> cases spec_l02Ok a.At <;> cases spec_l00In a.Height 0 3000 <;> cases spec_ValidMark a.Mark <;> rfl
theorem validAids_eq (l : List Aid) (h : ∀ v ∈ l, v.Light.Colors.length < 9223372036854775808 ∧ v.Sectors.length < 9223372036854775807) : impl_ValidAids l = spec_l12Ok l := by
  unfold impl_ValidAids spec_l12Ok
  rw [loopR_same (b := impl_ValidAids_b1 l) (b' := spec_l12Ok_b1 l) (l.length - 0) 0 () (fun j u _ hj => by
    have := bd_getD (p := fun v : Aid => v.Light.Colors.length < 9223372036854775808 ∧ v.Sectors.length < 9223372036854775807) h ⟨by decide, by decide⟩ j
    simp only [impl_ValidAids_b1, spec_l12Ok_b1, validAid_eq _ this.1 this.2])]
  rfl
end Go.Ab

namespace Go.Ab
open Go Go.Proofs
theorem l12Ok_len {a : List Aid} (h : spec_l12Ok a = true) : a.length ≤ 24 := by
  unfold spec_l12Ok at h
  split at h
  · rename_i e he
    obtain ⟨j, t, _, _, h3⟩ := loopR_error he
    simp only [spec_l12Ok_b1, Bool.cond_eq_ite] at h3
    split at h3
    · cases h3; cases h
    · cases h3
  · have := of_decide_eq_true h; omega
theorem vAids_len {a : List Aid} (h : impl_ValidAids a = true) : a.length ≤ 24 := by
  unfold impl_ValidAids at h
  split at h
  · rename_i e he
    obtain ⟨j, t, _, _, h3⟩ := loopR_error he
    simp only [impl_ValidAids_b1, Bool.cond_eq_ite] at h3
    split at h3
    · cases h3; cases h
    · cases h3
  · unfold impl_few at h; have := of_decide_eq_true h; omega
end Go.Ab

namespace Go.Ab
open Go Go.Proofs
theorem own_loop {ρ α : Type} [Inhabited α] (l : List α) (b : Nat → List α → Except ρ (List α)) (hb : ∀ i s, b i s = .ok (s ++ [l.getD i default])) : loopR b (l.length - 0) 0 ([] : List α) = .ok l := by
  obtain ⟨t, h1, h2⟩ := loopR_total (b := b) (fun i s => s = l.take i) (k := l.length - 0) (i := 0) (s := []) (by simp) (by
    intro j u _ hj h
    subst h
    exact ⟨_, hb j _, (take_succ_getD l j (by omega)).symm⟩)
  rw [h1, h2]
  simp
theorem copyAid_id (a : Aid) : impl_copyAid a = a := by simp [impl_copyAid, impl_clone_int64, impl_clone_Sector]
theorem copyAids_id (l : List Aid) : impl_copyAids l = l := by
  unfold impl_copyAids
  rw [show (List.replicate 0 (default : Aid)) = [] from rfl, own_loop l (impl_copyAids_b1 l) (fun i s => by simp only [impl_copyAids_b1, copyAid_id])]
theorem ownAid_id (a : Aid) : spec_l12Own a = a := by simp [spec_l12Own, spec_l05Own, spec_l00Own]
theorem ownAids_id (l : List Aid) : spec_l12OwnAll l = l := by
  unfold spec_l12OwnAll
  rw [own_loop l (spec_l12OwnAll_b1 l) (fun i s => by simp only [spec_l12OwnAll_b1, ownAid_id])]
end Go.Ab

namespace Go.Ab
open Go Go.Proofs
def impl_AddAid (a0 : (List Aid)) (a1 : Aid) : ((List Aid) × Int) :=
  (bif ((!(impl_ValidAids a0)) || (!(impl_ValidAid a1))) then ([], 1) else (bif (impl_aidOf a0 a1.Number).2 then ([], 4) else (bif ((a0.length : Int) == 24) then ([], 5) else (((slices_Insert_Aid (impl_copyAids a0) ((impl_aidOf a0 a1.Number).1) [impl_copyAid a1])), 0))))
namespace N34
theorem DD : DOk Tryz.prog (Go.Ab.DD [(79, dP D_impl_ValidAids), (81, dP D_impl_copyAid), (93, dP D_impl_ValidAid), (94, dP D_impl_aidOf), (95, dM [true, false, true] D_slices_Insert_Aid), (96, dP D_impl_copyAids)]) := DD_cons D_impl_ValidAids_ok.e <| DD_cons D_impl_copyAid_ok.e <| DD_cons D_impl_ValidAid_ok.e <| DD_cons D_impl_aidOf_ok.e <| DD_cons D_slices_Insert_Aid_ok.e <| DD_cons D_impl_copyAids_ok.e <| DD_nil _
theorem dn : type_of% (And.intro @D_impl_ValidAids.eq_1 <| And.intro @D_impl_copyAid.eq_1 <| And.intro @D_impl_ValidAid.eq_1 <| And.intro @D_impl_aidOf.eq_1 <| And.intro @D_slices_Insert_Aid.eq_1 <| @D_impl_copyAids.eq_1) := by and_intros <;> intros <;> rfl
theorem ol : type_of% (@copyAids_id) := @copyAids_id
theorem gr {p : Prop} (h : p := by (grind [vAids_len, impl_aidOf_ix]); first | done | fail) : p := h
theorem o1 {p : Prop} (h : p := by (first | (have h9 := vAids_len (a := a0) (by simp_all); simp only [ob, ln, ol] at *; omega)); first | done | fail) : p := h
theorem den (a0 : (List Aid)) (a1 : Aid) (hb0 : a0.length < 1099511627776) (hb1 : ∀ v ∈ a0, bdAid v) (hb2 : bdAid a1) : Den Tryz.prog 34 [encL 16 eAid a0, .agg (eAid a1)] (.tup [ownL 63 16 eAidO ((impl_AddAid a0 a1).1), .int .i64 ((impl_AddAid a0 a1).2)]) := by
  generalize hR : impl_AddAid a0 a1 = r
  unfold impl_AddAid at hR
  refine di Tryz.func34 Tryz.ntmps34 Tryz.results34 ?_
  intro c hL hc hk
  obtain ⟨hL0, hL1, _⟩ := hL
  have hw0 : a0.length < 9223372036854775808 := Nat.lt_succ_of_le (lens_encL hL0).1
  have hw1 : ∀ v ∈ a0, bwAid v := fun v hv => Aid_lens v ((lens_encL hL0).2 v hv)
  have hw2 : bwAid a1 := Aid_lens a1 hL1
  clear hL0 hL1
  simp only [pars, Nat.zero_add]
  have hix := impl_aidOf_ix a0 a1.Number hw0
  iterate 2 refine rS ?_
  refine AWP.cond rfl (fun hb => ?_) (fun hb => ?_)
  · replace hR := ct hR
    refine rS ?_
    refine AWP.ret ?_
    subst hR
    exact es
  · replace hR := cf hR
    iterate 2 refine rS ?_
    refine AWP.cond rfl (fun hb => ?_) (fun hb => ?_)
    · replace hR := ct hR
      refine rS ?_
      refine AWP.ret ?_
      subst hR
      exact es
    · replace hR := cf hR
      refine rS ?_
      refine AWP.cond rfl (fun hb => ?_) (fun hb => ?_)
      · replace hR := ct hR
        refine rS ?_
        refine AWP.ret ?_
        subst hR
        exact es
      · replace hR := cf hR
        refine AWP.skip ?_
        refine AWP.seq ?_
        refine AWP.regP mixed G_ok DD hc 6 [0, 2, 3] (.alt 1 [] [2, 3] (.alt 4 [] [2] (.alt 5 [] [2] .leaf .stop) .stop) .stop) (by kernel_rfl) (by kernel_rfl) (by kernel_rfl) (fun K hK => ?_); simp only [rootP, runN, runP, recheck, nthO, ea, absV, absVL, cput, gv, sv, dn, reduceCtorEq, reduceIte, Nat.reduceBEq, Nat.reduceAdd, Nat.reduceEqDiff, Nat.reduceLT, Nat.reduceLeDiff, Nat.reduceMul, Nat.reduceSub, BEq.rfl, beq_self_eq_true, Int.reduceToNat]
        repeat' apply And.intro
        all_goals first | refine hK _ ?_ | exact ot
        all_goals clear hK K
        refine AWP.ret ?_
        subst hR
        exact es
end N34
def D_impl_AddAid : DF
  | [x0, x1] => some (.tup [ownL 63 16 eAidO ((impl_AddAid (rdL dAid x0) (rdG dAid x1)).1), .int .i64 ((impl_AddAid (rdL dAid x0) (rdG dAid x1)).2)], false, [wL 16 eAid dAid x0, wG eAid dAid x1, (rdL dAid x0).length < 1099511627776, ∀ v ∈ (rdL dAid x0), bdAid v, bdAid (rdG dAid x1)])
  | _ => none
def Dz_impl_AddAid : DF
  | [x0, x1] => some (.tup [ownL 63 16 eAidO ((impl_AddAid (rdL dAid x0) (rdG dAid x1)).1), .int .i64 ((impl_AddAid (rdL dAid x0) (rdG dAid x1)).2)], true, [wL 16 eAid dAid x0, wG eAid dAid x1, (rdL dAid x0).length < 1099511627776, ∀ v ∈ (rdL dAid x0), bdAid v, bdAid (rdG dAid x1)])
  | _ => none
theorem D_impl_AddAid_ok : OkD Tryz.prog 34 D_impl_AddAid := by unfold D_impl_AddAid; exact dk N34.den
theorem Dz_impl_AddAid_ok : OkD Tryz.prog 34 Dz_impl_AddAid := by unfold Dz_impl_AddAid; exact dk N34.den
end Go.Ab

namespace Go.Ab
open Go Go.Proofs
def spec_l12Put_b1 (a0 : (List Aid)) (a1 : Aid) (s1 : Int) : Except (Sum (((List Aid) × Int)) (Int)) (Int) :=
  (bif (decide (s1 < (a0.length : Int)) && decide (((a0.getD ((s1).toNat) default).Number) < a1.Number)) then .ok (IntKind.wrap .i64 (s1 + 1)) else .error (.inr s1))
def spec_l12Put (a0 : (List Aid)) (a1 : Aid) : ((List Aid) × Int) :=
  (match loopW (spec_l12Put_b1 a0 a1) ((a0.length - ((0 : Int)).toNat) + 1) 0 with | .error (.inl e) => e | .error (.inr s1) => (bif (decide (s1 < (a0.length : Int)) && (((a0.getD ((s1).toNat) default).Number) == a1.Number)) then ([], 4) else (bif ((a0.length : Int) == 24) then ([], 5) else (((spec_l12OwnAll (subL a0 0 ((s1).toNat))) ++ [spec_l12Own a1]) ++ (spec_l12OwnAll (subL a0 ((s1).toNat) (a0.length - (s1).toNat))), 0))) | .ok _ => default)
namespace N88
theorem DD : DOk Tryz.prog (Go.Ab.DD [(106, dP D_spec_l12Own), (155, dP D_spec_l12OwnAll)]) := DD_cons D_spec_l12Own_ok.e <| DD_cons D_spec_l12OwnAll_ok.e <| DD_nil _
theorem dn : type_of% (And.intro @D_spec_l12Own.eq_1 <| @D_spec_l12OwnAll.eq_1) := by and_intros <;> intros <;> rfl
theorem ol : type_of% (@ownAids_id) := @ownAids_id
theorem den (a0 : (List Aid)) (a1 : Aid) (hb0 : a0.length < 1099511627776) (hb1 : ∀ v ∈ a0, bdAid v) (hb2 : bdAid a1) (hp0 : a0.length ≤ 1073741824) : Den Tryz.prog 88 [encL 16 eAid a0, .ep (eAid a1)] (.tup [ownL 63 16 eAidO ((spec_l12Put a0 a1).1), .int .i64 ((spec_l12Put a0 a1).2)]) := by
  generalize hR : spec_l12Put a0 a1 = r
  unfold spec_l12Put at hR
  refine di Tryz.func88 Tryz.ntmps88 Tryz.results88 ?_
  intro c hL hc hk
  obtain ⟨hL0, hL1, _⟩ := hL
  have hw0 : a0.length < 9223372036854775808 := Nat.lt_succ_of_le (lens_encL hL0).1
  have hw1 : ∀ v ∈ a0, bwAid v := fun v hv => Aid_lens v ((lens_encL hL0).2 v hv)
  have hw2 : bwAid a1 := Aid_lens a1 hL1
  clear hL0 hL1
  simp only [pars, Nat.zero_add]
  iterate 2 refine rS ?_
  refine AWP.seq ?_
  refine AWP.block ?_
  generalize hz1 : loopW (spec_l12Put_b1 a0 a1) ((a0.length - ((0 : Int)).toNat) + 1) 0 = z1 at hR
  refine AWP.whileW (spec_l12Put_b1 a0 a1) (fun s1 => ⟨[(0, encL 16 eAid a0), (1, .ep (eAid a1)), (6, .int .i64 s1)], []⟩) (fun s1 => 0 ≤ s1 ∧ s1 ≤ a0.length) (fun s1 => a0.length - (s1).toNat) ((a0.length - ((0 : Int)).toNat) + 1) 0 [] hz1 m0 wt sm ?_
  clear hz1
  intro s1 k1 hW1 hm1 hz1
  simp only [spec_l12Put_b1] at hz1
  refine rD 16 ?_
  refine AWP.cond rfl (fun hb => ?_) (fun hb => ?_)
  · simp only [hb, cond_true] at hz1
    refine rS ?_
    exact ⟨_, [], ms, wt, hz1, sm⟩
  · simp only [hb, cond_false] at hz1
    refine AWP.exit ?_
    refine exitTo_here ?_
    subst hz1; dsimp only at hR
    refine rD 16 ?_
    refine AWP.cond rfl (fun hb => ?_) (fun hb => ?_)
    · replace hR := ct hR
      refine rS ?_
      refine AWP.ret ?_
      subst hR
      exact es
    · replace hR := cf hR
      refine rS ?_
      refine AWP.cond rfl (fun hb => ?_) (fun hb => ?_)
      · replace hR := ct hR
        refine rS ?_
        refine AWP.ret ?_
        subst hR
        exact es
      · replace hR := cf hR
        iterate 3 refine rS ?_
        refine AWP.ret ?_
        subst hR
        exact es
end N88
def D_spec_l12Put : DF
  | [x0, x1] => some (.tup [ownL 63 16 eAidO ((spec_l12Put (rdL dAid x0) (rdP dAid x1)).1), .int .i64 ((spec_l12Put (rdL dAid x0) (rdP dAid x1)).2)], false, [wL 16 eAid dAid x0, wP eAid dAid x1, (rdL dAid x0).length < 1099511627776, ∀ v ∈ (rdL dAid x0), bdAid v, bdAid (rdP dAid x1), (rdL dAid x0).length ≤ 1073741824])
  | _ => none
def Dz_spec_l12Put : DF
  | [x0, x1] => some (.tup [ownL 63 16 eAidO ((spec_l12Put (rdL dAid x0) (rdP dAid x1)).1), .int .i64 ((spec_l12Put (rdL dAid x0) (rdP dAid x1)).2)], true, [wL 16 eAid dAid x0, wP eAid dAid x1, (rdL dAid x0).length < 1099511627776, ∀ v ∈ (rdL dAid x0), bdAid v, bdAid (rdP dAid x1), (rdL dAid x0).length ≤ 1073741824])
  | _ => none
theorem D_spec_l12Put_ok : OkD Tryz.prog 88 D_spec_l12Put := by unfold D_spec_l12Put; exact dk N88.den
theorem Dz_spec_l12Put_ok : OkD Tryz.prog 88 Dz_spec_l12Put := by unfold Dz_spec_l12Put; exact dk N88.den
end Go.Ab

namespace Go.Ab
open Go Go.Proofs
def spec_AddAid (a0 : (List Aid)) (a1 : Aid) : ((List Aid) × Int) :=
  (bif ((!(spec_l12Ok a0)) || (!(spec_l12One a1))) then ([], 1) else ((spec_l12Put a0 a1).1, (spec_l12Put a0 a1).2))
namespace N32
theorem DD : DOk Tryz.prog (Go.Ab.DD [(77, dP D_spec_l12Ok), (87, dP D_spec_l12One), (88, dP D_spec_l12Put)]) := DD_cons D_spec_l12Ok_ok.e <| DD_cons D_spec_l12One_ok.e <| DD_cons D_spec_l12Put_ok.e <| DD_nil _
theorem dn : type_of% (And.intro @D_spec_l12Ok.eq_1 <| And.intro @D_spec_l12One.eq_1 <| @D_spec_l12Put.eq_1) := by and_intros <;> intros <;> rfl
theorem gr {p : Prop} (h : p := by (grind [l12Ok_len]); first | done | fail) : p := h
theorem den (a0 : (List Aid)) (a1 : Aid) (hb0 : a0.length < 1099511627776) (hb1 : ∀ v ∈ a0, bdAid v) (hb2 : bdAid a1) : Den Tryz.prog 32 [encL 16 eAid a0, .agg (eAid a1)] (.tup [ownL 63 16 eAidO ((spec_AddAid a0 a1).1), .int .i64 ((spec_AddAid a0 a1).2)]) := by
  generalize hR : spec_AddAid a0 a1 = r
  unfold spec_AddAid at hR
  refine di Tryz.func32 Tryz.ntmps32 Tryz.results32 ?_
  intro c hL hc hk
  obtain ⟨hL0, hL1, _⟩ := hL
  have hw0 : a0.length < 9223372036854775808 := Nat.lt_succ_of_le (lens_encL hL0).1
  have hw1 : ∀ v ∈ a0, bwAid v := fun v hv => Aid_lens v ((lens_encL hL0).2 v hv)
  have hw2 : bwAid a1 := Aid_lens a1 hL1
  clear hL0 hL1
  simp only [pars, Nat.zero_add]
  iterate 2 refine rS ?_
  refine AWP.cond rfl (fun hb => ?_) (fun hb => ?_)
  · replace hR := ct hR
    refine rS ?_
    refine AWP.ret ?_
    subst hR
    exact es
  · replace hR := cf hR
    refine rS ?_
    refine AWP.ret ?_
    subst hR
    exact es
end N32
def D_spec_AddAid : DF
  | [x0, x1] => some (.tup [ownL 63 16 eAidO ((spec_AddAid (rdL dAid x0) (rdG dAid x1)).1), .int .i64 ((spec_AddAid (rdL dAid x0) (rdG dAid x1)).2)], false, [wL 16 eAid dAid x0, wG eAid dAid x1, (rdL dAid x0).length < 1099511627776, ∀ v ∈ (rdL dAid x0), bdAid v, bdAid (rdG dAid x1)])
  | _ => none
def Dz_spec_AddAid : DF
  | [x0, x1] => some (.tup [ownL 63 16 eAidO ((spec_AddAid (rdL dAid x0) (rdG dAid x1)).1), .int .i64 ((spec_AddAid (rdL dAid x0) (rdG dAid x1)).2)], true, [wL 16 eAid dAid x0, wG eAid dAid x1, (rdL dAid x0).length < 1099511627776, ∀ v ∈ (rdL dAid x0), bdAid v, bdAid (rdG dAid x1)])
  | _ => none
theorem D_spec_AddAid_ok : OkD Tryz.prog 32 D_spec_AddAid := by unfold D_spec_AddAid; exact dk N32.den
theorem Dz_spec_AddAid_ok : OkD Tryz.prog 32 Dz_spec_AddAid := by unfold Dz_spec_AddAid; exact dk N32.den
end Go.Ab

namespace Go.Ab
open Go Go.Proofs
def aidL (v : Aid) : Prop := v.Light.Colors.length < 9223372036854775808 ∧ v.Sectors.length < 9223372036854775807
theorem subL_take {α : Type} [Inhabited α] (l : List α) (n : Nat) (h : n ≤ l.length) : subL l 0 n = l.take n := by
  apply getD_ext
  · simp [subL, h]
  · intro i hi
    have hi : i < n := by simpa [subL] using hi
    simp only [subL, Nat.zero_add]
    rw [List.getD_eq_getElem?_getD, List.getD_eq_getElem?_getD, List.getElem?_map, List.getElem?_range hi, List.getElem?_take, if_pos hi]
    simp [List.getD_eq_getElem?_getD]
theorem subL_drop {α : Type} [Inhabited α] (l : List α) (n : Nat) (h : n ≤ l.length) : subL l n (l.length - n) = l.drop n := by
  apply getD_ext
  · simp [subL]
  · intro i hi
    have hi : i < l.length - n := by simpa [subL] using hi
    simp only [subL]
    rw [List.getD_eq_getElem?_getD, List.getD_eq_getElem?_getD, List.getElem?_map, List.getElem?_range hi, List.getElem?_drop]
    simp [List.getD_eq_getElem?_getD]
theorem put_upto (l : List Aid) (a : Aid) (hl : l.length < 9223372036854775808) : loopW (spec_l12Put_b1 l a) ((l.length - ((0 : Int)).toNat) + 1) 0 = .error (.inr (upto l a.Number : Int)) := by
  have := up_loop l a.Number hl (spec_l12Put_b1 l a) (fun s => rfl) l [] (l.length - (0 : Int).toNat + 1) rfl (by simp)
  simp only [List.length_nil, Nat.zero_add] at this
  have e0 : ((0 : Nat) : Int) = 0 := rfl
  simp only [e0] at this
  exact this
def putA (l : List Aid) (a : Aid) : List Aid := l.take (upto l a.Number) ++ [a] ++ l.drop (upto l a.Number)
theorem l12Put_eq (l : List Aid) (a : Aid) (hl : l.length < 9223372036854775808) :
    spec_l12Put l a = bif (decide (upto l a.Number < l.length) && ((l.getD (upto l a.Number) default).Number == a.Number)) then ([], 4) else (bif ((l.length : Int) == 24) then ([], 5) else (putA l a, 0)) := by
  unfold spec_l12Put
  rw [put_upto l a hl]
  have hu := upto_le l a.Number
  have e : (decide ((upto l a.Number : Int) < (l.length : Int)) && ((l.getD ((upto l a.Number : Int)).toNat default).Number == a.Number)) = (decide (upto l a.Number < l.length) && ((l.getD (upto l a.Number) default).Number == a.Number)) := by
    rw [Int.toNat_natCast]
    congr 1
    exact decide_eq_decide.2 (by omega)
  simp only [ownAids_id, ownAid_id]
  rw [e]
  simp only [Int.toNat_natCast]
  rw [subL_take l _ hu, subL_drop l _ hu]
  rfl
theorem addAid_eq (l : List Aid) (a : Aid) (hl : l.length < 9223372036854775808) (hv : ∀ v ∈ l, aidL v) (ha : aidL a) : impl_AddAid l a = spec_AddAid l a := by
  unfold impl_AddAid spec_AddAid
  rw [validAids_eq l hv, validAid_eq a ha.1 ha.2]
  cases hb : ((!(spec_l12Ok l)) || (!(spec_l12One a))) with
  | true => rfl
  | false =>
    simp only [cond_false]
    rw [l12Put_eq l a hl, aidOf_eq l _ hl]
    simp only [copyAids_id, copyAid_id]
    unfold slices_Insert_Aid
    simp only [Int.toNat_natCast]
    cases (decide (upto l a.Number < l.length) && ((l.getD (upto l a.Number) default).Number == a.Number)) with
    | true => rfl
    | false =>
      simp only [cond_false]
      cases ((l.length : Int) == 24) <;> rfl
theorem addAid_all (l : List Aid) (a : Aid) (P : Aid → Prop) (hl : l.length < 9223372036854775808) (hv : ∀ v ∈ l, P v) (ha : P a) : (∀ v ∈ (spec_AddAid l a).1, P v) ∧ (spec_AddAid l a).1.length ≤ l.length + 1 := by
  unfold spec_AddAid
  cases hb : ((!(spec_l12Ok l)) || (!(spec_l12One a))) with
  | true => exact ⟨fun v hv => by simp at hv, by simp⟩
  | false =>
    simp only [cond_false]
    rw [l12Put_eq l a hl]
    cases (decide (upto l a.Number < l.length) && ((l.getD (upto l a.Number) default).Number == a.Number)) with
    | true => exact ⟨fun v hv => by simp at hv, by simp⟩
    | false =>
      simp only [cond_false]
      cases ((l.length : Int) == 24) with
      | true => exact ⟨fun v hv => by simp at hv, by simp⟩
      | false =>
        simp only [cond_false, putA]
        refine ⟨fun v h => ?_, by simp; omega⟩
        simp only [List.mem_append, List.mem_singleton] at h
        rcases h with (h | h) | h
        · exact hv v (List.mem_of_mem_take h)
        · subst h; exact ha
        · exact hv v (List.mem_of_mem_drop h)
end Go.Ab

namespace Go.Ab
open Go Go.Proofs
theorem l00Same_eq (a b : List Int) : spec_l00Same a b = impl_same_int64 a b := rfl
theorem sameSectors_eq (a b : List Sector) : spec_SameSectors a b = impl_same_Sector a b := rfl
theorem sect_step (a b : Sector) : (a.From == b.From && (a.To == b.To && a.Color == b.Color)) = decide (a = b) := by
  cases a; cases b
  apply Bool.eq_iff_iff.2
  simp [Sector.mk.injEq]
theorem same_Sector_dec (a b : List Sector) : impl_same_Sector a b = decide (a = b) := by
  unfold impl_same_Sector
  by_cases hl : a.length = b.length
  · have h1 : ((a.length : Int) != (b.length : Int)) = false := by simp [hl]
    rw [h1, cond_false, loopR_any (b := impl_same_Sector_b1 a b) (fun j => !decide (a.getD j default = b.getD j default)) false (fun j u _ _ => by simp only [impl_same_Sector_b1, sect_step])]
    simp only [Nat.sub_zero, Nat.zero_add]
    rw [any_ne a b hl]
    by_cases h : a = b <;> simp [h]
  · have h1 : ((a.length : Int) != (b.length : Int)) = true := by simp; omega
    have h2 : ¬ a = b := fun e => hl (by rw [e])
    rw [h1, cond_true, decide_eq_false h2]
end Go.Ab

namespace Go.Ab
open Go Go.Proofs
def impl_ReplaceAid (a0 : (List Aid)) (a1 : Aid) : ((List Aid) × Int) :=
  (bif ((!(impl_ValidAids a0)) || (!(impl_ValidAid a1))) then ([], 1) else (bif (!((impl_aidOf a0 a1.Number).2)) then ([], 3) else ((impl_copyAids a0).set (((impl_aidOf a0 a1.Number).1).toNat) (impl_copyAid a1), 0)))
namespace N183
theorem DD : DOk Tryz.prog (Go.Ab.DD [(79, dP D_impl_ValidAids), (81, dP D_impl_copyAid), (93, dP D_impl_ValidAid), (94, dP D_impl_aidOf), (96, dP D_impl_copyAids)]) := DD_cons D_impl_ValidAids_ok.e <| DD_cons D_impl_copyAid_ok.e <| DD_cons D_impl_ValidAid_ok.e <| DD_cons D_impl_aidOf_ok.e <| DD_cons D_impl_copyAids_ok.e <| DD_nil _
theorem dn : type_of% (And.intro @D_impl_ValidAids.eq_1 <| And.intro @D_impl_copyAid.eq_1 <| And.intro @D_impl_ValidAid.eq_1 <| And.intro @D_impl_aidOf.eq_1 <| @D_impl_copyAids.eq_1) := by and_intros <;> intros <;> rfl
theorem ol : type_of% (@copyAids_id) := @copyAids_id
theorem gr {p : Prop} (h : p := by (grind [vAids_len, impl_aidOf_ix]); first | done | fail) : p := h
theorem den (a0 : (List Aid)) (a1 : Aid) (hb0 : a0.length < 1099511627776) (hb1 : ∀ v ∈ a0, bdAid v) (hb2 : bdAid a1) : Den Tryz.prog 183 [encL 16 eAid a0, .agg (eAid a1)] (.tup [ownL 63 16 eAidO ((impl_ReplaceAid a0 a1).1), .int .i64 ((impl_ReplaceAid a0 a1).2)]) := by
  generalize hR : impl_ReplaceAid a0 a1 = r
  unfold impl_ReplaceAid at hR
  refine di Tryz.func183 Tryz.ntmps183 Tryz.results183 ?_
  intro c hL hc hk
  obtain ⟨hL0, hL1, _⟩ := hL
  have hw0 : a0.length < 9223372036854775808 := Nat.lt_succ_of_le (lens_encL hL0).1
  have hw1 : ∀ v ∈ a0, bwAid v := fun v hv => Aid_lens v ((lens_encL hL0).2 v hv)
  have hw2 : bwAid a1 := Aid_lens a1 hL1
  clear hL0 hL1
  simp only [pars, Nat.zero_add]
  have hix := impl_aidOf_ix a0 a1.Number hw0
  iterate 2 refine rS ?_
  refine AWP.cond rfl (fun hb => ?_) (fun hb => ?_)
  · replace hR := ct hR
    refine rS ?_
    refine AWP.ret ?_
    subst hR
    exact es
  · replace hR := cf hR
    iterate 2 refine rS ?_
    refine AWP.cond rfl (fun hb => ?_) (fun hb => ?_)
    · replace hR := ct hR
      refine rS ?_
      refine AWP.ret ?_
      subst hR
      exact es
    · replace hR := cf hR
      iterate 3 refine rS ?_
      refine AWP.ret ?_
      subst hR
      exact es
end N183
def D_impl_ReplaceAid : DF
  | [x0, x1] => some (.tup [ownL 63 16 eAidO ((impl_ReplaceAid (rdL dAid x0) (rdG dAid x1)).1), .int .i64 ((impl_ReplaceAid (rdL dAid x0) (rdG dAid x1)).2)], false, [wL 16 eAid dAid x0, wG eAid dAid x1, (rdL dAid x0).length < 1099511627776, ∀ v ∈ (rdL dAid x0), bdAid v, bdAid (rdG dAid x1)])
  | _ => none
def Dz_impl_ReplaceAid : DF
  | [x0, x1] => some (.tup [ownL 63 16 eAidO ((impl_ReplaceAid (rdL dAid x0) (rdG dAid x1)).1), .int .i64 ((impl_ReplaceAid (rdL dAid x0) (rdG dAid x1)).2)], true, [wL 16 eAid dAid x0, wG eAid dAid x1, (rdL dAid x0).length < 1099511627776, ∀ v ∈ (rdL dAid x0), bdAid v, bdAid (rdG dAid x1)])
  | _ => none
theorem D_impl_ReplaceAid_ok : OkD Tryz.prog 183 D_impl_ReplaceAid := by unfold D_impl_ReplaceAid; exact dk N183.den
theorem Dz_impl_ReplaceAid_ok : OkD Tryz.prog 183 Dz_impl_ReplaceAid := by unfold Dz_impl_ReplaceAid; exact dk N183.den
end Go.Ab

namespace Go.Ab
open Go Go.Proofs
def impl_DropAid (a0 : (List Aid)) (a1 : Int) : ((List Aid) × Int) :=
  (bif (!(impl_ValidAids a0)) then ([], 1) else (bif (!((impl_aidOf a0 a1).2)) then ([], 3) else (((slices_Delete_Aid (impl_copyAids a0) ((impl_aidOf a0 a1).1) (IntKind.wrap .i64 (((impl_aidOf a0 a1).1) + 1)))), 0)))
namespace N184
theorem DD : DOk Tryz.prog (Go.Ab.DD [(218, dM [true, false, false] D_slices_Delete_Aid), (79, dP D_impl_ValidAids), (94, dP D_impl_aidOf), (96, dP D_impl_copyAids)]) := DD_cons D_slices_Delete_Aid_ok.e <| DD_cons D_impl_ValidAids_ok.e <| DD_cons D_impl_aidOf_ok.e <| DD_cons D_impl_copyAids_ok.e <| DD_nil _
theorem dn : type_of% (And.intro @D_slices_Delete_Aid.eq_1 <| And.intro @D_impl_ValidAids.eq_1 <| And.intro @D_impl_aidOf.eq_1 <| @D_impl_copyAids.eq_1) := by and_intros <;> intros <;> rfl
theorem ol : type_of% (@copyAids_id) := @copyAids_id
theorem gr {p : Prop} (h : p := by (grind [vAids_len, impl_aidOf_ix]); first | done | fail) : p := h
theorem den (a0 : (List Aid)) (a1 : Int) (hb0 : a0.length < 1099511627776) (hb1 : ∀ v ∈ a0, bdAid v) : Den Tryz.prog 184 [encL 16 eAid a0, .int .i64 a1] (.tup [ownL 63 16 eAidO ((impl_DropAid a0 a1).1), .int .i64 ((impl_DropAid a0 a1).2)]) := by
  generalize hR : impl_DropAid a0 a1 = r
  unfold impl_DropAid at hR
  refine di Tryz.func184 Tryz.ntmps184 Tryz.results184 ?_
  intro c hL hc hk
  obtain ⟨hL0, hL1, _⟩ := hL
  have hw0 : a0.length < 9223372036854775808 := Nat.lt_succ_of_le (lens_encL hL0).1
  have hw1 : ∀ v ∈ a0, bwAid v := fun v hv => Aid_lens v ((lens_encL hL0).2 v hv)
  clear hL0 hL1
  simp only [pars, Nat.zero_add]
  have hix := impl_aidOf_ix a0 a1 hw0
  iterate 2 refine rS ?_
  refine AWP.cond rfl (fun hb => ?_) (fun hb => ?_)
  · replace hR := ct hR
    refine rS ?_
    refine AWP.ret ?_
    subst hR
    exact es
  · replace hR := cf hR
    iterate 2 refine rS ?_
    refine AWP.cond rfl (fun hb => ?_) (fun hb => ?_)
    · replace hR := ct hR
      refine rS ?_
      refine AWP.ret ?_
      subst hR
      exact es
    · replace hR := cf hR
      refine rS ?_
      refine AWP.ret ?_
      subst hR
      exact es
end N184
def D_impl_DropAid : DF
  | [x0, x1] => some (.tup [ownL 63 16 eAidO ((impl_DropAid (rdL dAid x0) (rdI x1)).1), .int .i64 ((impl_DropAid (rdL dAid x0) (rdI x1)).2)], false, [wL 16 eAid dAid x0, wI .i64 x1, (rdL dAid x0).length < 1099511627776, ∀ v ∈ (rdL dAid x0), bdAid v])
  | _ => none
def Dz_impl_DropAid : DF
  | [x0, x1] => some (.tup [ownL 63 16 eAidO ((impl_DropAid (rdL dAid x0) (rdI x1)).1), .int .i64 ((impl_DropAid (rdL dAid x0) (rdI x1)).2)], true, [wL 16 eAid dAid x0, wI .i64 x1, (rdL dAid x0).length < 1099511627776, ∀ v ∈ (rdL dAid x0), bdAid v])
  | _ => none
theorem D_impl_DropAid_ok : OkD Tryz.prog 184 D_impl_DropAid := by unfold D_impl_DropAid; exact dk N184.den
theorem Dz_impl_DropAid_ok : OkD Tryz.prog 184 Dz_impl_DropAid := by unfold Dz_impl_DropAid; exact dk N184.den
end Go.Ab

namespace Go.Ab
open Go Go.Proofs
def spec_l12Replace (a0 : (List Aid)) (a1 : Aid) : ((List Aid) × Int) :=
  (bif decide ((spec_l12Find a0 a1.Number) < 0) then ([], 3) else ((spec_l12OwnAll a0).set (((spec_l12Find a0 a1.Number)).toNat) (spec_l12Own a1), 0))
namespace N216
theorem DD : DOk Tryz.prog (Go.Ab.DD [(106, dP D_spec_l12Own), (142, dP D_spec_l12Find), (155, dP D_spec_l12OwnAll)]) := DD_cons D_spec_l12Own_ok.e <| DD_cons D_spec_l12Find_ok.e <| DD_cons D_spec_l12OwnAll_ok.e <| DD_nil _
theorem dn : type_of% (And.intro @D_spec_l12Own.eq_1 <| And.intro @D_spec_l12Find.eq_1 <| @D_spec_l12OwnAll.eq_1) := by and_intros <;> intros <;> rfl
theorem ol : type_of% (@ownAids_id) := @ownAids_id
theorem gr {p : Prop} (h : p := by (grind [spec_l12Find_lt]); first | done | fail) : p := h
theorem den (a0 : (List Aid)) (a1 : Aid) (hb0 : a0.length < 1099511627776) (hb1 : ∀ v ∈ a0, bdAid v) (hb2 : bdAid a1) (hp0 : a0.length ≤ 1073741824) : Den Tryz.prog 216 [encL 16 eAid a0, .ep (eAid a1)] (.tup [ownL 63 16 eAidO ((spec_l12Replace a0 a1).1), .int .i64 ((spec_l12Replace a0 a1).2)]) := by
  generalize hR : spec_l12Replace a0 a1 = r
  unfold spec_l12Replace at hR
  refine di Tryz.func216 Tryz.ntmps216 Tryz.results216 ?_
  intro c hL hc hk
  obtain ⟨hL0, hL1, _⟩ := hL
  have hw0 : a0.length < 9223372036854775808 := Nat.lt_succ_of_le (lens_encL hL0).1
  have hw1 : ∀ v ∈ a0, bwAid v := fun v hv => Aid_lens v ((lens_encL hL0).2 v hv)
  have hw2 : bwAid a1 := Aid_lens a1 hL1
  clear hL0 hL1
  simp only [pars, Nat.zero_add]
  have hix := spec_l12Find_lt a0 a1.Number
  iterate 3 refine rS ?_
  refine AWP.cond rfl (fun hb => ?_) (fun hb => ?_)
  · replace hR := ct hR
    refine rS ?_
    refine AWP.ret ?_
    subst hR
    exact es
  · replace hR := cf hR
    iterate 3 refine rS ?_
    refine AWP.ret ?_
    subst hR
    exact es
end N216
def D_spec_l12Replace : DF
  | [x0, x1] => some (.tup [ownL 63 16 eAidO ((spec_l12Replace (rdL dAid x0) (rdP dAid x1)).1), .int .i64 ((spec_l12Replace (rdL dAid x0) (rdP dAid x1)).2)], false, [wL 16 eAid dAid x0, wP eAid dAid x1, (rdL dAid x0).length < 1099511627776, ∀ v ∈ (rdL dAid x0), bdAid v, bdAid (rdP dAid x1), (rdL dAid x0).length ≤ 1073741824])
  | _ => none
def Dz_spec_l12Replace : DF
  | [x0, x1] => some (.tup [ownL 63 16 eAidO ((spec_l12Replace (rdL dAid x0) (rdP dAid x1)).1), .int .i64 ((spec_l12Replace (rdL dAid x0) (rdP dAid x1)).2)], true, [wL 16 eAid dAid x0, wP eAid dAid x1, (rdL dAid x0).length < 1099511627776, ∀ v ∈ (rdL dAid x0), bdAid v, bdAid (rdP dAid x1), (rdL dAid x0).length ≤ 1073741824])
  | _ => none
theorem D_spec_l12Replace_ok : OkD Tryz.prog 216 D_spec_l12Replace := by unfold D_spec_l12Replace; exact dk N216.den
theorem Dz_spec_l12Replace_ok : OkD Tryz.prog 216 Dz_spec_l12Replace := by unfold Dz_spec_l12Replace; exact dk N216.den
end Go.Ab

namespace Go.Ab
open Go Go.Proofs
def spec_l12Drop (a0 : (List Aid)) (a1 : Int) : ((List Aid) × Int) :=
  (bif decide ((spec_l12Find a0 a1) < 0) then ([], 3) else ((spec_l12OwnAll (subL a0 0 (((spec_l12Find a0 a1)).toNat))) ++ (spec_l12OwnAll (subL a0 ((IntKind.wrap .i64 ((spec_l12Find a0 a1) + 1)).toNat) (a0.length - (IntKind.wrap .i64 ((spec_l12Find a0 a1) + 1)).toNat))), 0))
namespace N217
theorem DD : DOk Tryz.prog (Go.Ab.DD [(142, dP D_spec_l12Find), (155, dP D_spec_l12OwnAll)]) := DD_cons D_spec_l12Find_ok.e <| DD_cons D_spec_l12OwnAll_ok.e <| DD_nil _
theorem dn : type_of% (And.intro @D_spec_l12Find.eq_1 <| @D_spec_l12OwnAll.eq_1) := by and_intros <;> intros <;> rfl
theorem ol : type_of% (@ownAids_id) := @ownAids_id
theorem gr {p : Prop} (h : p := by (grind [spec_l12Find_lt]); first | done | fail) : p := h
theorem den (a0 : (List Aid)) (a1 : Int) (hb0 : a0.length < 1099511627776) (hb1 : ∀ v ∈ a0, bdAid v) (hp0 : a0.length ≤ 1073741824) : Den Tryz.prog 217 [encL 16 eAid a0, .int .i64 a1] (.tup [ownL 63 16 eAidO ((spec_l12Drop a0 a1).1), .int .i64 ((spec_l12Drop a0 a1).2)]) := by
  generalize hR : spec_l12Drop a0 a1 = r
  unfold spec_l12Drop at hR
  refine di Tryz.func217 Tryz.ntmps217 Tryz.results217 ?_
  intro c hL hc hk
  obtain ⟨hL0, hL1, _⟩ := hL
  have hw0 : a0.length < 9223372036854775808 := Nat.lt_succ_of_le (lens_encL hL0).1
  have hw1 : ∀ v ∈ a0, bwAid v := fun v hv => Aid_lens v ((lens_encL hL0).2 v hv)
  clear hL0 hL1
  simp only [pars, Nat.zero_add]
  have hix := spec_l12Find_lt a0 a1
  iterate 3 refine rS ?_
  refine AWP.cond rfl (fun hb => ?_) (fun hb => ?_)
  · replace hR := ct hR
    refine rS ?_
    refine AWP.ret ?_
    subst hR
    exact es
  · replace hR := cf hR
    iterate 2 refine rS ?_
    refine AWP.ret ?_
    subst hR
    exact es
end N217
def D_spec_l12Drop : DF
  | [x0, x1] => some (.tup [ownL 63 16 eAidO ((spec_l12Drop (rdL dAid x0) (rdI x1)).1), .int .i64 ((spec_l12Drop (rdL dAid x0) (rdI x1)).2)], false, [wL 16 eAid dAid x0, wI .i64 x1, (rdL dAid x0).length < 1099511627776, ∀ v ∈ (rdL dAid x0), bdAid v, (rdL dAid x0).length ≤ 1073741824])
  | _ => none
def Dz_spec_l12Drop : DF
  | [x0, x1] => some (.tup [ownL 63 16 eAidO ((spec_l12Drop (rdL dAid x0) (rdI x1)).1), .int .i64 ((spec_l12Drop (rdL dAid x0) (rdI x1)).2)], true, [wL 16 eAid dAid x0, wI .i64 x1, (rdL dAid x0).length < 1099511627776, ∀ v ∈ (rdL dAid x0), bdAid v, (rdL dAid x0).length ≤ 1073741824])
  | _ => none
theorem D_spec_l12Drop_ok : OkD Tryz.prog 217 D_spec_l12Drop := by unfold D_spec_l12Drop; exact dk N217.den
theorem Dz_spec_l12Drop_ok : OkD Tryz.prog 217 Dz_spec_l12Drop := by unfold Dz_spec_l12Drop; exact dk N217.den
end Go.Ab

namespace Go.Ab
open Go Go.Proofs
def ltA (a b : Aid) : Prop := a.Number < b.Number
theorem ltA_trans (a b c : Aid) (h : ltA a b) (k : ltA b c) : ltA a c := by unfold ltA at *; omega
def okA (l : List Aid) : Prop := (∀ v ∈ l, spec_l12One v = true) ∧ l.Pairwise ltA ∧ l.length ≤ 24
theorem okA_iff (l : List Aid) : spec_l12Ok l = true ↔ okA l := by
  unfold spec_l12Ok
  refine Iff.trans (loopR_allF (b := spec_l12Ok_b1 l) (fun j => (!(spec_l12One (l.getD j default))) || (decide (0 < (j : Int)) && decide (((l.getD j default).Number) ≤ ((l.getD ((IntKind.wrap .i64 ((j : Int) - 1)).toNat) default).Number)))) l.length _ (fun j u _ => rfl)) ?_
  unfold okA
  rw [pw_adj ltA ltA_trans l, decide_eq_true_eq]
  have e : ∀ j : Nat, 0 < j → j < l.length → l.length < 9223372036854775808 → (IntKind.wrap .i64 ((j : Int) - 1)).toNat = j - 1 := by
    intro j h0 h1 h2
    rw [IntKind.wrap_i64]; omega
  constructor
  · rintro ⟨h1, h2⟩
    have h2' : l.length ≤ 24 := by omega
    refine ⟨fun v hv => ?_, fun j hj => ?_, h2'⟩
    · obtain ⟨j, hj, rfl⟩ := List.getElem_of_mem hv
      have := h1 j hj
      rw [Bool.or_eq_false_iff] at this
      have h3 := this.1
      rw [List.getD_eq_getElem?_getD, List.getElem?_eq_getElem hj] at h3
      simpa using h3
    · have := h1 (j + 1) hj
      rw [Bool.or_eq_false_iff, e (j + 1) (by omega) hj (by omega)] at this
      have h3 := this.2
      simp only [Nat.add_sub_cancel] at h3
      unfold ltA
      simp only [Bool.and_eq_false_iff, decide_eq_false_iff_not] at h3
      rcases h3 with h3 | h3 <;> omega
  · rintro ⟨h1, h2, h3⟩
    refine ⟨fun j hj => ?_, by omega⟩
    rw [Bool.or_eq_false_iff]
    constructor
    · have : l.getD j default ∈ l := by
        rw [List.getD_eq_getElem?_getD, List.getElem?_eq_getElem hj]
        exact List.getElem_mem hj
      rw [h1 _ this]; rfl
    · cases j with
      | zero => simp
      | succ j =>
        rw [e (j + 1) (by omega) hj (by omega)]
        have := h2 j hj
        unfold ltA at this
        simp only [Nat.add_sub_cancel, Bool.and_eq_false_iff, decide_eq_false_iff_not]
        right; omega
theorem upto_lt (l : List Aid) (n : Int) : ∀ j, j < upto l n → (l.getD j default).Number < n := by
  unfold upto
  induction l with
  | nil => intro j hj; simp at hj
  | cons x l ih =>
    intro j hj
    rw [List.takeWhile_cons] at hj
    by_cases h : x.Number < n
    · rw [if_pos (decide_eq_true h)] at hj
      cases j with
      | zero => exact h
      | succ j => exact ih j (by simpa using hj)
    · rw [if_neg (by simpa using h)] at hj
      simp at hj
theorem upto_at (l : List Aid) (n : Int) : upto l n < l.length → ¬ (l.getD (upto l n) default).Number < n := by
  unfold upto
  induction l with
  | nil => intro h; simp at h
  | cons x l ih =>
    intro hj
    rw [List.takeWhile_cons] at hj ⊢
    by_cases h : x.Number < n
    · rw [if_pos (decide_eq_true h)] at hj ⊢
      exact ih (by simpa using hj)
    · rw [if_neg (by simpa using h)]
      exact h
theorem upto_eq (l : List Aid) (n : Int) (j : Nat) (hj : j ≤ l.length) (h1 : ∀ q, q < j → (l.getD q default).Number < n) (h2 : j < l.length → ¬ (l.getD j default).Number < n) : upto l n = j := by
  have hu := upto_le l n
  rcases Nat.lt_trichotomy (upto l n) j with h | h | h
  · exact absurd (h1 _ h) (upto_at l n (by omega))
  · exact h
  · exact absurd (upto_lt l n j h) (h2 (by omega))
theorem pw_getD {l : List Aid} (h : l.Pairwise ltA) {i j : Nat} (hij : i < j) (hj : j < l.length) : (l.getD i default).Number < (l.getD j default).Number := by
  have := List.pairwise_iff_getElem.1 h i j (by omega) hj hij
  rw [List.getD_eq_getElem?_getD, List.getD_eq_getElem?_getD, List.getElem?_eq_getElem hj, List.getElem?_eq_getElem (show i < l.length by omega)]
  exact this
def hasN (l : List Aid) (n : Int) : Bool := decide (upto l n < l.length) && ((l.getD (upto l n) default).Number == n)
theorem find_eq (l : List Aid) (n : Int) (h : l.Pairwise ltA) : spec_l12Find l n = bif hasN l n then (upto l n : Int) else -1 := by
  rcases find_first l n with ⟨j, h1, h2, h3, h4⟩ | ⟨h1, h2⟩
  · have e : upto l n = j := upto_eq l n j (by omega) (fun q hq => by rw [← h2]; exact pw_getD h hq h1) (fun _ => by omega)
    have : hasN l n = true := by
      unfold hasN
      rw [e, h2]
      simp [h1]
    rw [this, h4, e]; rfl
  · have : hasN l n = false := by
      unfold hasN
      cases hd : decide (upto l n < l.length) with
      | false => rfl
      | true =>
        have := h1 _ (of_decide_eq_true hd)
        simpa using this
    rw [this, h2]; rfl
theorem hasN_lt {l : List Aid} {n : Int} (h : hasN l n = true) : upto l n < l.length ∧ (l.getD (upto l n) default).Number = n := by
  unfold hasN at h
  simpa using h
theorem aidOf_eq' (l : List Aid) (n : Int) (hl : l.length < 9223372036854775808) : impl_aidOf l n = ((upto l n : Int), hasN l n) := aidOf_eq l n hl
theorem addAid_put (l : List Aid) (a : Aid) (hl : okA l) (hv : ∀ v ∈ l, aidL v) (ha : aidL a) (h1 : spec_l12One a = true) : impl_AddAid l a = spec_l12Put l a := by
  have hl' := hl.2.2
  rw [addAid_eq l a (by omega) hv ha]
  unfold spec_AddAid
  rw [(okA_iff l).2 hl, h1]
  rfl
theorem replAid_eq (l : List Aid) (a : Aid) (hl : okA l) (hv : ∀ v ∈ l, aidL v) (ha : aidL a) (h1 : spec_l12One a = true) : impl_ReplaceAid l a = spec_l12Replace l a := by
  have hl' := hl.2.2
  unfold impl_ReplaceAid spec_l12Replace
  rw [validAids_eq l hv, validAid_eq a ha.1 ha.2, (okA_iff l).2 hl, h1, aidOf_eq' l _ (by omega), find_eq l _ hl.2.1]
  simp only [copyAids_id, copyAid_id, ownAids_id, ownAid_id, Bool.not_true, Bool.or_false, cond_false]
  cases hasN l a.Number with
  | true => simp only [Bool.not_true, cond_false, cond_true]; rw [decide_eq_false (by omega)]; rfl
  | false => rfl
theorem dropAid_eq (l : List Aid) (n : Int) (hl : okA l) (hv : ∀ v ∈ l, aidL v) : impl_DropAid l n = spec_l12Drop l n := by
  have hl' := hl.2.2
  unfold impl_DropAid spec_l12Drop
  rw [validAids_eq l hv, (okA_iff l).2 hl, aidOf_eq' l _ (by omega), find_eq l _ hl.2.1]
  simp only [copyAids_id, ownAids_id, Bool.not_true, cond_false]
  cases hn : hasN l n with
  | true =>
    have hu := (hasN_lt hn).1
    simp only [Bool.not_true, cond_false, cond_true]
    rw [decide_eq_false (by omega)]
    have hw : IntKind.wrap .i64 ((upto l n : Int) + 1) = ((upto l n + 1 : Nat) : Int) := by rw [IntKind.wrap_i64]; omega
    unfold slices_Delete_Aid
    simp only [cond_false, hw, Int.toNat_natCast]
    rw [subL_take l _ (by omega), subL_drop l _ (by omega)]
  | false => rfl
def okP (P : Aid → Prop) (l : List Aid) : Prop := okA l ∧ ∀ v ∈ l, P v
theorem put_okP (P : Aid → Prop) {l t : List Aid} {a : Aid} (hl : okP P l) (ha : spec_l12One a = true ∧ P a) (h : spec_l12Put l a = (t, 0)) : okP P t := by
  have hl' := hl.1.2.2
  rw [l12Put_eq l a (by omega)] at h
  change (bif hasN l a.Number then ([], 4) else _) = _ at h
  cases hn : hasN l a.Number with
  | true => rw [hn] at h; simp at h
  | false =>
    rw [hn, cond_false] at h
    cases h24 : ((l.length : Int) == 24) with
    | true => rw [h24] at h; simp at h
    | false =>
      rw [h24, cond_false] at h
      simp only [Prod.mk.injEq, and_true] at h
      subst h
      have hne : l.length ≠ 24 := by
        intro e; rw [e] at h24; simp at h24
      have hu := upto_le l a.Number
      have hmem : ∀ v, v ∈ putA l a → v ∈ l ∨ v = a := by
        intro v hv
        simp only [putA, List.mem_append, List.mem_singleton] at hv
        rcases hv with (hv | hv) | hv
        · exact .inl (List.mem_of_mem_take hv)
        · exact .inr hv
        · exact .inl (List.mem_of_mem_drop hv)
      refine ⟨⟨fun v hv => ?_, ?_, ?_⟩, fun v hv => ?_⟩
      · rcases hmem v hv with h | rfl
        · exact hl.1.1 v h
        · exact ha.1
      · have hpw := hl.1.2.1
        have h0 : l.take (upto l a.Number) ++ l.drop (upto l a.Number) = l := List.take_append_drop _ _
        have hp2 : (l.take (upto l a.Number) ++ l.drop (upto l a.Number)).Pairwise ltA := by rw [h0]; exact hpw
        rw [List.pairwise_append] at hp2
        obtain ⟨p1, p2, p3⟩ := hp2
        have hlo : ∀ x ∈ l.take (upto l a.Number), ltA x a := by
          intro x hx
          obtain ⟨j, hj, rfl⟩ := List.getElem_of_mem hx
          have hj' : j < upto l a.Number := by simp at hj; omega
          have := upto_lt l a.Number j hj'
          rw [List.getD_eq_getElem?_getD, List.getElem?_eq_getElem (show j < l.length by omega)] at this
          simp only [List.getElem_take]
          exact this
        have hhi : ∀ x ∈ l.drop (upto l a.Number), ltA a x := by
          intro x hx
          obtain ⟨j, hj, rfl⟩ := List.getElem_of_mem hx
          have hj' : upto l a.Number + j < l.length := by simp at hj; omega
          simp only [List.getElem_drop]
          have h1 := upto_at l a.Number (by omega)
          have h2 : (l.getD (upto l a.Number) default).Number ≠ a.Number := by
            unfold hasN at hn
            rw [decide_eq_true (show upto l a.Number < l.length by omega)] at hn
            simpa using hn
          unfold ltA
          have h3 : (l[upto l a.Number + j]'hj').Number = (l.getD (upto l a.Number + j) default).Number := by
            rw [List.getD_eq_getElem?_getD, List.getElem?_eq_getElem hj']; rfl
          rw [h3]
          cases j with
          | zero => simp only [Nat.add_zero]; omega
          | succ j =>
            have := pw_getD hpw (show upto l a.Number < upto l a.Number + (j + 1) by omega) hj'
            omega
        unfold putA
        rw [List.append_assoc, List.pairwise_append]
        refine ⟨p1, ?_, fun x hx y hy => ?_⟩
        · rw [List.singleton_append, List.pairwise_cons]; exact ⟨hhi, p2⟩
        · rw [List.singleton_append, List.mem_cons] at hy
          rcases hy with rfl | hy
          · exact hlo x hx
          · exact p3 x hx y hy
      · simp [putA]; omega
      · rcases hmem v hv with h | rfl
        · exact hl.2 v h
        · exact ha.2
theorem repl_okP (P : Aid → Prop) {l t : List Aid} {a : Aid} (hl : okP P l) (ha : spec_l12One a = true ∧ P a) (h : spec_l12Replace l a = (t, 0)) : okP P t := by
  have hl' := hl.1.2.2
  unfold spec_l12Replace at h
  rw [find_eq l _ hl.1.2.1] at h
  cases hn : hasN l a.Number with
  | false => rw [hn] at h; simp at h
  | true =>
    rw [hn, cond_true, decide_eq_false (by omega), cond_false] at h
    simp only [Int.toNat_natCast, ownAids_id, ownAid_id, Prod.mk.injEq, and_true] at h
    subst h
    obtain ⟨hu, hnum⟩ := hasN_lt hn
    have hmem : ∀ v, v ∈ l.set (upto l a.Number) a → v ∈ l ∨ v = a := fun v hv => by
      rcases List.mem_or_eq_of_mem_set hv with h | h
      · exact .inl h
      · exact .inr h
    have hN : ∀ j, ((l.set (upto l a.Number) a).getD j default).Number = (l.getD j default).Number := by
      intro j
      by_cases hj : j = upto l a.Number
      · subst hj
        rw [hnum, List.getD_eq_getElem?_getD, List.getElem?_set_self hu]; rfl
      · rw [List.getD_eq_getElem?_getD, List.getElem?_set_ne (by omega), ← List.getD_eq_getElem?_getD]
    refine ⟨⟨fun v hv => ?_, ?_, by simpa using hl'⟩, fun v hv => ?_⟩
    · rcases hmem v hv with h | rfl
      · exact hl.1.1 v h
      · exact ha.1
    · rw [pw_adj ltA ltA_trans]
      intro j hj
      unfold ltA
      rw [hN, hN]
      exact pw_getD hl.1.2.1 (by omega) (by simpa using hj)
    · rcases hmem v hv with h | rfl
      · exact hl.2 v h
      · exact ha.2
theorem drop_okP (P : Aid → Prop) {l t : List Aid} {n : Int} (hl : okP P l) (h : spec_l12Drop l n = (t, 0)) : okP P t := by
  have hl' := hl.1.2.2
  unfold spec_l12Drop at h
  rw [find_eq l _ hl.1.2.1] at h
  cases hn : hasN l n with
  | false => rw [hn] at h; simp at h
  | true =>
    have hu := (hasN_lt hn).1
    have hw : IntKind.wrap .i64 ((upto l n : Int) + 1) = ((upto l n + 1 : Nat) : Int) := by rw [IntKind.wrap_i64]; omega
    rw [hn, cond_true, decide_eq_false (by omega), cond_false] at h
    simp only [hw, Int.toNat_natCast, ownAids_id, Prod.mk.injEq, and_true] at h
    rw [subL_take l _ (by omega), subL_drop l _ (by omega)] at h
    subst h
    have hsub : (l.take (upto l n) ++ l.drop (upto l n + 1)).Sublist l := by
      have h0 : l.take (upto l n) ++ l.drop (upto l n) = l := List.take_append_drop _ _
      conv => rhs; rw [← h0]
      refine List.Sublist.append (List.Sublist.refl _) ?_
      rw [← List.drop_drop]
      exact List.drop_sublist _ _
    refine ⟨⟨fun v hv => hl.1.1 v (hsub.subset hv), hl.1.2.1.sublist hsub, ?_⟩, fun v hv => hl.2 v (hsub.subset hv)⟩
    have := hsub.length_le
    omega
theorem sameChar_eq (a b : Character) : impl_SameCharacter a b = spec_l05Same a b := by
  unfold impl_SameCharacter spec_l05Same
  rfl
theorem sameAid_eq (a b : Aid) : impl_SameAid a b = spec_l12Same a b := by
  unfold impl_SameAid spec_l12Same
  rw [sameChar_eq]
  rfl
end Go.Ab

namespace Go.Ab
open Go Go.Proofs
def impl_ValidNotice (a0 : Notice) : Bool :=
  (bif (((!(impl_isNumber a0.Number)) || (!(impl_isDay a0.Day))) || (!(impl_within a0.Kind 1 4))) then false else (bif (impl_Notice_hasAid a0) then ((impl_ValidAid a0.Aid) && (a0.Target == 0)) else ((impl_SameAid a0.Aid ({ Number := 0, Name := [], At := { X := 0, Y := 0 : Point }, Height := 0, Mark := { Kind := 0, Colors := [], Shape := [], Topmark := [] : Mark }, Light := { Kind := 0, Group := [], Letter := [], Colors := [], Period := 0 : Character }, Sectors := [], Intensity := 0 : Aid })) && (impl_isNumber a0.Target))))
namespace N124
theorem DD : DOk Tryz.prog (Go.Ab.DD [(139, dP D_impl_within), (143, dP D_impl_SameAid), (158, dP D_impl_isNumber), (176, dP D_impl_Notice_hasAid), (73, dP D_impl_isDay), (93, dP D_impl_ValidAid)]) := DD_cons D_impl_within_ok.e <| DD_cons D_impl_SameAid_ok.e <| DD_cons D_impl_isNumber_ok.e <| DD_cons D_impl_Notice_hasAid_ok.e <| DD_cons D_impl_isDay_ok.e <| DD_cons D_impl_ValidAid_ok.e <| DD_nil _
theorem dn : type_of% (And.intro @D_impl_within.eq_1 <| And.intro @D_impl_SameAid.eq_1 <| And.intro @D_impl_isNumber.eq_1 <| And.intro @D_impl_Notice_hasAid.eq_1 <| And.intro @D_impl_isDay.eq_1 <| @D_impl_ValidAid.eq_1) := by and_intros <;> intros <;> rfl
theorem ol : type_of% (@impl_within.eq_1) := @impl_within.eq_1
theorem den (a0 : Notice) (hb0 : bdNotice a0) : Den Tryz.prog 124 [.agg (eNotice a0)] (.bool (impl_ValidNotice a0)) := by
  generalize hR : impl_ValidNotice a0 = r
  unfold impl_ValidNotice at hR
  refine di Tryz.func124 Tryz.ntmps124 Tryz.results124 ?_
  intro c hL hc hk
  obtain ⟨hL0, _⟩ := hL
  have hw0 : bwNotice a0 := Notice_lens a0 hL0
  clear hL0
  simp only [pars, Nat.zero_add]
  iterate 2 refine rS ?_
  refine AWP.cond rfl (fun hb => ?_) (fun hb => ?_)
  · replace hR := ct hR
    refine rS ?_
    refine AWP.ret ?_
    subst hR
    exact es
  · replace hR := cf hR
    refine rS ?_
    refine AWP.cond rfl (fun hb => ?_) (fun hb => ?_)
    · replace hR := ct hR
      refine rS ?_
      refine AWP.ret ?_
      subst hR
      exact es
    · replace hR := cf hR
      refine rS ?_
      refine AWP.ret ?_
      subst hR
      exact es
end N124
def D_impl_ValidNotice : DF
  | [x0] => some (.bool (impl_ValidNotice (rdG dNotice x0)), false, [wG eNotice dNotice x0, bdNotice (rdG dNotice x0)])
  | _ => none
theorem D_impl_ValidNotice_ok : OkD Tryz.prog 124 D_impl_ValidNotice := by unfold D_impl_ValidNotice; exact dk N124.den
end Go.Ab

namespace Go.Ab
open Go Go.Proofs
def impl_ValidNotices_b1 (a0 : (List Notice)) (i1 : Nat) (s1 : Unit) : Except (Bool) (Unit) :=
  (bif (((!(impl_ValidNotice (a0.getD i1 default))) || (decide (0 < (i1 : Int)) && (decide (((a0.getD i1 default).Number) ≤ ((a0.getD ((IntKind.wrap .i64 ((i1 : Int) - 1)).toNat) default).Number)) || decide (((a0.getD i1 default).Day) < ((a0.getD ((IntKind.wrap .i64 ((i1 : Int) - 1)).toNat) default).Day))))) || ((((a0.getD i1 default).Kind) == 4) && (!(impl_Notice_canCancel (a0.getD i1 default) (subL a0 0 (i1)))))) then .error false else .ok ())
def impl_ValidNotices (a0 : (List Notice)) : Bool :=
  (match loopR (impl_ValidNotices_b1 a0) (a0.length - 0) 0 () with | .error e => e | .ok s1 => (impl_few (a0.length : Int) 32))
namespace N72
theorem DD : DOk Tryz.prog (Go.Ab.DD [(112, dP D_impl_few), (124, dP D_impl_ValidNotice), (125, dP D_impl_Notice_canCancel)]) := DD_cons D_impl_few_ok.e <| DD_cons D_impl_ValidNotice_ok.e <| DD_cons D_impl_Notice_canCancel_ok.e <| DD_nil _
theorem dn : type_of% (And.intro @D_impl_few.eq_1 <| And.intro @D_impl_ValidNotice.eq_1 <| @D_impl_Notice_canCancel.eq_1) := by and_intros <;> intros <;> rfl
theorem den (a0 : (List Notice)) (hb0 : a0.length < 1099511627776) (hb1 : ∀ v ∈ a0, bdNotice v) : Den Tryz.prog 72 [encL 20 eNotice a0] (.bool (impl_ValidNotices a0)) := by
  generalize hR : impl_ValidNotices a0 = r
  unfold impl_ValidNotices at hR
  refine di Tryz.func72 Tryz.ntmps72 Tryz.results72 ?_
  intro c hL hc hk
  obtain ⟨hL0, _⟩ := hL
  have hw0 : a0.length < 9223372036854775808 := Nat.lt_succ_of_le (lens_encL hL0).1
  have hw1 : ∀ v ∈ a0, bwNotice v := fun v hv => Notice_lens v ((lens_encL hL0).2 v hv)
  clear hL0
  simp only [pars, Nat.zero_add]
  iterate 2 refine rS ?_
  refine AWP.block ?_
  generalize hz1 : loopR (impl_ValidNotices_b1 a0) (a0.length - 0) 0 () = z1 at hR
  refine AWP.range (impl_ValidNotices_b1 a0) (fun i1 s1 => ⟨[(0, encL 20 eNotice a0), (5, encL 20 eNotice a0), (6, .int .i64 (a0.length : Int)), (7, .int .i64 (i1 : Int))], []⟩) (fun i1 s1 => True) (a0.length) 0 () [] hz1 ot wt sm ?_
  clear hz1
  intro i1 s1 hi1 hW1 hz1
  refine rS ?_
  refine AWP.seq ?_
  refine AWP.cond rfl (fun hb => ?_) (fun hb => ?_)
  · have hlt1 : i1 < a0.length := ot
    rw [loopR_lt hlt1] at hz1; simp only [impl_ValidNotices_b1] at hz1
    refine rS ?_
    refine rD 42 ?_
    refine AWP.cond rfl (fun hb => ?_) (fun hb => ?_)
    · simp only [hb, cond_true] at hz1
      refine rS ?_
      refine AWP.ret ?_
      subst hz1
      dsimp only at hR
      subst hR
      exact es
    · simp only [hb, cond_false] at hz1
      refine rS ?_
      exact ⟨_, [], hlt1, wt, hz1, sm⟩
  · obtain rfl : i1 = a0.length := ot
    rw [loopR_ge (Nat.le_refl _)] at hz1; subst hz1; dsimp only at hR
    refine AWP.exit ?_; refine exitTo_here ?_
    refine rS ?_
    refine AWP.ret ?_
    subst hR
    exact es
end N72
def D_impl_ValidNotices : DF
  | [x0] => some (.bool (impl_ValidNotices (rdL dNotice x0)), false, [wL 20 eNotice dNotice x0, (rdL dNotice x0).length < 1099511627776, ∀ v ∈ (rdL dNotice x0), bdNotice v])
  | _ => none
theorem D_impl_ValidNotices_ok : OkD Tryz.prog 72 D_impl_ValidNotices := by unfold D_impl_ValidNotices; exact dk N72.den
end Go.Ab

namespace Go.Ab
open Go Go.Proofs
def spec_l21One (a0 : Notice) : Bool :=
  (bif ((!(spec_l00In a0.Number 1 9999)) || (!(spec_l03Day a0.Day))) then false else (bif (a0.Kind == 1) then ((spec_l12One a0.Aid) && (a0.Target == 0)) else (bif (a0.Kind == 2) then ((spec_l12One a0.Aid) && (a0.Target == 0)) else (bif (a0.Kind == 3) then ((spec_l12Same a0.Aid ({ Number := 0, Name := [], At := { X := 0, Y := 0 : Point }, Height := 0, Mark := { Kind := 0, Colors := [], Shape := [], Topmark := [] : Mark }, Light := { Kind := 0, Group := [], Letter := [], Colors := [], Period := 0 : Character }, Sectors := [], Intensity := 0 : Aid })) && (spec_l00In a0.Target 1 9999)) else (bif (a0.Kind == 4) then ((spec_l12Same a0.Aid ({ Number := 0, Name := [], At := { X := 0, Y := 0 : Point }, Height := 0, Mark := { Kind := 0, Colors := [], Shape := [], Topmark := [] : Mark }, Light := { Kind := 0, Group := [], Letter := [], Colors := [], Period := 0 : Character }, Sectors := [], Intensity := 0 : Aid })) && (spec_l00In a0.Target 1 9999)) else false)))))
namespace N120
theorem DD : DOk Tryz.prog (Go.Ab.DD [(105, dP D_spec_l12Same), (137, dP D_spec_l00In), (70, dP D_spec_l03Day), (87, dP D_spec_l12One)]) := DD_cons D_spec_l12Same_ok.e <| DD_cons D_spec_l00In_ok.e <| DD_cons D_spec_l03Day_ok.e <| DD_cons D_spec_l12One_ok.e <| DD_nil _
theorem dn : type_of% (And.intro @D_spec_l12Same.eq_1 <| And.intro @D_spec_l00In.eq_1 <| And.intro @D_spec_l03Day.eq_1 <| @D_spec_l12One.eq_1) := by and_intros <;> intros <;> rfl
theorem ol : type_of% (@spec_l00In.eq_1) := @spec_l00In.eq_1
theorem den (a0 : Notice) (hb0 : bdNotice a0) : Den Tryz.prog 120 [.ep (eNotice a0)] (.bool (spec_l21One a0)) := by
  generalize hR : spec_l21One a0 = r
  unfold spec_l21One at hR
  refine di Tryz.func120 Tryz.ntmps120 Tryz.results120 ?_
  intro c hL hc hk
  obtain ⟨hL0, _⟩ := hL
  have hw0 : bwNotice a0 := Notice_lens a0 hL0
  clear hL0
  simp only [pars, Nat.zero_add]
  iterate 2 refine rS ?_
  refine AWP.cond rfl (fun hb => ?_) (fun hb => ?_)
  · replace hR := ct hR
    refine rS ?_
    refine AWP.ret ?_
    subst hR
    exact es
  · replace hR := cf hR
    iterate 3 refine rS ?_
    refine AWP.cond rfl (fun hb => ?_) (fun hb => ?_)
    · replace hR := ct hR
      refine AWP.skip ?_
      refine AWP.cond rfl (fun hb => ?_) (fun hb => ?_)
      · refine rS ?_
        refine AWP.ret ?_
        subst hR
        exact es
      · exfalso; simp_all
    · replace hR := cf hR
      refine rS ?_
      refine AWP.cond rfl (fun hb => ?_) (fun hb => ?_)
      · replace hR := ct hR
        refine rS ?_
        refine AWP.ret ?_
        subst hR
        exact es
      · replace hR := cf hR
        refine rS ?_
        refine AWP.cond rfl (fun hb => ?_) (fun hb => ?_)
        · replace hR := ct hR
          refine AWP.skip ?_
          refine AWP.cond rfl (fun hb => ?_) (fun hb => ?_)
          · refine rS ?_
            refine AWP.ret ?_
            subst hR
            exact es
          · exfalso; simp_all
        · replace hR := cf hR
          refine rS ?_
          refine AWP.cond rfl (fun hb => ?_) (fun hb => ?_)
          · replace hR := ct hR
            refine rS ?_
            refine AWP.ret ?_
            subst hR
            exact es
          · replace hR := cf hR
            refine rS ?_
            refine AWP.ret ?_
            subst hR
            exact es
end N120
def D_spec_l21One : DF
  | [x0] => some (.bool (spec_l21One (rdP dNotice x0)), false, [wP eNotice dNotice x0, bdNotice (rdP dNotice x0)])
  | _ => none
theorem D_spec_l21One_ok : OkD Tryz.prog 120 D_spec_l21One := by unfold D_spec_l21One; exact dk N120.den
end Go.Ab
