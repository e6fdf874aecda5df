/- A part of a proof: walks of functions and lemmas of our own. No conditions. -/
import Derived.Test.YtpakbdamggpneaaGreatDoorTAl
import Derived.Test.YtpakbdamggpneaaGreatDoorTAi
set_option linter.unusedSectionVars false
set_option linter.unusedVariables false
set_option linter.unusedSimpArgs false
set_option maxHeartbeats 1000000
namespace Go.Ab
open Go Go.Proofs
def slices_Equal_int64_b1 (a0 : (List Int)) (a1 : (List Int)) (i1 : Nat) (s1 : Unit) : Except (Bool) (Unit) :=
  (bif ((a0.getD i1 default) != (a1.getD i1 default)) then .error false else .ok ())
def slices_Equal_int64 (a0 : (List Int)) (a1 : (List Int)) : Bool :=
  (bif ((a0.length : Int) != (a1.length : Int)) then false else (match loopR (slices_Equal_int64_b1 a0 a1) (a0.length - 0) 0 () with | .error e => e | .ok s1 => true))
namespace N136
theorem DD : DOk Tryz.prog (Go.Ab.DD []) := DD_nil _
theorem den (a0 : (List Int)) (a1 : (List Int))  : Den Tryz.prog 136 [encL 1 eIi64 a0, encL 1 eIi64 a1] (.bool (slices_Equal_int64 a0 a1)) := by
  generalize hR : slices_Equal_int64 a0 a1 = r
  unfold slices_Equal_int64 at hR
  refine di Tryz.func136 Tryz.ntmps136 Tryz.results136 ?_
  intro c hL hc hk
  obtain ⟨hL0, hL1, _⟩ := hL
  have hw0 : a0.length < 9223372036854775808 := Nat.lt_succ_of_le (lens_encL hL0).1
  have hw1 : a1.length < 9223372036854775808 := Nat.lt_succ_of_le (lens_encL hL1).1
  clear hL0 hL1
  simp only [pars, Nat.zero_add]
  iterate 2 refine rS ?_
  refine AWP.cond rfl (fun hb => ?_) (fun hb => ?_)
  · replace hR := ct hR
    refine rS ?_
    refine AWP.ret ?_
    subst hR
    exact es
  · replace hR := cf hR
    refine rS ?_
    refine AWP.block ?_
    generalize hz1 : loopR (slices_Equal_int64_b1 a0 a1) (a0.length - 0) 0 () = z1 at hR
    refine AWP.range (slices_Equal_int64_b1 a0 a1) (fun i1 s1 => ⟨[(0, encL 1 eIi64 a0), (1, encL 1 eIi64 a1), (12, .int .i64 (a0.length : Int)), (13, .int .i64 (i1 : Int))], []⟩) (fun i1 s1 => True) (a0.length) 0 () [] hz1 ot wt sm ?_
    clear hz1
    intro i1 s1 hi1 hW1 hz1
    refine rS ?_
    refine AWP.seq ?_
    refine AWP.cond rfl (fun hb => ?_) (fun hb => ?_)
    · have hlt1 : i1 < a0.length := ot
      rw [loopR_lt hlt1] at hz1; simp only [slices_Equal_int64_b1] at hz1
      refine rS ?_
      refine rD 8 ?_
      refine AWP.cond rfl (fun hb => ?_) (fun hb => ?_)
      · simp only [hb, cond_true] at hz1
        refine rS ?_
        refine AWP.ret ?_
        subst hz1
        dsimp only at hR
        subst hR
        exact es
      · simp only [hb, cond_false] at hz1
        refine rS ?_
        exact ⟨_, [], hlt1, wt, hz1, sm⟩
    · obtain rfl : i1 = a0.length := ot
      rw [loopR_ge (Nat.le_refl _)] at hz1; subst hz1; dsimp only at hR
      refine AWP.exit ?_; refine exitTo_here ?_
      refine rS ?_
      refine AWP.ret ?_
      subst hR
      exact es
end N136
def D_slices_Equal_int64 : DF
  | [x0, x1] => some (.bool (slices_Equal_int64 (rdL dIi64 x0) (rdL dIi64 x1)), false, [wL 1 eIi64 dIi64 x0, wL 1 eIi64 dIi64 x1])
  | _ => none
theorem D_slices_Equal_int64_ok : OkD Tryz.prog 136 D_slices_Equal_int64 := by unfold D_slices_Equal_int64; exact dk N136.den
end Go.Ab

namespace Go.Ab
open Go Go.Proofs
def impl_within (a0 : Int) (a1 : Int) (a2 : Int) : Bool :=
  (decide (a1 ≤ a0) && decide (a0 ≤ a2))
namespace N68
theorem DD : DOk Tryz.prog (Go.Ab.DD []) := DD_nil _
theorem den (a0 : Int) (a1 : Int) (a2 : Int)  : Den Tryz.prog 68 [.int .i64 a0, .int .i64 a1, .int .i64 a2] (.bool (impl_within a0 a1 a2)) := by
  generalize hR : impl_within a0 a1 a2 = r
  unfold impl_within at hR
  refine di Tryz.func68 Tryz.ntmps68 Tryz.results68 ?_
  intro c hL hc hk
  clear hL
  simp only [pars, Nat.zero_add]
  iterate 2 refine rS ?_
  refine AWP.ret ?_
  subst hR
  exact es
end N68
def D_impl_within : DF
  | [x0, x1, x2] => some (.bool (impl_within (rdI x0) (rdI x1) (rdI x2)), false, [wI .i64 x0, wI .i64 x1, wI .i64 x2])
  | _ => none
theorem D_impl_within_ok : OkD Tryz.prog 68 D_impl_within := by unfold D_impl_within; exact dk N68.den
end Go.Ab

namespace Go.Ab
open Go Go.Proofs
def impl_few (a0 : Int) (a1 : Int) : Bool :=
  decide (a0 ≤ a1)
namespace N77
theorem DD : DOk Tryz.prog (Go.Ab.DD []) := DD_nil _
theorem den (a0 : Int) (a1 : Int)  : Den Tryz.prog 77 [.int .i64 a0, .int .i64 a1] (.bool (impl_few a0 a1)) := by
  generalize hR : impl_few a0 a1 = r
  unfold impl_few at hR
  refine di Tryz.func77 Tryz.ntmps77 Tryz.results77 ?_
  intro c hL hc hk
  clear hL
  simp only [pars, Nat.zero_add]
  iterate 2 refine rS ?_
  refine AWP.ret ?_
  subst hR
  exact es
end N77
def D_impl_few : DF
  | [x0, x1] => some (.bool (impl_few (rdI x0) (rdI x1)), false, [wI .i64 x0, wI .i64 x1])
  | _ => none
theorem D_impl_few_ok : OkD Tryz.prog 77 D_impl_few := by unfold D_impl_few; exact dk N77.den
end Go.Ab

namespace Go.Ab
open Go Go.Proofs
def impl_isGroup_b1 (a0 : (List Int)) (i1 : Nat) (s1 : Int) : Except (Bool) (Int) :=
  (bif (!(impl_within (a0.getD i1 default) 1 9)) then .error false else .ok (IntKind.wrap .i64 (s1 + (a0.getD i1 default))))
def impl_isGroup (a0 : (List Int)) : Bool :=
  (match loopR (impl_isGroup_b1 a0) (a0.length - 0) 0 0 with | .error e => e | .ok s1 => (((impl_few (a0.length : Int) 4) && decide (s1 ≤ 12)) && (!(slices_Equal_int64 a0 ([1] : List Int)))))
namespace N135
theorem DD : DOk Tryz.prog (Go.Ab.DD [(136, dP D_slices_Equal_int64), (68, dP D_impl_within), (77, dP D_impl_few)]) := DD_cons D_slices_Equal_int64_ok.e <| DD_cons D_impl_within_ok.e <| DD_cons D_impl_few_ok.e <| DD_nil _
theorem dn : type_of% (And.intro @D_slices_Equal_int64.eq_1 <| And.intro @D_impl_within.eq_1 <| @D_impl_few.eq_1) := by and_intros <;> intros <;> rfl
theorem ol : type_of% (@impl_within.eq_1) := @impl_within.eq_1
theorem den (a0 : (List Int))  : Den Tryz.prog 135 [encL 1 eIi64 a0] (.bool (impl_isGroup a0)) := by
  generalize hR : impl_isGroup a0 = r
  unfold impl_isGroup at hR
  refine di Tryz.func135 Tryz.ntmps135 Tryz.results135 ?_
  intro c hL hc hk
  obtain ⟨hL0, _⟩ := hL
  have hw0 : a0.length < 9223372036854775808 := Nat.lt_succ_of_le (lens_encL hL0).1
  clear hL0
  simp only [pars, Nat.zero_add]
  iterate 3 refine rS ?_
  refine AWP.block ?_
  generalize hz1 : loopR (impl_isGroup_b1 a0) (a0.length - 0) 0 0 = z1 at hR
  refine AWP.range (impl_isGroup_b1 a0) (fun i1 s1 => ⟨[(0, encL 1 eIi64 a0), (3, .int .i64 s1), (6, encL 1 eIi64 a0), (7, .int .i64 (a0.length : Int)), (8, .int .i64 (i1 : Int))], []⟩) (fun i1 s1 => True) (a0.length) 0 0 [] hz1 ot wt sm ?_
  clear hz1
  intro i1 s1 hi1 hW1 hz1
  refine rS ?_
  refine AWP.seq ?_
  refine AWP.cond rfl (fun hb => ?_) (fun hb => ?_)
  · have hlt1 : i1 < a0.length := ot
    rw [loopR_lt hlt1] at hz1; simp only [impl_isGroup_b1] at hz1
    iterate 2 refine rS ?_
    refine AWP.cond rfl (fun hb => ?_) (fun hb => ?_)
    · simp only [hb, cond_true] at hz1
      refine rS ?_
      refine AWP.ret ?_
      subst hz1
      dsimp only at hR
      subst hR
      exact es
    · simp only [hb, cond_false] at hz1
      iterate 2 refine rS ?_
      exact ⟨_, [], hlt1, wt, hz1, sm⟩
  · obtain rfl : i1 = a0.length := ot
    rw [loopR_ge (Nat.le_refl _)] at hz1; subst hz1; dsimp only at hR
    refine AWP.exit ?_; refine exitTo_here ?_
    refine rS ?_
    refine AWP.ret ?_
    subst hR
    exact es
end N135
def D_impl_isGroup : DF
  | [x0] => some (.bool (impl_isGroup (rdL dIi64 x0)), false, [wL 1 eIi64 dIi64 x0])
  | _ => none
theorem D_impl_isGroup_ok : OkD Tryz.prog 135 D_impl_isGroup := by unfold D_impl_isGroup; exact dk N135.den
end Go.Ab

namespace Go.Ab
open Go Go.Proofs
def spec_l05Sum_b1 (a0 : (List Int)) (i1 : Nat) (s1 : Int) : Except (Int) (Int) :=
  .ok (IntKind.wrap .i64 (s1 + (a0.getD i1 default)))
def spec_l05Sum (a0 : (List Int)) : Int :=
  (bif ((a0.length : Int) == 0) then 1 else (match loopR (spec_l05Sum_b1 a0) (a0.length - 0) 0 0 with | .error e => e | .ok s1 => s1))
namespace N205
theorem DD : DOk Tryz.prog (Go.Ab.DD []) := DD_nil _
theorem den (a0 : (List Int))  : Den Tryz.prog 205 [encL 1 eIi64 a0] (.int .i64 (spec_l05Sum a0)) := by
  generalize hR : spec_l05Sum a0 = r
  unfold spec_l05Sum at hR
  refine di Tryz.func205 Tryz.ntmps205 Tryz.results205 ?_
  intro c hL hc hk
  obtain ⟨hL0, _⟩ := hL
  have hw0 : a0.length < 9223372036854775808 := Nat.lt_succ_of_le (lens_encL hL0).1
  clear hL0
  simp only [pars, Nat.zero_add]
  iterate 2 refine rS ?_
  refine AWP.cond rfl (fun hb => ?_) (fun hb => ?_)
  · replace hR := ct hR
    refine rS ?_
    refine AWP.ret ?_
    subst hR
    exact es
  · replace hR := cf hR
    iterate 2 refine rS ?_
    refine AWP.block ?_
    generalize hz1 : loopR (spec_l05Sum_b1 a0) (a0.length - 0) 0 0 = z1 at hR
    refine AWP.range (spec_l05Sum_b1 a0) (fun i1 s1 => ⟨[(0, encL 1 eIi64 a0), (3, .int .i64 s1), (4, .int .i64 (i1 : Int))], []⟩) (fun i1 s1 => True) (a0.length) 0 0 [] hz1 ot wt sm ?_
    clear hz1
    intro i1 s1 hi1 hW1 hz1
    refine rS ?_
    refine AWP.cond rfl (fun hb => ?_) (fun hb => ?_)
    · have hlt1 : i1 < a0.length := ot
      rw [loopR_lt hlt1] at hz1; simp only [spec_l05Sum_b1] at hz1
      iterate 2 refine rS ?_
      exact ⟨_, [], hlt1, wt, hz1, sm⟩
    · obtain rfl : i1 = a0.length := ot
      rw [loopR_ge (Nat.le_refl _)] at hz1; subst hz1; dsimp only at hR
      refine AWP.exit ?_; refine exitTo_here ?_
      refine rS ?_
      refine AWP.ret ?_
      subst hR
      exact es
end N205
def D_spec_l05Sum : DF
  | [x0] => some (.int .i64 (spec_l05Sum (rdL dIi64 x0)), false, [wL 1 eIi64 dIi64 x0])
  | _ => none
theorem D_spec_l05Sum_ok : OkD Tryz.prog 205 D_spec_l05Sum := by unfold D_spec_l05Sum; exact dk N205.den
end Go.Ab

namespace Go.Ab
open Go Go.Proofs
def spec_l00In (a0 : Int) (a1 : Int) (a2 : Int) : Bool :=
  (decide (a1 ≤ a0) && decide (a0 ≤ a2))
namespace N98
theorem DD : DOk Tryz.prog (Go.Ab.DD []) := DD_nil _
theorem den (a0 : Int) (a1 : Int) (a2 : Int)  : Den Tryz.prog 98 [.int .i64 a0, .int .i64 a1, .int .i64 a2] (.bool (spec_l00In a0 a1 a2)) := by
  generalize hR : spec_l00In a0 a1 a2 = r
  unfold spec_l00In at hR
  refine di Tryz.func98 Tryz.ntmps98 Tryz.results98 ?_
  intro c hL hc hk
  clear hL
  simp only [pars, Nat.zero_add]
  iterate 2 refine rS ?_
  refine AWP.ret ?_
  subst hR
  exact es
end N98
def D_spec_l00In : DF
  | [x0, x1, x2] => some (.bool (spec_l00In (rdI x0) (rdI x1) (rdI x2)), false, [wI .i64 x0, wI .i64 x1, wI .i64 x2])
  | _ => none
theorem D_spec_l00In_ok : OkD Tryz.prog 98 D_spec_l00In := by unfold D_spec_l00In; exact dk N98.den
end Go.Ab

namespace Go.Ab
open Go Go.Proofs
def spec_l05Group_b1 (a0 : (List Int)) (i1 : Nat) (s1 : Unit) : Except (Bool) (Unit) :=
  (bif (!(spec_l00In (a0.getD i1 default) 1 9)) then .error false else .ok ())
def spec_l05Group (a0 : (List Int)) : Bool :=
  (match loopR (spec_l05Group_b1 a0) (a0.length - 0) 0 () with | .error e => e | .ok s1 => ((decide ((a0.length : Int) ≤ 4) && (!(((a0.length : Int) == 1) && ((a0.getD 0 default) == 1)))) && decide ((spec_l05Sum a0) ≤ 12)))
namespace N176
theorem DD : DOk Tryz.prog (Go.Ab.DD [(205, dP D_spec_l05Sum), (98, dP D_spec_l00In)]) := DD_cons D_spec_l05Sum_ok.e <| DD_cons D_spec_l00In_ok.e <| DD_nil _
theorem dn : type_of% (And.intro @D_spec_l05Sum.eq_1 <| @D_spec_l00In.eq_1) := by and_intros <;> intros <;> rfl
theorem ol : type_of% (@spec_l00In.eq_1) := @spec_l00In.eq_1
theorem den (a0 : (List Int))  : Den Tryz.prog 176 [encL 1 eIi64 a0] (.bool (spec_l05Group a0)) := by
  generalize hR : spec_l05Group a0 = r
  unfold spec_l05Group at hR
  refine di Tryz.func176 Tryz.ntmps176 Tryz.results176 ?_
  intro c hL hc hk
  obtain ⟨hL0, _⟩ := hL
  have hw0 : a0.length < 9223372036854775808 := Nat.lt_succ_of_le (lens_encL hL0).1
  clear hL0
  simp only [pars, Nat.zero_add]
  iterate 2 refine rS ?_
  refine AWP.block ?_
  generalize hz1 : loopR (spec_l05Group_b1 a0) (a0.length - 0) 0 () = z1 at hR
  refine AWP.range (spec_l05Group_b1 a0) (fun i1 s1 => ⟨[(0, encL 1 eIi64 a0), (3, .int .i64 (i1 : Int))], []⟩) (fun i1 s1 => True) (a0.length) 0 () [] hz1 ot wt sm ?_
  clear hz1
  intro i1 s1 hi1 hW1 hz1
  refine rS ?_
  refine AWP.cond rfl (fun hb => ?_) (fun hb => ?_)
  · have hlt1 : i1 < a0.length := ot
    rw [loopR_lt hlt1] at hz1; simp only [spec_l05Group_b1] at hz1
    refine rS ?_
    refine AWP.cond rfl (fun hb => ?_) (fun hb => ?_)
    · simp only [hb, cond_true] at hz1
      refine rS ?_
      refine AWP.ret ?_
      subst hz1
      dsimp only at hR
      subst hR
      exact es
    · simp only [hb, cond_false] at hz1
      refine rS ?_
      exact ⟨_, [], hlt1, wt, hz1, sm⟩
  · obtain rfl : i1 = a0.length := ot
    rw [loopR_ge (Nat.le_refl _)] at hz1; subst hz1; dsimp only at hR
    refine AWP.exit ?_; refine exitTo_here ?_
    refine rS ?_
    refine AWP.ret ?_
    subst hR
    exact es
end N176
def D_spec_l05Group : DF
  | [x0] => some (.bool (spec_l05Group (rdL dIi64 x0)), false, [wL 1 eIi64 dIi64 x0])
  | _ => none
theorem D_spec_l05Group_ok : OkD Tryz.prog 176 D_spec_l05Group := by unfold D_spec_l05Group; exact dk N176.den
end Go.Ab

namespace Go.Ab
open Go Go.Proofs
def loopL {α ρ σ : Type} (g : α → σ → Except ρ σ) : List α → σ → Except ρ σ
  | [], s => .ok s
  | x :: t, s => match g x s with
    | .error r => .error r
    | .ok s' => loopL g t s'
theorem loopL_cons {α ρ σ : Type} (g : α → σ → Except ρ σ) (x : α) (t : List α) (s : σ) : loopL g (x :: t) s = match g x s with
    | .error r => .error r
    | .ok s' => loopL g t s' := rfl
theorem loopR_list {α ρ σ : Type} [Inhabited α] {b : Nat → σ → Except ρ σ} (g : α → σ → Except ρ σ) (l : List α) : ∀ (k i : Nat) (s : σ), i + k = l.length → (∀ j u, i ≤ j → j < l.length → b j u = g (l.getD j default) u) → loopR b k i s = loopL g (l.drop i) s
  | 0, i, s, h, _ => by rw [List.drop_eq_nil_of_le (by omega)]; rfl
  | k + 1, i, s, h, hb => by
    have hi : i < l.length := by omega
    rw [List.drop_eq_getElem_cons hi]
    simp only [loopR, loopL]
    rw [hb i s (Nat.le_refl _) hi, List.getD_eq_getElem?_getD, List.getElem?_eq_getElem hi, Option.getD_some]
    cases g l[i] s with
    | error r => rfl
    | ok s' => exact loopR_list g l k (i + 1) s' (by omega) (fun j u h1 h2 => hb j u (by omega) h2)
theorem loopR_list0 {α ρ σ : Type} [Inhabited α] {b : Nat → σ → Except ρ σ} (g : α → σ → Except ρ σ) (l : List α) (s : σ) (hb : ∀ j u, j < l.length → b j u = g (l.getD j default) u) : loopR b (l.length - 0) 0 s = loopL g l s := by
  rw [loopR_list g l (l.length - 0) 0 s (by omega) (fun j u _ h => hb j u h), List.drop_zero]
theorem loopR_all {ρ : Type} {b : Nat → Unit → Except ρ Unit} (p : Nat → Bool) (r : ρ) (n : Nat) (hb : ∀ j u, j < n → b j u = bif p j then .error r else .ok ()) :
    ((∀ q, q < n → p q = false) ∧ loopR b (n - 0) 0 () = .ok ()) ∨ ((∃ q, q < n ∧ p q = true) ∧ loopR b (n - 0) 0 () = .error r) := by
  rcases loopR_first (b := b) p (fun _ => r) (k := n - 0) (i := 0) (s := ()) (fun j u _ h => hb j u (by omega)) with ⟨j, h1, h2, h3, h4, h5⟩ | ⟨h1, h2⟩
  · exact .inr ⟨⟨j, by omega, h3⟩, h5⟩
  · exact .inl ⟨fun q hq => h1 q (by omega) (by omega), h2⟩
theorem loopW_upto {ρ : Type} {b : Int → Except (Sum ρ Int) Int} (p : Nat → Bool) (n : Nat) (hb : ∀ j : Nat, j ≤ n → b (j : Int) = bif (decide (j < n) && p j) then .ok ((j + 1 : Nat) : Int) else .error (.inr (j : Int))) :
    ∀ (f i : Nat), i ≤ n → n - i < f → ∃ j, i ≤ j ∧ j ≤ n ∧ (∀ q, i ≤ q → q < j → p q = true) ∧ (j = n ∨ p j = false) ∧ loopW b f (i : Int) = .error (.inr (j : Int))
  | 0, i, h1, h2 => by omega
  | f + 1, i, h1, h2 => by
    simp only [loopW, hb i h1]
    cases hc : (decide (i < n) && p i) with
    | false =>
      refine ⟨i, Nat.le_refl _, h1, fun q a b => by omega, ?_, rfl⟩
      by_cases hi : i < n
      · right; simpa [hi] using hc
      · left; omega
    | true =>
      simp only [Bool.and_eq_true, decide_eq_true_eq] at hc
      obtain ⟨j, g1, g2, g3, g4, g5⟩ := loopW_upto p n hb f (i + 1) hc.1 (by omega)
      refine ⟨j, by omega, g2, fun q a b => ?_, g4, by simpa using g5⟩
      by_cases hq : q = i
      · rw [hq]; exact hc.2
      · exact g3 q (by omega) b
theorem getD_map {α β : Type} [Inhabited α] [Inhabited β] (f : α → β) (l : List α) (i : Nat) (h : i < l.length) : (l.map f).getD i default = f (l.getD i default) := by
  simp [List.getD_eq_getElem?_getD, h]
theorem wrap_nat {j n : Nat} (h : j < n) (hn : n < 9223372036854775808) : IntKind.wrap .i64 ((j : Int) + 1) = ((j + 1 : Nat) : Int) := by
  rw [IntKind.wrap_i64]; omega
theorem wrap_pred {j : Nat} (h : 0 < j) (hn : j < 9223372036854775808) : (IntKind.wrap .i64 ((j : Int) - 1)).toNat = j - 1 := by
  rw [IntKind.wrap_i64]; omega
theorem less_irrefl : ∀ a : List UInt8, Op.bytesLess a a = false
  | [] => rfl
  | x :: a => by simp [Op.bytesLess, less_irrefl a]
theorem less_trans : ∀ a b c : List UInt8, Op.bytesLess a b = true → Op.bytesLess b c = true → Op.bytesLess a c = true
  | _, _, [], _, h => by simp [Op.bytesLess] at h
  | _, [], _ :: _, h, _ => by simp [Op.bytesLess] at h
  | [], _ :: _, _ :: _, _, _ => rfl
  | x :: a, y :: b, z :: c, h1, h2 => by
    simp only [Op.bytesLess, Bool.or_eq_true, Bool.and_eq_true, decide_eq_true_eq, beq_iff_eq] at h1 h2 ⊢
    rcases h1 with h1 | ⟨h1, h1'⟩ <;> rcases h2 with h2 | ⟨h2, h2'⟩
    · left; exact UInt8.lt_trans h1 h2
    · left; rw [← h2]; exact h1
    · left; rw [h1]; exact h2
    · right; exact ⟨h1.trans h2, less_trans a b c h1' h2'⟩
theorem less_total : ∀ a b : List UInt8, Op.bytesLess a b = false → a ≠ b → Op.bytesLess b a = true
  | [], [], _, h => absurd rfl h
  | x :: a, [], _, _ => rfl
  | [], y :: b, h, _ => by simp [Op.bytesLess] at h
  | x :: a, y :: b, h, hn => by
    simp only [Op.bytesLess, Bool.or_eq_false_iff, Bool.and_eq_false_iff, decide_eq_false_iff_not, beq_eq_false_iff_ne] at h
    simp only [Op.bytesLess, Bool.or_eq_true, Bool.and_eq_true, decide_eq_true_eq, beq_iff_eq]
    obtain ⟨h1, h2⟩ := h
    by_cases hxy : x = y
    · right
      refine ⟨hxy.symm, less_total a b ?_ (fun he => hn (by rw [hxy, he]))⟩
      rcases h2 with h2 | h2
      · exact absurd hxy h2
      · exact h2
    · left
      have : y ≤ x := UInt8.not_lt.1 h1
      exact UInt8.lt_of_le_of_ne this (fun e => hxy e.symm)
end Go.Ab

namespace Go.Ab
open Go Go.Proofs
theorem loopR_sim {ρ σ τ : Type} {b1 : Nat → σ → Except ρ σ} {b2 : Nat → τ → Except ρ τ} (R : Nat → σ → τ → Prop) : ∀ {k i : Nat} {s : σ} {t : τ}, R i s t →
    (∀ j u v, i ≤ j → j < i + k → R j u v → (∃ r, b1 j u = .error r ∧ b2 j v = .error r) ∨ ∃ u' v', b1 j u = .ok u' ∧ b2 j v = .ok v' ∧ R (j + 1) u' v') →
    (∃ r, loopR b1 k i s = .error r ∧ loopR b2 k i t = .error r) ∨ ∃ u v, loopR b1 k i s = .ok u ∧ loopR b2 k i t = .ok v ∧ R (i + k) u v
  | 0, i, s, t, h, _ => .inr ⟨s, t, rfl, rfl, h⟩
  | k + 1, i, s, t, h, hb => by
    simp only [loopR]
    rcases hb i s t (Nat.le_refl _) (by omega) h with ⟨r, h1, h2⟩ | ⟨u, v, h1, h2, h3⟩
    · rw [h1, h2]; exact .inl ⟨r, rfl, rfl⟩
    · rw [h1, h2]
      have := loopR_sim R (k := k) (i := i + 1) h3 (fun j u v q1 q2 q3 => hb j u v (by omega) (by omega) q3)
      rwa [show i + 1 + k = i + (k + 1) by omega] at this
theorem loopL_all {α σ ρ : Type} (p : α → Bool) (f : σ → α → σ) (r : ρ) : ∀ (l : List α) (s : σ), loopL (fun x s => (bif !(p x) then .error r else .ok (f s x) : Except ρ σ)) l s = bif l.all p then .ok (l.foldl f s) else .error r
  | [], s => by simp [loopL]
  | x :: l, s => by
    rw [loopL_cons]
    cases hx : p x with
    | false => simp [hx]
    | true =>
      simp only [Bool.not_true, cond_false, List.all_cons, hx, Bool.true_and, List.foldl_cons]
      exact loopL_all p f r l (f s x)
def GrpOk (g : List Int) : Prop := g.length ≤ 4 ∧ (∀ v ∈ g, 1 ≤ v ∧ v ≤ 9) ∧ g.sum ≤ 12 ∧ g ≠ [1]
theorem within_all (g : List Int) : g.all (fun v => impl_within v 1 9) = true ↔ ∀ v ∈ g, 1 ≤ v ∧ v ≤ 9 := by
  rw [List.all_eq_true]
  exact ⟨fun h v hv => by simpa [impl_within] using h v hv, fun h v hv => by simpa [impl_within] using h v hv⟩
theorem wsum (g : List Int) (h : g.length ≤ 4) (hv : ∀ v ∈ g, 1 ≤ v ∧ v ≤ 9) : g.foldl (fun s x => IntKind.wrap .i64 (s + x)) 0 = g.sum := by
  have hw : ∀ n : Int, -1000 ≤ n → n ≤ 1000 → IntKind.wrap .i64 n = n := fun n _ _ => by rw [IntKind.wrap_i64]; omega
  match g, h, hv with
  | [], _, _ => rfl
  | [a], _, hv =>
    have := hv a (by simp)
    simp only [List.foldl_cons, List.foldl_nil, List.sum_cons, List.sum_nil]
    rw [hw _ (by omega) (by omega)]; omega
  | [a, b], _, hv =>
    have := hv a (by simp); have := hv b (by simp)
    simp only [List.foldl_cons, List.foldl_nil, List.sum_cons, List.sum_nil]
    rw [hw (0 + a) (by omega) (by omega), hw _ (by omega) (by omega)]; omega
  | [a, b, c], _, hv =>
    have := hv a (by simp); have := hv b (by simp); have := hv c (by simp)
    simp only [List.foldl_cons, List.foldl_nil, List.sum_cons, List.sum_nil]
    rw [hw (0 + a) (by omega) (by omega), hw (0 + a + b) (by omega) (by omega), hw _ (by omega) (by omega)]; omega
  | [a, b, c, d], _, hv =>
    have := hv a (by simp); have := hv b (by simp); have := hv c (by simp); have := hv d (by simp)
    simp only [List.foldl_cons, List.foldl_nil, List.sum_cons, List.sum_nil]
    rw [hw (0 + a) (by omega) (by omega), hw (0 + a + b) (by omega) (by omega), hw (0 + a + b + c) (by omega) (by omega), hw _ (by omega) (by omega)]; omega
theorem ne_dec (x y : Int) : (x != y) = !decide (x = y) := by by_cases h : x = y <;> simp [h]
theorem equal_dec (a b : List Int) : slices_Equal_int64 a b = decide (a = b) := by
  unfold slices_Equal_int64
  by_cases hl : a.length = b.length
  · have h1 : ((a.length : Int) != (b.length : Int)) = false := by rw [hl]; simp
    rw [h1]
    simp only [cond_false]
    rw [loopR_any (b := slices_Equal_int64_b1 a b) (fun j => !decide (a.getD j default = b.getD j default)) false (fun j u _ _ => by
      simp only [slices_Equal_int64_b1, ne_dec])]
    simp only [Nat.sub_zero, Nat.zero_add]
    rw [any_ne a b hl]
    by_cases h : a = b <;> simp [h]
  · have h1 : ((a.length : Int) != (b.length : Int)) = true := by simp; omega
    rw [h1]
    have : ¬ a = b := fun h => hl (by rw [h])
    simp [this]
theorem isGroup_iff (g : List Int) : impl_isGroup g = true ↔ GrpOk g := by
  unfold impl_isGroup
  rw [loopR_list0 (b := impl_isGroup_b1 g) (fun (x : Int) (s : Int) => (bif !(impl_within x 1 9) then .error false else .ok (IntKind.wrap .i64 (s + x)) : Except Bool Int)) g 0 (fun j u _ => rfl), loopL_all (fun x => impl_within x 1 9) (fun s x => IntKind.wrap .i64 (s + x)) false]
  unfold GrpOk
  cases ha : g.all (fun x => impl_within x 1 9) with
  | false =>
    simp only [cond_false]
    constructor
    · intro h; cases h
    · rintro ⟨_, h, _⟩
      rw [(within_all g).2 h] at ha; cases ha
  | true =>
    have hv := (within_all g).1 ha
    simp only [cond_true, equal_dec, impl_few, Bool.and_eq_true, decide_eq_true_eq, Bool.not_eq_true', decide_eq_false_iff_not]
    constructor
    · rintro ⟨⟨h1, h2⟩, h3⟩
      rw [wsum g (by omega) hv] at h2
      exact ⟨by omega, hv, h2, h3⟩
    · rintro ⟨h1, _, h2, h3⟩
      rw [wsum g h1 hv]
      exact ⟨⟨by omega, h2⟩, h3⟩
theorem l05Group_iff (g : List Int) : spec_l05Group g = true ↔ GrpOk g := by
  unfold spec_l05Group
  rw [loopR_list0 (b := spec_l05Group_b1 g) (fun (x : Int) (s : Unit) => (bif !(impl_within x 1 9) then .error false else .ok () : Except Bool Unit)) g () (fun j u _ => rfl), loopL_all (fun x => impl_within x 1 9) (fun (s : Unit) x => ()) false]
  unfold GrpOk
  cases ha : g.all (fun x => impl_within x 1 9) with
  | false =>
    simp only [cond_false]
    constructor
    · intro h; cases h
    · rintro ⟨_, h, _⟩
      rw [(within_all g).2 h] at ha; cases ha
  | true =>
    have hv := (within_all g).1 ha
    have hsum : g.length ≤ 4 → (spec_l05Sum g ≤ 12 ↔ g.sum ≤ 12) := by
      intro h4
      unfold spec_l05Sum
      cases g with
      | nil => simp
      | cons x t =>
        have h0 : (((x :: t).length : Int) == 0) = false := by rw [beq_eq_false_iff_ne]; simp only [List.length_cons]; omega
        rw [h0]
        simp only [cond_false]
        rw [loopR_list0 (b := spec_l05Sum_b1 (x :: t)) (fun (y : Int) (s : Int) => (bif !((fun _ => true) y) then .error 0 else .ok (IntKind.wrap .i64 (s + y)) : Except Int Int)) (x :: t) 0 (fun j u _ => rfl), loopL_all (fun _ => true) (fun s x => IntKind.wrap .i64 (s + x)) 0]
        rw [show (x :: t).all (fun _ => true) = true by simp]
        simp only [cond_true]
        rw [wsum _ h4 hv]
    have hone : (!(((g.length : Int) == 1) && (g.getD 0 default == 1))) = true ↔ g ≠ [1] := by
      match g with
      | [] => simp
      | [a] => simp
      | a :: b :: t =>
        have : ((((a :: b :: t).length : Int)) == 1) = false := by rw [beq_eq_false_iff_ne]; simp only [List.length_cons]; omega
        rw [this]; simp
    simp only [cond_true]
    rw [Bool.and_eq_true, Bool.and_eq_true, hone, decide_eq_true_eq, decide_eq_true_eq]
    constructor
    · rintro ⟨⟨h1, h2⟩, h3⟩
      exact ⟨by omega, hv, (hsum (by omega)).1 h3, h2⟩
    · rintro ⟨h1, _, h2, h3⟩
      exact ⟨⟨by omega, h3⟩, (hsum h1).2 h2⟩
end Go.Ab
