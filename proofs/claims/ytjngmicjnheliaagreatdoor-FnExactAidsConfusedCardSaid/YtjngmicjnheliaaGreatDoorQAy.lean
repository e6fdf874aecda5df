/- The program's AidsConfused returns what the reference's returns, for all arguments. No conditions. -/
import Derived.Test.YtjngmicjnheliaaGreatDoorQAx
import Derived.Test.YtjngmicjnheliaaGreatDoorQAo
import Derived.Test.YtjngmicjnheliaaGreatDoorQAm
import Derived.Test.YtjngmicjnheliaaGreatDoorTie
import Derived.Test.YtjngmicjnheliaaGreatDoorCards
import Derived.SevenTiedAt
import Derived.LaidMore
import Derived.OpenShut
import Derived.Stop.Joined
import Derived.Stop.LaidErr
import Derived.Lib.LaidTab
import Derived.Shelf.Vars
import Derived.Lay
set_option linter.unusedSectionVars false
set_option linter.unusedVariables false
set_option linter.unusedSimpArgs false
set_option maxHeartbeats 1000000
namespace Go.Proofs.YtjngmicjnheliaaGreatDoor
open Go Go.Ab Go.Proofs Go.Deep Go.ChangeShapes Go.WideShapes Go.ChangeAt Go.RowKit
theorem own1 : ownKnob Tryz.prog.godebug = none := by kernel_rfl
theorem y1z : laidOutB Tryz.prog = true := by kernel_rfl
theorem fnExactAidsConfused_door (os : Os) (args : Array Value) : laidMetH Tryz.prog Rows.fnExactAidsConfusedRow.laid ((World.laidAll Tryz.prog os Rows.fnExactAidsConfusedRow.laid).forCall (fun _ _ => 0) ⟨#[], args, []⟩).memory := by
  rw [MakeChecks.laidMetH_plain _ _ _ (by kernel_rfl)]
  exact laidMet_laidAll _ (by kernel_rfl) (by kernel_rfl)
set_option maxRecDepth 100000 in
theorem fnExactAidsConfused_tabs {W : World} (h : laidMetH Tryz.prog Rows.fnExactAidsConfusedRow.laid W) (hs : W.ShapedOpen Tryz.prog) : Inv.ok W := by
  rw [MakeChecks.laidMetH_plain _ _ _ (by kernel_rfl)] at h
  exact Go.Lib.tabIs_of_head g0 (t := 134) (e := 5) (n := 256) (by kernel_rfl) (by kernel_rfl) (by kernel_rfl) (by kernel_rfl) (by kernel_rfl) (by exact (laidMet.tail h))
set_option maxRecDepth 100000 in
theorem fnExactAidsConfused_lifted (os : Os) (started : os.Started) (H : Type) (enc : TypeId × Value → H) :
    ReturnsInHanded {} Tryz.checked os 3 .any (fun w args => (Rows.fnExactAidsConfusedSpec.pre enc Tryz.prog Tryz.f3 [] false w args ∧ laidMetH Tryz.prog Rows.fnExactAidsConfusedRow.laid w) ∧ sizedMet enc Tryz.prog Tryz.f3 (OpenSpec.ofChange Rows.fnExactAidsConfusedSpec) false w args) (Rows.fnExactAidsConfusedSpec.post enc Tryz.prog Tryz.f3 false true false false) := by
  refine y8b (C := Tryz.checked) (X := fun w _ => laidMetH Tryz.prog Rows.fnExactAidsConfusedRow.laid w) (fun _ _ _ hh h => h.of_heap hh) own1 started (by kernel_rfl) Tryz.func3
    (ChangeSpec.witness_shaped (enc := enc) (C := Tryz.checked) (os := os) (X := fun w _ => laidMetH Tryz.prog Rows.fnExactAidsConfusedRow.laid w) false (World.laidAll Tryz.prog os Rows.fnExactAidsConfusedRow.laid) #[.agg #[.int .i64 0, .string ⟨#[]⟩, .int .i64 0, .int .i64 0, .int .i64 0, .int .i64 0, .string ⟨#[]⟩, .string ⟨#[]⟩, .string ⟨#[]⟩, .int .i64 0, .slice none 0 0, .string ⟨#[]⟩, .string ⟨#[]⟩, .int .i64 0, .slice none 0 0, .int .i64 0], .agg #[.int .i64 0, .string ⟨#[]⟩, .int .i64 0, .int .i64 0, .int .i64 0, .int .i64 0, .string ⟨#[]⟩, .string ⟨#[]⟩, .string ⟨#[]⟩, .int .i64 0, .slice none 0 0, .string ⟨#[]⟩, .string ⟨#[]⟩, .int .i64 0, .slice none 0 0, .int .i64 0], .int .i64 0] 8 (World.laidAll_os _ _ _) (World.shaped_of_ZipB (by kernel_rfl) (by kernel_rfl)) (by kernel_rfl) (by kernel_rfl) (by kernel_rfl) (fnExactAidsConfused_door os _)) ?_
  intro W base args ds gs before hval0 hW hcnd hL hsh
  have hval : ∀ (j : Nat) t v, Tryz.f3.params[j]? = some t → args[j]? = some v → Value.okWide Tryz.prog W .any base t v := hval0
  have hW' := hW
  obtain ⟨p, q, hA0, hV, rfl, hfz, hnd⟩ := hW
  have hA : DataW.TrodAll enc Tryz.prog W 0 (fun _ => true) true Tryz.f3.params.toList args.toList ds p := hA0
  rw [Tryz.params3] at hA hval
  obtain ⟨v0, vs0, d0, ds0, p0, q0, hargs0, rfl, rfl, h0, r0⟩ := trodAll_cons hA
  obtain ⟨v1, vs1, d1, ds1, p1, q1, hargs1, rfl, rfl, h1, r1⟩ := trodAll_cons r0
  obtain ⟨v2, vs2, d2, ds2, p2, q2, hargs2, rfl, rfl, h2, r2⟩ := trodAll_cons r1
  obtain ⟨hn, rfl, rfl⟩ := trodAll_nil r2
  subst hn
  subst hargs2
  subst hargs1
  obtain rfl : args = #[v0, v1, v2] := by cases args; simp_all
  obtain ⟨us0, rfl⟩ : ∃ us, v0 = .agg us := by
    have := hval 0 31 v0 rfl rfl
    simp only [Value.okWide, Tryz.underlying31] at this
    obtain ⟨us, rfl, _⟩ := this
    exact ⟨us, rfl⟩
  obtain ⟨a0, hr0⟩ := y7i ycz h0
  have hf0 : bwAid a0 := ydb a0 (Rep.lens _ hr0)
  obtain ⟨us1, rfl⟩ : ∃ us, v1 = .agg us := by
    have := hval 1 31 v1 rfl rfl
    simp only [Value.okWide, Tryz.underlying31] at this
    obtain ⟨us, rfl, _⟩ := this
    exact ⟨us, rfl⟩
  obtain ⟨a1, hr1⟩ := y7i ycz h1
  have hf1 : bwAid a1 := ydb a1 (Rep.lens _ hr1)
  obtain ⟨a2, hr2⟩ := yxr (ykd (k := .i64) Tryz.underlying2) (by
    have := hval 2 2 v2 rfl rfl
    rintro us rfl
    simp [Value.okWide, Tryz.underlying2, Cell.okWide, Cell.ok] at this) h2
  have hgs : gs = [] := by
    cases gs with
    | nil => rfl
    | cons _ _ => exact hV.elim
  subst hgs
  have hden := zkf_den a0 a1 a2 
  rw [ykg a0 a1 a2 hf0 hf1] at hden
  exact yqu (tb := 4) y1z rfl Tryz.underlying4 rfl (by kernel_rfl) (fun _ _ => ⟨rfl, rfl, rfl⟩) hW' (fnExactAidsConfused_tabs hL hsh) hden (by simp only [RepL]; exact ⟨.agg us0, [.agg us1, v2], [], [], rfl, rfl, hr0, .agg us1, [v2], [], [], rfl, rfl, hr1, v2, [], [], [], rfl, rfl, hr2, rfl, rfl⟩)
theorem y4c {a b : Bool} (h : a = true) (k : b = true) : (a && b) = true := by rw [h, k]; rfl
set_option maxHeartbeats 8000000 in
theorem fnExactAidsConfused_closed : joinedFacts Tryz.prog 3 Tryz.f3 Rows.fnExactAidsConfusedSpec Rows.fnExactAidsConfusedRow = true := by
  unfold joinedFacts
  repeat' with_reducible refine y4c ?_ ?_
  all_goals as_aux_lemma => kernel_rfl
theorem fnExactAidsConfused_holds : Rows.FnExactAidsConfusedSaid :=
  OpenClaim.holds_of_wide 3 Tryz.f3 rfl rfl rfl rfl rfl rfl rfl ⟨rfl, rfl, rfl, rfl, rfl⟩ rfl rfl rfl rfl rfl (by as_aux_lemma => kernel_rfl) Tryz.func3 fnExactAidsConfused_closed
    (of_decide_eq_true (by as_aux_lemma => kernel_rfl)) (by unfold Func.isWrapper; first | (rw [if_pos (by decide +kernel)]; kernel_rfl) | (rw [if_neg (by decide +kernel)]; exact ⟨rfl, rfl⟩))
    (fun os started H enc _ => fnExactAidsConfused_lifted os started H enc)
theorem fnExactAidsConfusedCard_holds : Rows.FnExactAidsConfusedCardSaid :=
  Claim7.holds_tied_plain_at .later [] [.listed, .data] true Rows.fnExactAidsConfusedCard.stood.harness false
    fnExactAidsConfused_holds (fun _ h => by cases h) (by as_aux_lemma => kernel_rfl) (fun _ h => by cases h) fnExactAidsConfused_row_tie rfl ⟨rfl, rfl⟩ (by as_aux_lemma => kernel_rfl) rfl
    (fun f fn hf hfn => by
      obtain rfl : f = 3 := Option.some.inj ((show Tryz.prog.funcNamed Rows.fnExactAidsConfusedRow.func = some 3 by kernel_rfl).symm.trans hf) |>.symm
      obtain rfl : fn = Tryz.f3 := (Option.some.inj (Tryz.func3.symm.trans hfn)).symm
      exact ⟨by as_aux_lemma => kernel_rfl, fun j t ht => by
        rw [Tryz.params3] at ht
        have hm : t ∈ [31, 31, 2] := by simpa using Array.mem_of_getElem? ht
        have hall : ([31, 31, 2].all fun u => !Tryz.prog.wantsStandIn u) = true := by kernel_rfl
        exact (show Tryz.prog.wantsStandIn t = false by simpa using List.all_eq_true.1 hall t hm)⟩)
    (by as_aux_lemma => kernel_rfl)
end Go.Proofs.YtjngmicjnheliaaGreatDoor
