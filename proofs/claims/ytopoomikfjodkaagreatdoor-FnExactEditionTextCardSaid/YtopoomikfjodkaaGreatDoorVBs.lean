/- The program's EditionText returns what the reference's returns, for all arguments. No conditions. -/
import Derived.Test.YtopoomikfjodkaaGreatDoorVBo
import Derived.Test.YtopoomikfjodkaaGreatDoorVAp
import Derived.Test.YtopoomikfjodkaaGreatDoorVAm
import Derived.Test.YtopoomikfjodkaaGreatDoorTie
import Derived.Test.YtopoomikfjodkaaGreatDoorCards
import Derived.SevenTiedAt
import Derived.LaidMore
import Derived.OpenShut
import Derived.Stop.Joined
import Derived.Stop.LaidErr
import Derived.Lib.LaidTab
import Derived.Shelf.Vars
import Derived.Lay
set_option linter.unusedSectionVars false
set_option linter.unusedVariables false
set_option linter.unusedSimpArgs false
set_option maxHeartbeats 1000000
namespace Go.Proofs.YtopoomikfjodkaaGreatDoor
open Go Go.Ab Go.Proofs Go.Deep Go.ChangeShapes Go.WideShapes Go.ChangeAt Go.RowKit
theorem own1 : ownKnob Tryz.prog.godebug = none := by kernel_rfl
theorem ynq : laidOutB Tryz.prog = true := by kernel_rfl
theorem fnExactEditionText_door (os : Os) (args : Array Value) : laidMetH Tryz.prog Rows.fnExactEditionTextRow.laid ((World.laidAll Tryz.prog os Rows.fnExactEditionTextRow.laid).forCall (fun _ _ => 0) ⟨#[], args, []⟩).memory := by
  rw [MakeChecks.laidMetH_plain _ _ _ (by kernel_rfl)]
  exact laidMet_laidAll _ (by kernel_rfl) (by kernel_rfl)
set_option maxRecDepth 100000 in
theorem fnExactEditionText_tabs {W : World} (h : laidMetH Tryz.prog Rows.fnExactEditionTextRow.laid W) (hs : W.ShapedOpen Tryz.prog) : Inv.ok W := by
  rw [MakeChecks.laidMetH_plain _ _ _ (by kernel_rfl)] at h
  exact ⟨⟨Go.Lib.tabIs_of_head g0 (t := 329) (e := 203) (n := 20) (by kernel_rfl) (by kernel_rfl) (by kernel_rfl) (by kernel_rfl) (by kernel_rfl) (by exact (laidMet.tail (laidMet.tail h))),
    cell_of_shapedOpen_int (g := 2) (t := 3) (zero := #[.int .i64 0]) hs (of_decide_eq_true (by kernel_rfl)) (by kernel_rfl) rfl (by kernel_rfl) (by kernel_rfl) (by kernel_rfl)⟩, trivial, trivial, Go.Lib.tabIs_of_head g1 (t := 256) (e := 5) (n := 256) (by kernel_rfl) (by kernel_rfl) (by kernel_rfl) (by kernel_rfl) (by kernel_rfl) (by exact (laidMet.tail (laidMet.tail (laidMet.tail (laidMet.tail h)))))⟩
set_option maxRecDepth 100000 in
theorem fnExactEditionText_lifted (os : Os) (started : os.Started) (H : Type) (enc : TypeId × Value → H) :
    ReturnsInHanded {} Tryz.checked os 7 .any (fun w args => (Rows.fnExactEditionTextSpec.pre enc Tryz.prog Tryz.f7 [] false w args ∧ laidMetH Tryz.prog Rows.fnExactEditionTextRow.laid w) ∧ sizedMet enc Tryz.prog Tryz.f7 (OpenSpec.ofChange Rows.fnExactEditionTextSpec) false w args) (Rows.fnExactEditionTextSpec.post enc Tryz.prog Tryz.f7 false true false false) := by
  refine y8 (C := Tryz.checked) (X := fun w _ => laidMetH Tryz.prog Rows.fnExactEditionTextRow.laid w) (fun _ _ _ hh h => h.of_heap hh) own1 started (by kernel_rfl) Tryz.func7
    (ChangeSpec.witness_shaped (enc := enc) (C := Tryz.checked) (os := os) (X := fun w _ => laidMetH Tryz.prog Rows.fnExactEditionTextRow.laid w) false (World.laidAll Tryz.prog os Rows.fnExactEditionTextRow.laid) #[.agg #[.int .i64 0, .int .i64 0, .slice none 0 0]] 8 (World.laidAll_os _ _ _) (World.shaped_of_ZipB (by kernel_rfl) (by kernel_rfl)) (by kernel_rfl) (by kernel_rfl) (by kernel_rfl) (fnExactEditionText_door os _)) ?_
  intro W base args ds gs before hval0 hW hcnd hL hsh
  have hval : ∀ (j : Nat) t v, Tryz.f7.params[j]? = some t → args[j]? = some v → Value.okWide Tryz.prog W .any base t v := hval0
  have hW' := hW
  obtain ⟨p, q, hA0, hV, rfl, hfz, hnd⟩ := hW
  have hA : DataW.TrodAll enc Tryz.prog W 0 (fun _ => true) true Tryz.f7.params.toList args.toList ds p := hA0
  rw [Tryz.params7] at hA hval
  obtain ⟨v0, vs0, d0, ds0, p0, q0, hargs0, rfl, rfl, h0, r0⟩ := trodAll_cons hA
  obtain ⟨hn, rfl, rfl⟩ := trodAll_nil r0
  subst hn
  obtain rfl : args = #[v0] := by cases args; simp_all
  obtain ⟨us0, rfl⟩ : ∃ us, v0 = .agg us := by
    have := hval 0 86 v0 rfl rfl
    simp only [Value.okWide, Tryz.underlying86] at this
    obtain ⟨us, rfl, _⟩ := this
    exact ⟨us, rfl⟩
  obtain ⟨a0, hr0⟩ := y4g yq5 h0
  have hf0 : bwEdition a0 := ydb a0 (Rep.lens _ hr0)
  have hgs : gs = [] := by
    cases gs with
    | nil => rfl
    | cons _ _ => exact hV.elim
  subst hgs
  have hden := zfh_den a0 
  rw [yrj a0 hf0] at hden
  exact yei (tb := 4) ynq rfl Tryz.underlying4 rfl (by kernel_rfl) (fun _ _ => ⟨rfl, rfl, rfl⟩) hW' (fnExactEditionText_tabs hL hsh) hden (by simp only [RepL]; exact ⟨.agg us0, [], [], [], rfl, rfl, hr0, rfl, rfl⟩)
theorem y3d {a b : Bool} (h : a = true) (k : b = true) : (a && b) = true := by rw [h, k]; rfl
set_option maxHeartbeats 8000000 in
theorem fnExactEditionText_closed : joinedFacts Tryz.prog 7 Tryz.f7 Rows.fnExactEditionTextSpec Rows.fnExactEditionTextRow = true := by
  unfold joinedFacts
  repeat' with_reducible refine y3d ?_ ?_
  all_goals as_aux_lemma => kernel_rfl
theorem fnExactEditionText_holds : Rows.FnExactEditionTextSaid :=
  OpenClaim.holds_of_wide 7 Tryz.f7 rfl rfl rfl rfl rfl rfl rfl ⟨rfl, rfl, rfl, rfl, rfl⟩ rfl rfl rfl rfl rfl (by as_aux_lemma => kernel_rfl) Tryz.func7 fnExactEditionText_closed
    (of_decide_eq_true (by as_aux_lemma => kernel_rfl)) (by unfold Func.isWrapper; first | (rw [if_pos (by decide +kernel)]; kernel_rfl) | (rw [if_neg (by decide +kernel)]; exact ⟨rfl, rfl⟩))
    (fun os started H enc _ => fnExactEditionText_lifted os started H enc)
theorem fnExactEditionTextCard_holds : Rows.FnExactEditionTextCardSaid :=
  Claim7.holds_tied_plain_at .later [] [.data, .data, .data, .listed, .data] true Rows.fnExactEditionTextCard.stood.harness true
    fnExactEditionText_holds (fun _ h => by cases h) (by as_aux_lemma => kernel_rfl) (fun _ h => by cases h) fnExactEditionText_row_tie rfl ⟨rfl, rfl⟩ (by as_aux_lemma => kernel_rfl) rfl
    (fun f fn hf hfn => by
      obtain rfl : f = 7 := Option.some.inj ((show Tryz.prog.funcNamed Rows.fnExactEditionTextRow.func = some 7 by kernel_rfl).symm.trans hf) |>.symm
      obtain rfl : fn = Tryz.f7 := (Option.some.inj (Tryz.func7.symm.trans hfn)).symm
      exact ⟨by as_aux_lemma => kernel_rfl, fun j t ht => by
        rw [Tryz.params7] at ht
        have hm : t ∈ [86] := by simpa using Array.mem_of_getElem? ht
        have hall : ([86].all fun u => !Tryz.prog.wantsStandIn u) = true := by kernel_rfl
        exact (show Tryz.prog.wantsStandIn t = false by simpa using List.all_eq_true.1 hall t hm)⟩)
    (by as_aux_lemma => kernel_rfl)
end Go.Proofs.YtopoomikfjodkaaGreatDoor
