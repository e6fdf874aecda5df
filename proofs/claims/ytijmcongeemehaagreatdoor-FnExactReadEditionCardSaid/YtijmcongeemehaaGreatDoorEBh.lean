/- The program's ReadEdition returns what the reference's returns, for all arguments. No conditions. -/
import Derived.Test.YtijmcongeemehaaGreatDoorEBg
import Derived.Test.YtijmcongeemehaaGreatDoorEAq
import Derived.Test.YtijmcongeemehaaGreatDoorEAn
import Derived.Test.YtijmcongeemehaaGreatDoorTie
import Derived.Test.YtijmcongeemehaaGreatDoorCards
import Derived.SevenTiedAt
import Derived.LaidMore
import Derived.OpenShut
import Derived.Stop.Joined
import Derived.Stop.LaidErr
import Derived.Lib.LaidTab
import Derived.Shelf.Vars
import Derived.Lay
set_option linter.unusedSectionVars false
set_option linter.unusedVariables false
set_option linter.unusedSimpArgs false
set_option maxHeartbeats 1000000
namespace Go.Proofs.YtijmcongeemehaaGreatDoor
open Go Go.Ab Go.Proofs Go.Deep Go.ChangeShapes Go.WideShapes Go.ChangeAt Go.RowKit
theorem own1 : ownKnob Tryz.prog.godebug = none := by kernel_rfl
theorem yn9 : laidOutB Tryz.prog = true := by kernel_rfl
theorem fnExactReadEdition_door (os : Os) (args : Array Value) : laidMetH Tryz.prog Rows.fnExactReadEditionRow.laid ((World.laidAll Tryz.prog os Rows.fnExactReadEditionRow.laid).forCall (fun _ _ => 0) ⟨#[], args, []⟩).memory := by
  rw [MakeChecks.laidMetH_plain _ _ _ (by kernel_rfl)]
  exact laidMet_laidAll _ (by kernel_rfl) (by kernel_rfl)
set_option maxRecDepth 100000 in
theorem fnExactReadEdition_tabs {W : World} (h : laidMetH Tryz.prog Rows.fnExactReadEditionRow.laid W) (hs : W.ShapedOpen Tryz.prog) : Inv.ok W := by
  rw [MakeChecks.laidMetH_plain _ _ _ (by kernel_rfl)] at h
  exact ⟨⟨Go.Lib.tabIs_of_head g0 (t := 272) (e := 145) (n := 20) (by kernel_rfl) (by kernel_rfl) (by kernel_rfl) (by kernel_rfl) (by kernel_rfl) (by exact (laidMet.tail (laidMet.tail h))),
    cell_of_shapedOpen_int (g := 1) (t := 3) (zero := #[.int .i64 0]) hs (of_decide_eq_true (by kernel_rfl)) (by kernel_rfl) rfl (by kernel_rfl) (by kernel_rfl) (by kernel_rfl)⟩, ymi (g := 3) (ti := 176) (laidMet.tail (laidMet.tail (laidMet.tail (laidMet.tail (laidMet.tail h))))) (by kernel_rfl) (by kernel_rfl) Tryz.underlying176,
    ymi (g := 4) (ti := 176) (laidMet.tail (laidMet.tail (laidMet.tail (laidMet.tail h)))) (by kernel_rfl) (by kernel_rfl) Tryz.underlying176, Go.Lib.tabIs_of_head g1 (t := 266) (e := 5) (n := 256) (by kernel_rfl) (by kernel_rfl) (by kernel_rfl) (by kernel_rfl) (by kernel_rfl) (by exact (laidMet.tail (laidMet.tail (laidMet.tail (laidMet.tail (laidMet.tail (laidMet.tail (laidMet.tail h))))))))⟩
set_option maxRecDepth 100000 in
theorem fnExactReadEdition_lifted (os : Os) (started : os.Started) (H : Type) (enc : TypeId × Value → H) :
    ReturnsInHanded {} Tryz.checked os 6 .any (fun w args => (Rows.fnExactReadEditionSpec.pre enc Tryz.prog Tryz.f6 [] false w args ∧ laidMetH Tryz.prog Rows.fnExactReadEditionRow.laid w) ∧ sizedMet enc Tryz.prog Tryz.f6 (OpenSpec.ofChange Rows.fnExactReadEditionSpec) false w args) (Rows.fnExactReadEditionSpec.post enc Tryz.prog Tryz.f6 false true false false) := by
  refine y9c (C := Tryz.checked) (X := fun w _ => laidMetH Tryz.prog Rows.fnExactReadEditionRow.laid w) (fun _ _ _ hh h => h.of_heap hh) own1 started (by kernel_rfl) Tryz.func6
    (ChangeSpec.witness_shaped (enc := enc) (C := Tryz.checked) (os := os) (X := fun w _ => laidMetH Tryz.prog Rows.fnExactReadEditionRow.laid w) false (World.laidAll Tryz.prog os Rows.fnExactReadEditionRow.laid) #[.string ⟨#[]⟩] 8 (World.laidAll_os _ _ _) (World.shaped_of_ZipB (by kernel_rfl) (by kernel_rfl)) (by kernel_rfl) (by kernel_rfl) (by kernel_rfl) (fnExactReadEdition_door os _)) ?_
  intro W base args ds gs before hval0 hW hcnd hL hsh
  have hval : ∀ (j : Nat) t v, Tryz.f6.params[j]? = some t → args[j]? = some v → Value.okWide Tryz.prog W .any base t v := hval0
  have hW' := hW
  obtain ⟨p, q, hA0, hV, rfl, hfz, hnd⟩ := hW
  have hA : DataW.TrodAll enc Tryz.prog W 0 (fun _ => true) true Tryz.f6.params.toList args.toList ds p := hA0
  rw [Tryz.params6] at hA hval
  obtain ⟨v0, vs0, d0, ds0, p0, q0, hargs0, rfl, rfl, h0, r0⟩ := trodAll_cons hA
  obtain ⟨hn, rfl, rfl⟩ := trodAll_nil r0
  subst hn
  obtain rfl : args = #[v0] := by cases args; simp_all
  obtain ⟨a0, hr0⟩ := y5x (yd8 Tryz.underlying9) (by
    have := hval 0 9 v0 rfl rfl
    rintro us rfl
    simp [Value.okWide, Tryz.underlying9, Cell.okWide, Cell.ok] at this) h0
  have hf0 : a0.length < 9223372036854775808 := Nat.lt_succ_of_le (Rep.lens _ hr0)
  have hgs : gs = [] := by
    cases gs with
    | nil => rfl
    | cons _ _ => exact hV.elim
  subst hgs
  have hden := ztg_den a0 
  rw [ybm a0 hf0] at hden
  exact yj4 (tb := 4) yn9 rfl Tryz.underlying4 rfl (by kernel_rfl) (fun _ _ => ⟨rfl, rfl, rfl⟩) hW' (fnExactReadEdition_tabs hL hsh) hden (by simp only [RepL]; exact ⟨v0, [], [], [], rfl, rfl, hr0, rfl, rfl⟩)
theorem y0e {a b : Bool} (h : a = true) (k : b = true) : (a && b) = true := by rw [h, k]; rfl
set_option maxHeartbeats 8000000 in
theorem fnExactReadEdition_closed : joinedFacts Tryz.prog 6 Tryz.f6 Rows.fnExactReadEditionSpec Rows.fnExactReadEditionRow = true := by
  unfold joinedFacts
  repeat' with_reducible refine y0e ?_ ?_
  all_goals as_aux_lemma => kernel_rfl
theorem fnExactReadEdition_holds : Rows.FnExactReadEditionSaid :=
  OpenClaim.holds_of_wide 6 Tryz.f6 rfl rfl rfl rfl rfl rfl rfl ⟨rfl, rfl, rfl, rfl, rfl⟩ rfl rfl rfl rfl rfl (by as_aux_lemma => kernel_rfl) Tryz.func6 fnExactReadEdition_closed
    (of_decide_eq_true (by as_aux_lemma => kernel_rfl)) (by unfold Func.isWrapper; first | (rw [if_pos (by decide +kernel)]; kernel_rfl) | (rw [if_neg (by decide +kernel)]; exact ⟨rfl, rfl⟩))
    (fun os started H enc _ => fnExactReadEdition_lifted os started H enc)
theorem fnExactReadEditionCard_holds : Rows.FnExactReadEditionCardSaid :=
  Claim7.holds_tied_plain_at .later [] [.data, .data, .data, .data, .sentinel, .sentinel, .listed, .data, .pinned] true Rows.fnExactReadEditionCard.stood.harness true
    fnExactReadEdition_holds (fun _ h => by cases h) (by as_aux_lemma => kernel_rfl) (fun _ h => by cases h) fnExactReadEdition_row_tie rfl ⟨rfl, rfl⟩ (by as_aux_lemma => kernel_rfl) rfl
    (fun f fn hf hfn => by
      obtain rfl : f = 6 := Option.some.inj ((show Tryz.prog.funcNamed Rows.fnExactReadEditionRow.func = some 6 by kernel_rfl).symm.trans hf) |>.symm
      obtain rfl : fn = Tryz.f6 := (Option.some.inj (Tryz.func6.symm.trans hfn)).symm
      exact ⟨by as_aux_lemma => kernel_rfl, fun j t ht => by
        rw [Tryz.params6] at ht
        have hm : t ∈ [9] := by simpa using Array.mem_of_getElem? ht
        have hall : ([9].all fun u => !Tryz.prog.wantsStandIn u) = true := by kernel_rfl
        exact (show Tryz.prog.wantsStandIn t = false by simpa using List.all_eq_true.1 hall t hm)⟩)
    (by as_aux_lemma => kernel_rfl)
end Go.Proofs.YtijmcongeemehaaGreatDoor
