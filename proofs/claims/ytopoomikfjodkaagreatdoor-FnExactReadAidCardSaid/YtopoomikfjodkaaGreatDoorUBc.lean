/- The program's ReadAid returns what the reference's returns, for all arguments. No conditions. -/
import Derived.Test.YtopoomikfjodkaaGreatDoorUBb
import Derived.Test.YtopoomikfjodkaaGreatDoorUAp
import Derived.Test.YtopoomikfjodkaaGreatDoorUAm
import Derived.Test.YtopoomikfjodkaaGreatDoorTie
import Derived.Test.YtopoomikfjodkaaGreatDoorCards
import Derived.SevenTiedAt
import Derived.LaidMore
import Derived.OpenShut
import Derived.Stop.Joined
import Derived.Stop.LaidErr
import Derived.Lib.LaidTab
import Derived.Shelf.Vars
import Derived.Lay
set_option linter.unusedSectionVars false
set_option linter.unusedVariables false
set_option linter.unusedSimpArgs false
set_option maxHeartbeats 1000000
namespace Go.Proofs.YtopoomikfjodkaaGreatDoor
open Go Go.Ab Go.Proofs Go.Deep Go.ChangeShapes Go.WideShapes Go.ChangeAt Go.RowKit
theorem own1 : ownKnob Tryz.prog.godebug = none := by kernel_rfl
theorem yb5 : laidOutB Tryz.prog = true := by kernel_rfl
theorem fnExactReadAid_door (os : Os) (args : Array Value) : laidMetH Tryz.prog Rows.fnExactReadAidRow.laid ((World.laidAll Tryz.prog os Rows.fnExactReadAidRow.laid).forCall (fun _ _ => 0) ⟨#[], args, []⟩).memory := by
  rw [MakeChecks.laidMetH_plain _ _ _ (by kernel_rfl)]
  exact laidMet_laidAll _ (by kernel_rfl) (by kernel_rfl)
set_option maxRecDepth 100000 in
theorem fnExactReadAid_tabs {W : World} (h : laidMetH Tryz.prog Rows.fnExactReadAidRow.laid W) (hs : W.ShapedOpen Tryz.prog) : Inv.ok W := by
  rw [MakeChecks.laidMetH_plain _ _ _ (by kernel_rfl)] at h
  exact ⟨⟨Go.Lib.tabIs_of_head g0 (t := 329) (e := 203) (n := 20) (by kernel_rfl) (by kernel_rfl) (by kernel_rfl) (by kernel_rfl) (by kernel_rfl) (by exact (laidMet.tail (laidMet.tail h))),
    cell_of_shapedOpen_int (g := 2) (t := 3) (zero := #[.int .i64 0]) hs (of_decide_eq_true (by kernel_rfl)) (by kernel_rfl) rfl (by kernel_rfl) (by kernel_rfl) (by kernel_rfl)⟩, y6f (g := 4) (ti := 212) (laidMet.tail (laidMet.tail (laidMet.tail (laidMet.tail (laidMet.tail h))))) (by kernel_rfl) (by kernel_rfl) Tryz.underlying212,
    y6f (g := 5) (ti := 212) (laidMet.tail (laidMet.tail (laidMet.tail (laidMet.tail h)))) (by kernel_rfl) (by kernel_rfl) Tryz.underlying212, Go.Lib.tabIs_of_head g1 (t := 256) (e := 5) (n := 256) (by kernel_rfl) (by kernel_rfl) (by kernel_rfl) (by kernel_rfl) (by kernel_rfl) (by exact (laidMet.tail (laidMet.tail (laidMet.tail (laidMet.tail (laidMet.tail (laidMet.tail (laidMet.tail h))))))))⟩
set_option maxRecDepth 100000 in
theorem fnExactReadAid_lifted (os : Os) (started : os.Started) (H : Type) (enc : TypeId × Value → H) :
    ReturnsInHanded {} Tryz.checked os 8 .any (fun w args => (Rows.fnExactReadAidSpec.pre enc Tryz.prog Tryz.f8 [] false w args ∧ laidMetH Tryz.prog Rows.fnExactReadAidRow.laid w) ∧ sizedMet enc Tryz.prog Tryz.f8 (OpenSpec.ofChange Rows.fnExactReadAidSpec) false w args) (Rows.fnExactReadAidSpec.post enc Tryz.prog Tryz.f8 false true false false) := by
  refine ykc (C := Tryz.checked) (X := fun w _ => laidMetH Tryz.prog Rows.fnExactReadAidRow.laid w) (fun _ _ _ hh h => h.of_heap hh) own1 started (by kernel_rfl) Tryz.func8
    (ChangeSpec.witness_shaped (enc := enc) (C := Tryz.checked) (os := os) (X := fun w _ => laidMetH Tryz.prog Rows.fnExactReadAidRow.laid w) false (World.laidAll Tryz.prog os Rows.fnExactReadAidRow.laid) #[.string ⟨#[]⟩] 8 (World.laidAll_os _ _ _) (World.shaped_of_ZipB (by kernel_rfl) (by kernel_rfl)) (by kernel_rfl) (by kernel_rfl) (by kernel_rfl) (fnExactReadAid_door os _)) ?_
  intro W base args ds gs before hval0 hW hcnd hL hsh
  have hval : ∀ (j : Nat) t v, Tryz.f8.params[j]? = some t → args[j]? = some v → Value.okWide Tryz.prog W .any base t v := hval0
  have hW' := hW
  obtain ⟨p, q, hA0, hV, rfl, hfz, hnd⟩ := hW
  have hA : DataW.TrodAll enc Tryz.prog W 0 (fun _ => true) true Tryz.f8.params.toList args.toList ds p := hA0
  rw [Tryz.params8] at hA hval
  obtain ⟨v0, vs0, d0, ds0, p0, q0, hargs0, rfl, rfl, h0, r0⟩ := trodAll_cons hA
  obtain ⟨hn, rfl, rfl⟩ := trodAll_nil r0
  subst hn
  obtain rfl : args = #[v0] := by cases args; simp_all
  obtain ⟨a0, hr0⟩ := yww (ys3 Tryz.underlying9) (by
    have := hval 0 9 v0 rfl rfl
    rintro us rfl
    simp [Value.okWide, Tryz.underlying9, Cell.okWide, Cell.ok] at this) h0
  have hf0 : a0.length < 9223372036854775808 := Nat.lt_succ_of_le (Rep.lens _ hr0)
  have hgs : gs = [] := by
    cases gs with
    | nil => rfl
    | cons _ _ => exact hV.elim
  subst hgs
  have hden := zuf_den a0 
  rw [yyq a0 hf0] at hden
  exact y5y (tb := 4) yb5 rfl Tryz.underlying4 rfl (by kernel_rfl) (fun _ _ => ⟨rfl, rfl, rfl⟩) hW' (fnExactReadAid_tabs hL hsh) hden (by simp only [RepL]; exact ⟨v0, [], [], [], rfl, rfl, hr0, rfl, rfl⟩)
theorem ynf {a b : Bool} (h : a = true) (k : b = true) : (a && b) = true := by rw [h, k]; rfl
set_option maxHeartbeats 8000000 in
theorem fnExactReadAid_closed : joinedFacts Tryz.prog 8 Tryz.f8 Rows.fnExactReadAidSpec Rows.fnExactReadAidRow = true := by
  unfold joinedFacts
  repeat' with_reducible refine ynf ?_ ?_
  all_goals as_aux_lemma => kernel_rfl
theorem fnExactReadAid_holds : Rows.FnExactReadAidSaid :=
  OpenClaim.holds_of_wide 8 Tryz.f8 rfl rfl rfl rfl rfl rfl rfl ⟨rfl, rfl, rfl, rfl, rfl⟩ rfl rfl rfl rfl rfl (by as_aux_lemma => kernel_rfl) Tryz.func8 fnExactReadAid_closed
    (of_decide_eq_true (by as_aux_lemma => kernel_rfl)) (by unfold Func.isWrapper; first | (rw [if_pos (by decide +kernel)]; kernel_rfl) | (rw [if_neg (by decide +kernel)]; exact ⟨rfl, rfl⟩))
    (fun os started H enc _ => fnExactReadAid_lifted os started H enc)
theorem fnExactReadAidCard_holds : Rows.FnExactReadAidCardSaid :=
  Claim7.holds_tied_plain_at .later [] [.data, .data, .data, .data, .sentinel, .sentinel, .listed, .data, .pinned] true Rows.fnExactReadAidCard.stood.harness true
    fnExactReadAid_holds (fun _ h => by cases h) (by as_aux_lemma => kernel_rfl) (fun _ h => by cases h) fnExactReadAid_row_tie rfl ⟨rfl, rfl⟩ (by as_aux_lemma => kernel_rfl) rfl
    (fun f fn hf hfn => by
      obtain rfl : f = 8 := Option.some.inj ((show Tryz.prog.funcNamed Rows.fnExactReadAidRow.func = some 8 by kernel_rfl).symm.trans hf) |>.symm
      obtain rfl : fn = Tryz.f8 := (Option.some.inj (Tryz.func8.symm.trans hfn)).symm
      exact ⟨by as_aux_lemma => kernel_rfl, fun j t ht => by
        rw [Tryz.params8] at ht
        have hm : t ∈ [9] := by simpa using Array.mem_of_getElem? ht
        have hall : ([9].all fun u => !Tryz.prog.wantsStandIn u) = true := by kernel_rfl
        exact (show Tryz.prog.wantsStandIn t = false by simpa using List.all_eq_true.1 hall t hm)⟩)
    (by as_aux_lemma => kernel_rfl)
end Go.Proofs.YtopoomikfjodkaaGreatDoor
