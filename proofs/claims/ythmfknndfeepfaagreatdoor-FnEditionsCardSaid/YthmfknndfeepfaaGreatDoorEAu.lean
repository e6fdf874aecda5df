/- The law FnEditions answers true for all arguments. No conditions. -/
import Derived.Test.YthmfknndfeepfaaGreatDoorTie
import Derived.Test.YthmfknndfeepfaaGreatDoorCards
import Derived.LaidMore
import Derived.Stop.LaidErr
import Derived.Lay
import Derived.Test.YthmfknndfeepfaaGreatDoorEAt
set_option linter.unusedSectionVars false
set_option linter.unusedVariables false
set_option linter.unusedSimpArgs false
set_option maxHeartbeats 1000000
namespace Go.Proofs.YthmfknndfeepfaaGreatDoor
open Go Go.Ab Go.Proofs Go.Deep Go.ChangeShapes Go.WideShapes Go.ChangeAt Go.RowKit
theorem own1 : ownKnob Tryz.prog.godebug = none := by kernel_rfl
theorem yffb : laidOutB Tryz.prog = true := by kernel_rfl
theorem fnEditions_door (os : Os) (args : Array Value) : laidMetH Tryz.prog Rows.fnEditionsRow.laid ((World.laidAll Tryz.prog os Rows.fnEditionsRow.laid).forCall (fun _ _ => 0) ⟨#[], args, []⟩).memory := by
  rw [MakeChecks.laidMetH_plain _ _ _ (by kernel_rfl)]
  exact laidMet_laidAll _ (by kernel_rfl) (by kernel_rfl)
set_option maxRecDepth 100000 in
theorem fnEditions_tabs {W : World} (h : laidMetH Tryz.prog Rows.fnEditionsRow.laid W) (hs : W.ShapedOpen Tryz.prog) : Inv.ok W := by
  rw [MakeChecks.laidMetH_plain _ _ _ (by kernel_rfl)] at h
  exact ⟨⟨Go.Lib.tabIs_of_head g0 (t := 229) (e := 81) (n := 20) (by kernel_rfl) (by kernel_rfl) (by kernel_rfl) (by kernel_rfl) (by kernel_rfl) (by exact (laidMet.tail (laidMet.tail h))),
    cell_of_shapedOpen_int (g := 0) (t := 3) (zero := #[.int .i64 0]) hs (of_decide_eq_true (by kernel_rfl)) (by kernel_rfl) rfl (by kernel_rfl) (by kernel_rfl) (by kernel_rfl)⟩, y6h (g := 5) (ti := 148) (laidMet.tail (laidMet.tail (laidMet.tail (laidMet.tail (laidMet.tail h))))) (by kernel_rfl) (by kernel_rfl) Tryz.underlying148,
    y6h (g := 6) (ti := 148) (laidMet.tail (laidMet.tail (laidMet.tail (laidMet.tail h)))) (by kernel_rfl) (by kernel_rfl) Tryz.underlying148, Go.Lib.tabIs_of_head g1 (t := 224) (e := 5) (n := 256) (by kernel_rfl) (by kernel_rfl) (by kernel_rfl) (by kernel_rfl) (by kernel_rfl) (by exact (laidMet.tail (laidMet.tail (laidMet.tail (laidMet.tail (laidMet.tail (laidMet.tail (laidMet.tail h))))))))⟩
set_option maxRecDepth 100000 in
theorem fnEditions_lifted (os : Os) (started : os.Started) (H : Type) (enc : TypeId × Value → H) :
    ReturnsInHanded {} Tryz.checked os 3 .any (fun w args => (Rows.fnEditionsSpec.pre enc Tryz.prog Tryz.f3 [] false w args ∧ laidMetH Tryz.prog Rows.fnEditionsRow.laid w) ∧ sizedMet enc Tryz.prog Tryz.f3 (OpenSpec.ofChange Rows.fnEditionsSpec) false w args) (Rows.fnEditionsSpec.post enc Tryz.prog Tryz.f3 false true false false) := by
  refine ysd (C := Tryz.checked) (X := fun w _ => laidMetH Tryz.prog Rows.fnEditionsRow.laid w) (fun _ _ _ hh h => h.of_heap hh) own1 started (by kernel_rfl) Tryz.func3
    (ChangeSpec.witness_shaped (enc := enc) (C := Tryz.checked) (os := os) (X := fun w _ => laidMetH Tryz.prog Rows.fnEditionsRow.laid w) false (World.laidAll Tryz.prog os Rows.fnEditionsRow.laid) #[.slice none 0 0, .slice none 0 0] 8 (World.laidAll_os _ _ _) (World.shaped_of_ZipB (by kernel_rfl) (by kernel_rfl)) (by kernel_rfl) (by kernel_rfl) (by kernel_rfl) (fnEditions_door os _)) ?_
  intro W base args ds gs before hval0 hW hcnd hL hsh
  have hval : ∀ (j : Nat) t v, Tryz.f3.params[j]? = some t → args[j]? = some v → Value.okWide Tryz.prog W .any base t v := hval0
  have hW' := hW
  obtain ⟨p, q, hA0, hV, rfl, hfz, hnd⟩ := hW
  have hA : DataW.TrodAll enc Tryz.prog W 0 (fun _ => true) true Tryz.f3.params.toList args.toList ds p := hA0
  rw [Tryz.params3] at hA hval
  obtain ⟨v0, vs0, d0, ds0, p0, q0, hargs0, rfl, rfl, h0, r0⟩ := trodAll_cons hA
  obtain ⟨v1, vs1, d1, ds1, p1, q1, hargs1, rfl, rfl, h1, r1⟩ := trodAll_cons r0
  obtain ⟨hn, rfl, rfl⟩ := trodAll_nil r1
  subst hn
  subst hargs1
  obtain rfl : args = #[v0, v1] := by cases args; simp_all
  obtain ⟨b0, hq0⟩ := yrt (ysw (k := 1) Tryz.underlying22 (by kernel_rfl) (by decide) (ygdb Tryz.underlying5)) (by
    have := hval 0 22 v0 rfl rfl
    rintro us rfl
    simp [Value.okWide, Tryz.underlying22, Cell.okWide, Cell.ok] at this) h0
  obtain ⟨a0, hb0, hr0⟩ : ∃ a : List Int, (∀ v ∈ a, 0 ≤ v ∧ v ≤ 255) ∧ Rep W (fun _ => False) (encL 1 eIu8 a) yw v0 [] := ⟨b0.map Subtype.val, y7x b0, by rw [show (eIu8 : Int → List AV) = (fun n : Int => [.int .u8 n]) from rfl, y80]; exact hq0⟩
  obtain ⟨b1, hq1⟩ := yrt (ysw (k := 1) Tryz.underlying22 (by kernel_rfl) (by decide) (ygdb Tryz.underlying5)) (by
    have := hval 1 22 v1 rfl rfl
    rintro us rfl
    simp [Value.okWide, Tryz.underlying22, Cell.okWide, Cell.ok] at this) h1
  obtain ⟨a1, hb1, hr1⟩ : ∃ a : List Int, (∀ v ∈ a, 0 ≤ v ∧ v ≤ 255) ∧ Rep W (fun _ => False) (encL 1 eIu8 a) yw v1 [] := ⟨b1.map Subtype.val, y7x b1, by rw [show (eIu8 : Int → List AV) = (fun n : Int => [.int .u8 n]) from rfl, y80]; exact hq1⟩
  have hgs : gs = [] := by
    cases gs with
    | nil => rfl
    | cons _ _ => exact hV.elim
  subst hgs
  have hden := zdi_den a0 a1 hb0 hb1
  rw [yun a0 a1 hb0 hb1] at hden
  exact y85 (tb := 4) yffb rfl Tryz.underlying4 rfl (by kernel_rfl) (fun _ _ => ⟨rfl, rfl, rfl⟩) hW' (fnEditions_tabs hL hsh) hden (by simp only [RepL]; exact ⟨v0, [v1], [], [], rfl, rfl, hr0, v1, [], [], [], rfl, rfl, hr1, rfl, rfl⟩)
theorem yon {a b : Bool} (h : a = true) (k : b = true) : (a && b) = true := by rw [h, k]; rfl
set_option maxHeartbeats 8000000 in
theorem fnEditions_closed : joinedFacts Tryz.prog 3 Tryz.f3 Rows.fnEditionsSpec Rows.fnEditionsRow = true := by
  unfold joinedFacts
  repeat' with_reducible refine yon ?_ ?_
  all_goals as_aux_lemma => kernel_rfl
theorem fnEditions_holds : Rows.FnEditionsSaid :=
  OpenClaim.holds_of_wide 3 Tryz.f3 rfl rfl rfl rfl rfl rfl rfl ⟨rfl, rfl, rfl, rfl, rfl⟩ rfl rfl rfl rfl rfl (by as_aux_lemma => kernel_rfl) Tryz.func3 fnEditions_closed
    (of_decide_eq_true (by as_aux_lemma => kernel_rfl)) (by unfold Func.isWrapper; first | (rw [if_pos (by decide +kernel)]; kernel_rfl) | (rw [if_neg (by decide +kernel)]; exact ⟨rfl, rfl⟩))
    (fun os started H enc _ => fnEditions_lifted os started H enc)
theorem fnEditionsCard_holds : Rows.FnEditionsCardSaid :=
  Claim7.holds_tied_plain_at .later [] [.data, .data, .data, .data, .sentinel, .sentinel, .listed, .data, .pinned] true Rows.fnEditionsCard.stood.harness true
    fnEditions_holds (fun _ h => by cases h) (by as_aux_lemma => kernel_rfl) (fun _ h => by cases h) fnEditions_row_tie rfl ⟨rfl, rfl⟩ (by as_aux_lemma => kernel_rfl) rfl
    (fun f fn hf hfn => by
      obtain rfl : f = 3 := Option.some.inj ((show Tryz.prog.funcNamed Rows.fnEditionsRow.func = some 3 by kernel_rfl).symm.trans hf) |>.symm
      obtain rfl : fn = Tryz.f3 := (Option.some.inj (Tryz.func3.symm.trans hfn)).symm
      exact ⟨by as_aux_lemma => kernel_rfl, fun j t ht => by
        rw [Tryz.params3] at ht
        have hm : t ∈ [22, 22] := by simpa using Array.mem_of_getElem? ht
        have hall : ([22, 22].all fun u => !Tryz.prog.wantsStandIn u) = true := by kernel_rfl
        exact (show Tryz.prog.wantsStandIn t = false by simpa using List.all_eq_true.1 hall t hm)⟩)
    (by as_aux_lemma => kernel_rfl)
end Go.Proofs.YthmfknndfeepfaaGreatDoor
