/- The program's AddNotice returns what the reference's returns, for all arguments. No conditions. -/
import Derived.Test.YtaneiddiakjgdaaGreatDoorWBd
import Derived.Test.YtaneiddiakjgdaaGreatDoorWAp
import Derived.Test.YtaneiddiakjgdaaGreatDoorWAn
import Derived.Test.YtaneiddiakjgdaaGreatDoorTie
import Derived.Test.YtaneiddiakjgdaaGreatDoorCards
import Derived.SevenTiedAt
import Derived.LaidMore
import Derived.OpenShut
import Derived.Stop.Joined
import Derived.Stop.LaidErr
import Derived.Lib.LaidTab
import Derived.Shelf.Vars
import Derived.Lay
set_option linter.unusedSectionVars false
set_option linter.unusedVariables false
set_option linter.unusedSimpArgs false
set_option maxHeartbeats 1000000
namespace Go.Proofs.YtaneiddiakjgdaaGreatDoor
open Go Go.Ab Go.Proofs Go.Deep Go.ChangeShapes Go.WideShapes Go.ChangeAt Go.RowKit
theorem own1 : ownKnob Tryz.prog.godebug = none := by kernel_rfl
theorem y62 : laidOutB Tryz.prog = true := by kernel_rfl
theorem fnExactAddNotice_door (os : Os) (args : Array Value) : laidMetH Tryz.prog Rows.fnExactAddNoticeRow.laid ((World.laidAll Tryz.prog os Rows.fnExactAddNoticeRow.laid).forCall (fun _ _ => 0) ⟨#[], args, []⟩).memory := by
  rw [MakeChecks.laidMetH_plain _ _ _ (by kernel_rfl)]
  exact laidMet_laidAll _ (by kernel_rfl) (by kernel_rfl)
set_option maxRecDepth 100000 in
theorem fnExactAddNotice_tabs {W : World} (h : laidMetH Tryz.prog Rows.fnExactAddNoticeRow.laid W) (hs : W.ShapedOpen Tryz.prog) : Inv.ok W := by
  rw [MakeChecks.laidMetH_plain _ _ _ (by kernel_rfl)] at h
  exact Go.Lib.tabIs_of_head g0 (t := 246) (e := 5) (n := 256) (by kernel_rfl) (by kernel_rfl) (by kernel_rfl) (by kernel_rfl) (by kernel_rfl) (by exact (laidMet.tail h))
set_option maxRecDepth 100000 in
theorem fnExactAddNotice_lifted (os : Os) (started : os.Started) (H : Type) (enc : TypeId × Value → H) :
    ReturnsInHanded {} Tryz.checked os 8 .any (fun w args => (Rows.fnExactAddNoticeSpec.pre enc Tryz.prog Tryz.f8 [] false w args ∧ laidMetH Tryz.prog Rows.fnExactAddNoticeRow.laid w) ∧ sizedMet enc Tryz.prog Tryz.f8 (OpenSpec.ofChange Rows.fnExactAddNoticeSpec) false w args) (Rows.fnExactAddNoticeSpec.post enc Tryz.prog Tryz.f8 false true false false) := by
  refine y6b (C := Tryz.checked) (X := fun w _ => laidMetH Tryz.prog Rows.fnExactAddNoticeRow.laid w) (fun _ _ _ hh h => h.of_heap hh) own1 started (by kernel_rfl) Tryz.func8
    (ChangeSpec.witness_shaped (enc := enc) (C := Tryz.checked) (os := os) (X := fun w _ => laidMetH Tryz.prog Rows.fnExactAddNoticeRow.laid w) false (World.laidAll Tryz.prog os Rows.fnExactAddNoticeRow.laid) #[.slice none 0 0, .agg #[.int .i64 0, .int .i64 0, .int .i64 0, .int .i64 0, .int .i64 0, .string ⟨#[]⟩, .int .i64 0, .int .i64 0, .int .i64 0, .int .i64 0, .string ⟨#[]⟩, .string ⟨#[]⟩, .string ⟨#[]⟩, .int .i64 0, .slice none 0 0, .string ⟨#[]⟩, .string ⟨#[]⟩, .int .i64 0, .slice none 0 0, .int .i64 0]] 8 (World.laidAll_os _ _ _) (World.shaped_of_ZipB (by kernel_rfl) (by kernel_rfl)) (by kernel_rfl) (by kernel_rfl) (by kernel_rfl) (fnExactAddNotice_door os _)) ?_
  intro W base args ds gs before hval0 hW hcnd hL hsh
  have hval : ∀ (j : Nat) t v, Tryz.f8.params[j]? = some t → args[j]? = some v → Value.okWide Tryz.prog W .any base t v := hval0
  have hW' := hW
  obtain ⟨p, q, hA0, hV, rfl, hfz, hnd⟩ := hW
  have hA : DataW.TrodAll enc Tryz.prog W 0 (fun _ => true) true Tryz.f8.params.toList args.toList ds p := hA0
  rw [Tryz.params8] at hA hval
  obtain ⟨v0, vs0, d0, ds0, p0, q0, hargs0, rfl, rfl, h0, r0⟩ := trodAll_cons hA
  obtain ⟨v1, vs1, d1, ds1, p1, q1, hargs1, rfl, rfl, h1, r1⟩ := trodAll_cons r0
  obtain ⟨hn, rfl, rfl⟩ := trodAll_nil r1
  subst hn
  subst hargs1
  obtain rfl : args = #[v0, v1] := by cases args; simp_all
  obtain ⟨a0, hr0⟩ := yzk y53 (by
    have := hval 0 22 v0 rfl rfl
    rintro us rfl
    simp [Value.okWide, Tryz.underlying22, Cell.okWide, Cell.ok] at this) h0
  have hf0 : a0.length < 9223372036854775808 := Nat.lt_succ_of_le (yb (Rep.lens _ hr0)).1
  have he0 : ∀ v ∈ a0, bwNotice v := fun v hv => yg v ((yb (Rep.lens _ hr0)).2 v hv)
  obtain ⟨us1, rfl⟩ : ∃ us, v1 = .agg us := by
    have := hval 1 85 v1 rfl rfl
    simp only [Value.okWide, Tryz.underlying85] at this
    obtain ⟨us, rfl, _⟩ := this
    exact ⟨us, rfl⟩
  obtain ⟨a1, hr1⟩ := ybm yf4 h1
  have hf1 : bwNotice a1 := yg a1 (Rep.lens _ hr1)
  have hgs : gs = [] := by
    cases gs with
    | nil => rfl
    | cons _ _ => exact hV.elim
  subst hgs
  have hden := zhh_den a0 a1 
  rw [yjn a0 a1 hf0 he0 hf1] at hden
  exact yit (tb := 4) y62 rfl Tryz.underlying4 rfl (by kernel_rfl) (fun _ _ => ⟨rfl, rfl, rfl⟩) hW' (fnExactAddNotice_tabs hL hsh) hden (by simp only [RepL]; exact ⟨v0, [.agg us1], [], [], rfl, rfl, hr0, .agg us1, [], [], [], rfl, rfl, hr1, rfl, rfl⟩)
theorem ydf {a b : Bool} (h : a = true) (k : b = true) : (a && b) = true := by rw [h, k]; rfl
theorem fnExactAddNotice_closed : joinedFacts Tryz.prog 8 Tryz.f8 Rows.fnExactAddNoticeSpec Rows.fnExactAddNoticeRow = true := by
  unfold joinedFacts
  repeat' with_reducible refine ydf ?_ ?_
  all_goals as_aux_lemma => kernel_rfl
theorem fnExactAddNotice_holds : Rows.FnExactAddNoticeSaid :=
  OpenClaim.holds_of_wide 8 Tryz.f8 rfl rfl rfl rfl rfl rfl rfl ⟨rfl, rfl, rfl, rfl, rfl⟩ rfl rfl rfl rfl rfl (by as_aux_lemma => kernel_rfl) Tryz.func8 fnExactAddNotice_closed
    (of_decide_eq_true (by as_aux_lemma => kernel_rfl)) (by unfold Func.isWrapper; first | (rw [if_pos (by decide +kernel)]; kernel_rfl) | (rw [if_neg (by decide +kernel)]; exact ⟨rfl, rfl⟩))
    (fun os started H enc _ => fnExactAddNotice_lifted os started H enc)
theorem fnExactAddNoticeCard_holds : Rows.FnExactAddNoticeCardSaid :=
  Claim7.holds_tied_plain_at .later [] [.listed, .data] true Rows.fnExactAddNoticeCard.stood.harness false
    fnExactAddNotice_holds (fun _ h => by cases h) (by as_aux_lemma => kernel_rfl) (fun _ h => by cases h) fnExactAddNotice_row_tie rfl ⟨rfl, rfl⟩ (by as_aux_lemma => kernel_rfl) rfl
    (fun f fn hf hfn => by
      obtain rfl : f = 8 := Option.some.inj ((show Tryz.prog.funcNamed Rows.fnExactAddNoticeRow.func = some 8 by kernel_rfl).symm.trans hf) |>.symm
      obtain rfl : fn = Tryz.f8 := (Option.some.inj (Tryz.func8.symm.trans hfn)).symm
      exact ⟨by as_aux_lemma => kernel_rfl, fun j t ht => by
        rw [Tryz.params8] at ht
        have hm : t ∈ [22, 85] := by simpa using Array.mem_of_getElem? ht
        have hall : ([22, 85].all fun u => !Tryz.prog.wantsStandIn u) = true := by kernel_rfl
        exact (show Tryz.prog.wantsStandIn t = false by simpa using List.all_eq_true.1 hall t hm)⟩)
    (by as_aux_lemma => kernel_rfl)
end Go.Proofs.YtaneiddiakjgdaaGreatDoor
