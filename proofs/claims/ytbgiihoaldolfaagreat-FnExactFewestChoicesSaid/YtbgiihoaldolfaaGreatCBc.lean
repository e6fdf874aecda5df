/- The program's FewestChoices returns what the reference's returns, for all arguments. No conditions. -/
import Derived.Test.YtbgiihoaldolfaaGreatCBb
import Derived.Test.YtbgiihoaldolfaaGreatCAq
set_option linter.unusedSectionVars false
set_option linter.unusedVariables false
set_option linter.unusedSimpArgs false
set_option maxHeartbeats 1000000
namespace Go.Proofs.YtbgiihoaldolfaaGreat
open Go Go.Ab Go.Proofs Go.Deep Go.ChangeShapes Go.WideShapes Go.ChangeAt Go.RowKit
theorem own1 : ownKnob Tryz.prog.godebug = none := by kernel_rfl
theorem yd1 : laidOutB Tryz.prog = true := by kernel_rfl
set_option maxRecDepth 100000 in
theorem fnExactFewestChoices_lifted (os : Os) (started : os.Started) (H : Type) (enc : TypeId × Value → H) :
    ReturnsInHanded {} Tryz.checked os 4 .any (Rows.fnExactFewestChoicesSpec.pre6 enc Tryz.prog Tryz.f4 Rows.fnExactFewestChoicesRow.domain false) (Rows.fnExactFewestChoicesSpec.post enc Tryz.prog Tryz.f4 false true false false) := by
  refine returnsInHanded_of_change (C := Tryz.checked) own1 started (by kernel_rfl) Tryz.func4
    (ChangeSpec.witness6 (enc := enc) (C := Tryz.checked) false ⟨#[], #[.slice none 0 0, .int .i64 0, .slice none 0 0, .int .i64 0, .int .i64 0], []⟩ 8 (by kernel_rfl) (by kernel_rfl) (by kernel_rfl) (by kernel_rfl)) ?_
  intro W base args ds gs before hval0 hW hcnd _
  have hval : ∀ (j : Nat) t v, Tryz.f4.params[j]? = some t → args[j]? = some v → Value.okWide Tryz.prog W .any base t v := hval0
  have hW' := hW
  obtain ⟨p, q, hA0, hV, rfl, hfz, hnd⟩ := hW
  have hA : DataW.TrodAll enc Tryz.prog W 0 (fun _ => true) true Tryz.f4.params.toList args.toList ds p := hA0
  rw [Tryz.params4] at hA hval
  obtain ⟨v0, vs0, d0, ds0, p0, q0, hargs0, rfl, rfl, h0, r0⟩ := trodAll_cons hA
  obtain ⟨v1, vs1, d1, ds1, p1, q1, hargs1, rfl, rfl, h1, r1⟩ := trodAll_cons r0
  obtain ⟨v2, vs2, d2, ds2, p2, q2, hargs2, rfl, rfl, h2, r2⟩ := trodAll_cons r1
  obtain ⟨v3, vs3, d3, ds3, p3, q3, hargs3, rfl, rfl, h3, r3⟩ := trodAll_cons r2
  obtain ⟨v4, vs4, d4, ds4, p4, q4, hargs4, rfl, rfl, h4, r4⟩ := trodAll_cons r3
  obtain ⟨hn, rfl, rfl⟩ := trodAll_nil r4
  subst hn
  subst hargs4
  subst hargs3
  subst hargs2
  subst hargs1
  obtain rfl : args = #[v0, v1, v2, v3, v4] := by cases args; simp_all
  obtain ⟨a0, hr0⟩ := y4b y21 (by
    have := hval 0 22 v0 rfl rfl
    rintro us rfl
    simp [Value.okWide, Tryz.underlying22, Cell.okWide, Cell.ok] at this) h0
  have hf0 : a0.length < 9223372036854775808 := Nat.lt_succ_of_le (yc (Rep.lens _ hr0)).1
  have he0 : ∀ v ∈ a0, bwLIi64 v := fun v hv => ynb v ((yc (Rep.lens _ hr0)).2 v hv)
  obtain ⟨a1, hr1⟩ := y4b (yrg (k := .i64) Tryz.underlying2) (by
    have := hval 1 2 v1 rfl rfl
    rintro us rfl
    simp [Value.okWide, Tryz.underlying2, Cell.okWide, Cell.ok] at this) h1
  obtain ⟨a2, hr2⟩ := y4b yt1 (by
    have := hval 2 23 v2 rfl rfl
    rintro us rfl
    simp [Value.okWide, Tryz.underlying23, Cell.okWide, Cell.ok] at this) h2
  have hf2 : a2.length < 9223372036854775808 := Nat.lt_succ_of_le (yc (Rep.lens _ hr2)).1
  have he2 : ∀ v ∈ a2, bwCharacter v := fun v hv => yf v ((yc (Rep.lens _ hr2)).2 v hv)
  obtain ⟨a3, hr3⟩ := y4b (yrg (k := .i64) Tryz.underlying2) (by
    have := hval 3 2 v3 rfl rfl
    rintro us rfl
    simp [Value.okWide, Tryz.underlying2, Cell.okWide, Cell.ok] at this) h3
  obtain ⟨a4, hr4⟩ := y4b (yrg (k := .i64) Tryz.underlying2) (by
    have := hval 4 2 v4 rfl rfl
    rintro us rfl
    simp [Value.okWide, Tryz.underlying2, Cell.okWide, Cell.ok] at this) h4
  have hgs : gs = [] := by
    cases gs with
    | nil => rfl
    | cons _ _ => exact hV.elim
  subst hgs
  have hden := zje_den a0 a1 a2 a3 a4 
  rw [yoh a0 a1 a2 a3 a4 hf0 he0 hf2 he2] at hden
  exact yts (tb := 4) yd1 rfl Tryz.underlying4 rfl (by kernel_rfl) (fun _ _ => ⟨rfl, rfl, rfl⟩) hW' True.intro hden (by simp only [RepL]; exact ⟨v0, [v1, v2, v3, v4], [], [], rfl, rfl, hr0, v1, [v2, v3, v4], [], [], rfl, rfl, hr1, v2, [v3, v4], [], [], rfl, rfl, hr2, v3, [v4], [], [], rfl, rfl, hr3, v4, [], [], [], rfl, rfl, hr4, rfl, rfl⟩)
theorem yld {a b : Bool} (h : a = true) (k : b = true) : (a && b) = true := by rw [h, k]; rfl
set_option maxHeartbeats 8000000 in
theorem fnExactFewestChoices_closed : joinedFacts Tryz.prog 4 Tryz.f4 Rows.fnExactFewestChoicesSpec Rows.fnExactFewestChoicesRow = true := by
  unfold joinedFacts
  repeat' with_reducible refine yld ?_ ?_
  all_goals as_aux_lemma => kernel_rfl
theorem fnExactFewestChoices_holds : Rows.FnExactFewestChoicesSaid :=
  OpenClaim.holds_of_wide 4 Tryz.f4 rfl rfl rfl rfl rfl rfl rfl ⟨rfl, rfl, rfl, rfl, rfl⟩ rfl rfl rfl rfl rfl (by as_aux_lemma => kernel_rfl) Tryz.func4 fnExactFewestChoices_closed
    (of_decide_eq_true (by as_aux_lemma => kernel_rfl)) (by unfold Func.isWrapper; first | (rw [if_pos (by decide +kernel)]; kernel_rfl) | (rw [if_neg (by decide +kernel)]; exact ⟨rfl, rfl⟩))
    (fun os started H enc _ => fnExactFewestChoices_lifted os started H enc)
end Go.Proofs.YtbgiihoaldolfaaGreat
