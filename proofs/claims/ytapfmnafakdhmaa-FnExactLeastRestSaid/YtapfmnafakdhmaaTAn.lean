/- The program's LeastRest returns what the reference's returns, for all arguments. No conditions. -/
import Derived.Test.YtapfmnafakdhmaaTAm
set_option linter.unusedVariables false
set_option linter.unusedSimpArgs false
namespace Go.Proofs.Ytapfmnafakdhmaa
open Go Go.Ab Go.Proofs Go.Deep Go.ChangeShapes Go.WideShapes Go.ChangeAt Go.RowKit
theorem own1 : ownKnob Try.prog.godebug = none := by kernel_rfl
theorem laid1 : laidOutB Try.prog = true := by kernel_rfl
set_option maxRecDepth 100000 in
theorem str_arg {H : Type} {enc : TypeId × Value → H} {W : World} {base : Nat} {v : Value} {d : DataW H} {ps : List MemPlace} (hval : Value.okWide Try.prog W .any base 9 v) (h : DataW.Trod enc Try.prog W 0 (fun _ => true) true 9 v d ps) :
    ∃ a : List UInt8, a.length < 9223372036854775808 ∧ Rep W (fun _ => False) (.str a) noMap v [] := by
  obtain ⟨n, rfl⟩ : ∃ n, v = .string n := by
    cases v <;> simp_all [Value.okWide, Try.underlying9, Cell.okWide, Cell.ok]
  obtain ⟨fuel, h⟩ := h
  obtain ⟨m, q, _, w⟩ := DataW.trod_string Try.underlying9 h
  simp [Value.cells] at q
  subst q
  have e : maxLen = 9223372036854775807 := by decide
  have z : n.data.toList.length = n.size := Array.length_toList
  exact ⟨n.data.toList, by omega, by simp [Rep]⟩
set_option maxRecDepth 100000 in
theorem fnExactLeastRest_lifted (os : Os) (started : os.Started) (H : Type) (enc : TypeId × Value → H) :
    ReturnsInHanded {} Try.checked os 12 .any (Rows.fnExactLeastRestSpec.pre6 enc Try.prog Try.f12 Rows.fnExactLeastRestRow.domain false) (Rows.fnExactLeastRestSpec.post enc Try.prog Try.f12 false true false false) := by
  refine returnsInHanded_of_change (C := Try.checked) own1 started (by kernel_rfl) Try.func12
    (ChangeSpec.witness6 (enc := enc) (C := Try.checked) false ⟨#[], #[.slice none 0 0, .string ⟨#[]⟩], []⟩ 8 (by kernel_rfl) (by kernel_rfl) (by kernel_rfl) (by kernel_rfl)) ?_
  intro W base args ds gs before hval0 hW hcnd _
  have hval : ∀ (j : Nat) t v, Try.f12.params[j]? = some t → args[j]? = some v → Value.okWide Try.prog W .any base t v := hval0
  have hW' := hW
  obtain ⟨p, q, hA0, hV, rfl, hfz, hnd⟩ := hW
  have hA : DataW.TrodAll enc Try.prog W 0 (fun _ => true) true Try.f12.params.toList args.toList ds p := hA0
  rw [Try.params12] at hA hval
  obtain ⟨v0, vs0, d0, ds0, p0, q0, hargs0, rfl, rfl, h0, r0⟩ := trodAll_cons hA
  obtain ⟨v1, vs1, d1, ds1, p1, q1, hargs1, rfl, rfl, h1, r1⟩ := trodAll_cons r0
  obtain ⟨hn, rfl, rfl⟩ := trodAll_nil r1
  subst hn
  subst hargs1
  obtain rfl : args = #[v0, v1] := by cases args; simp_all
  obtain ⟨a0, ha0, hb0, hr0⟩ := Duty_list (hval 0 50 v0 rfl rfl) h0
  obtain ⟨a1, ha1, hr1⟩ := str_arg (hval 1 9 v1 rfl rfl) h1
  have hgs : gs = [] := by
    cases gs with
    | nil => rfl
    | cons _ _ => exact hV.elim
  subst hgs
  have hden := laws_FnExactLeastRest_den a0 a1 ha0 hb0 ha1
  rw [law_LeastRest a0 a1 ha0 hb0 ha1] at hden
  exact law_post (tb := 4) laid1 rfl Try.underlying4 rfl (by kernel_rfl) (fun _ _ => ⟨rfl, rfl, rfl⟩) hW' hden (by simp only [RepL]; exact ⟨v0, [v1], [], [], rfl, rfl, hr0, v1, [], [], [], rfl, rfl, hr1, rfl, rfl⟩)

theorem fnExactLeastRest_holds : Rows.FnExactLeastRestSaid :=
  OpenClaim.holds_of_wide 12 Try.f12 rfl rfl rfl rfl rfl rfl rfl ⟨rfl, rfl, rfl, rfl, rfl⟩ rfl rfl rfl rfl rfl (by kernel_rfl) Try.func12 (by kernel_rfl)
    (of_decide_eq_true (by kernel_rfl)) (by unfold Func.isWrapper; first | (rw [if_pos (by decide +kernel)]; kernel_rfl) | (rw [if_neg (by decide +kernel)]; exact ⟨rfl, rfl⟩))
    (fun os started H enc _ => fnExactLeastRest_lifted os started H enc)
end Go.Proofs.Ytapfmnafakdhmaa
