/- The program's FnStores returns what the reference's returns, for all arguments. No conditions. -/
import Derived.Test.YtphjpngpmhammaaTAr
import Derived.Test.YtphjpngpmhammaaTAs
set_option linter.unusedSectionVars false
set_option linter.unusedVariables false
set_option linter.unusedSimpArgs false
namespace Go.Proofs.Ytphjpngpmhammaa
open Go Go.Ab Go.Proofs Go.Deep Go.ChangeShapes Go.WideShapes Go.ChangeAt Go.RowKit
theorem own1 : ownKnob Try.prog.godebug = none := by kernel_rfl
theorem laid1 : laidOutB Try.prog = true := by kernel_rfl
set_option maxRecDepth 100000 in
theorem fnStores_lifted (os : Os) (started : os.Started) (H : Type) (enc : TypeId × Value → H) :
    ReturnsInHanded {} Try.checked os 11 .any (Rows.fnStoresSpec.pre6 enc Try.prog Try.f11 Rows.fnStoresRow.domain false) (Rows.fnStoresSpec.post enc Try.prog Try.f11 false true false false) := by
  refine returnsInHanded_of_change (C := Try.checked) own1 started (by kernel_rfl) Try.func11
    (ChangeSpec.witness6 (enc := enc) (C := Try.checked) false ⟨#[], #[.slice none 0 0, .slice none 0 0], []⟩ 8 (by kernel_rfl) (by kernel_rfl) (by kernel_rfl) (by kernel_rfl)) ?_
  intro W base args ds gs before hval0 hW hcnd _
  have hval : ∀ (j : Nat) t v, Try.f11.params[j]? = some t → args[j]? = some v → Value.okWide Try.prog W .any base t v := hval0
  have hW' := hW
  obtain ⟨p, q, hA0, hV, rfl, hfz, hnd⟩ := hW
  have hA : DataW.TrodAll enc Try.prog W 0 (fun _ => true) true Try.f11.params.toList args.toList ds p := hA0
  rw [Try.params11] at hA hval
  obtain ⟨v0, vs0, d0, ds0, p0, q0, hargs0, rfl, rfl, h0, r0⟩ := trodAll_cons hA
  obtain ⟨v1, vs1, d1, ds1, p1, q1, hargs1, rfl, rfl, h1, r1⟩ := trodAll_cons r0
  obtain ⟨hn, rfl, rfl⟩ := trodAll_nil r1
  subst hn
  subst hargs1
  obtain rfl : args = #[v0, v1] := by cases args; simp_all
  obtain ⟨b0, hq0⟩ := arg_plain (rd_slice (k := 1) Try.underlying58 (by kernel_rfl) (by decide) (rd_u8 Try.underlying5)) (by
    have := hval 0 58 v0 rfl rfl
    rintro us rfl
    simp [Value.okWide, Try.underlying58, Cell.okWide, Cell.ok] at this) h0
  obtain ⟨a0, hb0, hr0⟩ : ∃ a : List Int, (∀ v ∈ a, 0 ≤ v ∧ v ≤ 255) ∧ Rep W (fun _ => False) (encL 1 eIu8 a) noMap v0 [] := ⟨b0.map Subtype.val, u8_range b0, by rw [show (eIu8 : Int → List AV) = (fun n : Int => [.int .u8 n]) from rfl, encL_u8]; exact hq0⟩
  obtain ⟨b1, hq1⟩ := arg_plain (rd_slice (k := 1) Try.underlying58 (by kernel_rfl) (by decide) (rd_u8 Try.underlying5)) (by
    have := hval 1 58 v1 rfl rfl
    rintro us rfl
    simp [Value.okWide, Try.underlying58, Cell.okWide, Cell.ok] at this) h1
  obtain ⟨a1, hb1, hr1⟩ : ∃ a : List Int, (∀ v ∈ a, 0 ≤ v ∧ v ≤ 255) ∧ Rep W (fun _ => False) (encL 1 eIu8 a) noMap v1 [] := ⟨b1.map Subtype.val, u8_range b1, by rw [show (eIu8 : Int → List AV) = (fun n : Int => [.int .u8 n]) from rfl, encL_u8]; exact hq1⟩
  have hgs : gs = [] := by
    cases gs with
    | nil => rfl
    | cons _ _ => exact hV.elim
  subst hgs
  have hden := laws_FnStores_den a0 a1 hb0 hb1
  rw [law_FnStores a0 a1 hb0 hb1] at hden
  exact law_post (tb := 4) laid1 rfl Try.underlying4 rfl (by kernel_rfl) (fun _ _ => ⟨rfl, rfl, rfl⟩) hW' True.intro hden (by simp only [RepL]; exact ⟨v0, [v1], [], [], rfl, rfl, hr0, v1, [], [], [], rfl, rfl, hr1, rfl, rfl⟩)
theorem fnStores_holds : Rows.FnStoresSaid :=
  OpenClaim.holds_of_wide 11 Try.f11 rfl rfl rfl rfl rfl rfl rfl ⟨rfl, rfl, rfl, rfl, rfl⟩ rfl rfl rfl rfl rfl (by kernel_rfl) Try.func11 (by kernel_rfl)
    (of_decide_eq_true (by kernel_rfl)) (by unfold Func.isWrapper; first | (rw [if_pos (by decide +kernel)]; kernel_rfl) | (rw [if_neg (by decide +kernel)]; exact ⟨rfl, rfl⟩))
    (fun os started H enc _ => fnStores_lifted os started H enc)
end Go.Proofs.Ytphjpngpmhammaa
