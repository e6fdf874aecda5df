/- A part of a proof: walks of functions and lemmas of our own. No conditions. -/
import Derived.Test.YtpakbdamggpneaaGreatDoorTAl
import Derived.Test.YtpakbdamggpneaaGreatDoorTAp
import Derived.Test.YtpakbdamggpneaaGreatDoorTAn
import Derived.Below
import Derived.Lib.Join
import Derived.Shelf.Strings.OnBuilder
import Derived.Test.YtpakbdamggpneaaGreatDoorTAq
import Derived.Test.YtpakbdamggpneaaGreatDoorTAo
import Derived.Test.YtpakbdamggpneaaGreatDoorTAm
import Derived.Lib.IndexMore
import Derived.Lib.Split
import Derived.Lib.IndexLaws
import Derived.Lib.IndexBytes
import Derived.Lib.CountLaws
set_option linter.unusedSectionVars false
set_option linter.unusedVariables false
set_option linter.unusedSimpArgs false
set_option maxHeartbeats 1000000
namespace Go.Ab
open Go Go.Proofs
def impl_at (a0 : Int) (a1 : Int) : Bool :=
  (decide (0 ≤ a0) && decide (a0 < a1))
namespace N36
theorem DD : DOk Tryz.prog (Go.Ab.DD []) := DD_nil _
theorem den (a0 : Int) (a1 : Int)  : Den Tryz.prog 36 [.int .i64 a0, .int .i64 a1] (.bool (impl_at a0 a1)) := by
  generalize hR : impl_at a0 a1 = r
  unfold impl_at at hR
  refine di Tryz.func36 Tryz.ntmps36 Tryz.results36 ?_
  intro c hL hc hk
  clear hL
  simp only [pars, Nat.zero_add]
  iterate 2 refine rS ?_
  refine AWP.ret ?_
  subst hR
  exact es
end N36
def D_impl_at : DF
  | [x0, x1] => some (.bool (impl_at (rdI x0) (rdI x1)), false, [wI .i64 x0, wI .i64 x1])
  | _ => none
theorem D_impl_at_ok : OkD Tryz.prog 36 D_impl_at := by unfold D_impl_at; exact dk N36.den
end Go.Ab

namespace Go.Ab
open Go Go.Proofs
def impl_pick (a0 : Int) (a1 : (List (List UInt8))) : (List UInt8) :=
  (bif (!(impl_at a0 (a1.length : Int))) then [] else (a1.getD ((a0).toNat) default))
namespace N57
theorem DD : DOk Tryz.prog (Go.Ab.DD [(36, dP D_impl_at)]) := DD_cons D_impl_at_ok.e <| DD_nil _
theorem dn : type_of% (@D_impl_at.eq_1) := by and_intros <;> intros <;> rfl
theorem ol : type_of% (@impl_at.eq_1) := @impl_at.eq_1
theorem den (a0 : Int) (a1 : (List (List UInt8)))  : Den Tryz.prog 57 [.int .i64 a0, encL 1 eS a1] (.str (impl_pick a0 a1)) := by
  generalize hR : impl_pick a0 a1 = r
  unfold impl_pick at hR
  refine di Tryz.func57 Tryz.ntmps57 Tryz.results57 ?_
  intro c hL hc hk
  obtain ⟨hL0, hL1, _⟩ := hL
  have hw0 : a1.length < 9223372036854775808 := Nat.lt_succ_of_le (lens_encL hL1).1
  have hw1 : ∀ v ∈ a1, bwS v := fun v hv => S_lens v ((lens_encL hL1).2 v hv)
  clear hL0 hL1
  simp only [pars, Nat.zero_add]
  iterate 2 refine rS ?_
  refine AWP.cond rfl (fun hb => ?_) (fun hb => ?_)
  · replace hR := ct hR
    refine rS ?_
    refine AWP.ret ?_
    subst hR
    exact es
  · replace hR := cf hR
    refine rS ?_
    refine AWP.ret ?_
    subst hR
    exact es
end N57
def D_impl_pick : DF
  | [x0, x1] => some (.str (impl_pick (rdI x0) (rdL dS x1)), false, [wI .i64 x0, wL 1 eS dS x1])
  | _ => none
theorem D_impl_pick_ok : OkD Tryz.prog 57 D_impl_pick := by unfold D_impl_pick; exact dk N57.den
end Go.Ab

namespace Go.Ab
open Go Go.Proofs
def impl_KindText (a0 : Int) : (List UInt8) :=
  (impl_pick a0 ([[], [70], [79, 99], [73, 115, 111], [70, 108], [76, 70, 108], [81], [86, 81], [77, 111]] : List (List UInt8)))
namespace N90
theorem DD : DOk Tryz.prog (Go.Ab.DD [(57, dP D_impl_pick)]) := DD_cons D_impl_pick_ok.e <| DD_nil _
theorem dn : type_of% (@D_impl_pick.eq_1) := by and_intros <;> intros <;> rfl
theorem lx {p : Prop} (h : p := by (exact lxx); first | done | fail) : p := h
theorem den (a0 : Int)  : Den Tryz.prog 90 [.int .i64 a0] (.str (impl_KindText a0)) := by
  generalize hR : impl_KindText a0 = r
  unfold impl_KindText at hR
  refine di Tryz.func90 Tryz.ntmps90 Tryz.results90 ?_
  intro c hL hc hk
  clear hL
  simp only [pars, Nat.zero_add]
  iterate 2 refine rS ?_
  refine AWP.ret ?_
  subst hR
  exact es
end N90
def D_impl_KindText : DF
  | [x0] => some (.str (impl_KindText (rdI x0)), false, [wI .i64 x0])
  | _ => none
theorem D_impl_KindText_ok : OkD Tryz.prog 90 D_impl_KindText := by unfold D_impl_KindText; exact dk N90.den
end Go.Ab

namespace Go.Ab
open Go Go.Proofs
theorem kind_len (k : Int) : (impl_KindText k).length ≤ 3 := by
  unfold impl_KindText impl_pick
  simp only [Bool.cond_eq_ite]
  split
  · simp
  · rw [List.getD_eq_getElem?_getD]
    have h : ∀ x ∈ ([[], [70], [79, 99], [73, 115, 111], [70, 108], [76, 70, 108], [81], [86, 81], [77, 111]] : List (List UInt8)), x.length ≤ 3 := by decide
    cases hg : ([[], [70], [79, 99], [73, 115, 111], [70, 108], [76, 70, 108], [81], [86, 81], [77, 111]] : List (List UInt8))[k.toNat]? with
    | none => show (0 : Nat) ≤ 3; omega
    | some x => exact h x (List.mem_of_getElem? hg)
end Go.Ab

namespace Go.Ab
open Go Go.Proofs
open Go.RowKit in
theorem join_den {f : FuncId} (hok : FnOk Tryz.prog f) (a0 : List (List UInt8)) (a1 : List UInt8) (hp0 : a0.length ≤ 1048576) (hp1 : (Go.Lib.join a0 a1).length ≤ 1099511627776)
    (hS : ∀ (bk o c : Nat) (xs : List ByteArray) (sep : ByteArray) (w : World), (∀ (j : Nat) x, xs[j]? = some x → w.cell? ⟨bk, o + j, none⟩ = some (.string x)) → bk < w.heap.size → xs.length ≤ 140737488355328 → xs.length ≤ c →
      (Go.Lib.join (xs.map (·.data.toList)) sep.data.toList).length ≤ 140737488355328 →
      Calls Tryz.prog f #[.slice (some ⟨bk, o, none⟩) xs.length c, .string sep] w fun e w' => e = .returned (.string ⟨(Go.Lib.join (xs.map (·.data.toList)) sep.data.toList).toArray⟩) ∧ Below w.heap.size w w')
    (hN : ∀ (a : Option Addr) (c : Nat) (sep : ByteArray) (w : World), Calls Tryz.prog f #[.slice a 0 c, .string sep] w fun e w' => e = .returned (.string ⟨#[]⟩) ∧ w' = w) :
    Den Tryz.prog f [encL 1 (fun s : List UInt8 => [.str s]) a0, .str a1] (.str (Go.Lib.join a0 a1)) := by
  refine Den.plain hok (by simp [NoOwnL, NoOwn, encL]) ?_
  intro w M vs hI hr
  simp only [RepL] at hr
  obtain ⟨u0, us0, f0, g0, rfl, h0e, h0, u1, us1, f1, g1, rfl, h1e, h1, rfl, _⟩ := hr
  have e1 := h1.val_str
  subst e1
  simp only [encL, Rep] at h0
  rcases h0 with ⟨hn, hev, _⟩ | ⟨b, o, cap, us, fps, rfl, ⟨hc1, hc2⟩, hb, hcl, _⟩
  · have h9 : a0 = [] := List.length_eq_zero_iff.1 hn
    subst h9
    rcases hev with rfl | ⟨a, c, rfl⟩
    · refine (hN none 0 ⟨a1.toArray⟩ w).mono ?_
      rintro e w' ⟨rfl, rfl⟩
      exact ⟨_, rfl, Grow.refl _, fun M' => rep_str [] (by unfold maxLen; simp)⟩
    · refine (hN (some a) c ⟨a1.toArray⟩ w).mono ?_
      rintro e w' ⟨rfl, rfl⟩
      exact ⟨_, rfl, Grow.refl _, fun M' => rep_str [] (by unfold maxLen; simp)⟩
  · have hx : ((a0.map fun x => (⟨x.toArray⟩ : ByteArray)).map fun x => x.data.toList) = a0 := by
      rw [List.map_map]
      exact List.map_id'' (fun x => rfl) _
    have hcall := hS b o cap (a0.map fun x => (⟨x.toArray⟩ : ByteArray)) ⟨a1.toArray⟩ w (fun j x hj => by
      rw [List.getElem?_map] at hj
      cases hg : a0[j]? with
      | none => rw [hg] at hj; simp at hj
      | some y =>
        rw [hg] at hj
        simp only [Option.map_some, Option.some.injEq] at hj
        subst hj
        have hjl := (List.getElem?_eq_some_iff.1 hg).1
        obtain ⟨c1, c2, c3⟩ := hcl j hjl
        simp only [RepL] at c1
        obtain ⟨v, vs', q1, q2, hus, _, hv, hvs, _⟩ := c1
        subst hvs
        have hv := hv.val_str
        subst hv
        rw [hus] at c3
        have hgd : a0.getD j default = y := by rw [List.getD_eq_getElem?_getD, hg]; rfl
        rw [hgd] at c3
        have h0 := (c3 0 _ rfl).1
        rw [Nat.mul_one, Nat.add_zero] at h0
        exact h0) hb (by rw [List.length_map]; omega) (by rw [List.length_map]; exact hc1) (by rw [hx]; exact Nat.le_trans hp1 (by omega))
    rw [List.length_map, hx] at hcall
    refine hcall.mono ?_
    rintro e w' ⟨rfl, hbl⟩
    exact ⟨_, rfl, below_grow hbl, fun M' => rep_str _ (by unfold maxLen; omega)⟩
end Go.Ab

namespace Go.Ab
open Go Go.Proofs
theorem strings_Join_DD : DOk Tryz.prog (DD []) := DD_nil _
def strings_Join (a0 : (List (List UInt8))) (a1 : (List UInt8)) : (List UInt8) := Go.Lib.join a0 a1
theorem strings_Join_den (a0 : (List (List UInt8))) (a1 : (List UInt8)) (hp0 : a0.length ≤ 1048576) (hp1 : (Go.Lib.join a0 a1).length ≤ 1099511627776) : Den Tryz.prog 142 [encL 1 eS a0, .str a1] (.str (strings_Join a0 a1)) := by
  exact join_den ⟨_, Tryz.func142, rfl, rfl⟩ a0 a1 hp0 hp1 (fun bk o c xs sep w h1 h2 h3 h4 h5 => Any.strings_Join Tryz.lays156 Tryz.Builder_Extra_156 bk o c xs sep w h1 h2 h3 h4 h5) (fun a c sep w => Any.strings_Join_none Tryz.lays156 Tryz.Builder_Extra_156 a c sep w)
def D_strings_Join : DF
  | [x0, x1] => some (.str (strings_Join (rdL dS x0) (rdS x1)), false, [wL 1 eS dS x0, wS x1, (rdL dS x0).length ≤ 1048576, (Go.Lib.join (rdL dS x0) (rdS x1)).length ≤ 1099511627776])
  | _ => none
theorem D_strings_Join_ok : OkD Tryz.prog 142 D_strings_Join := by
  intro xs r z ob h ho
  unfold D_strings_Join at h
  split at h
  · simp only [Option.some.injEq, Prod.mk.injEq] at h
    obtain ⟨rfl, rfl, rfl⟩ := h
    obtain ⟨h0, h1, hp0, hp1, _⟩ := ho
    exact Den.sim (strings_Join_den _ _ hp0 hp1) (simOL_cons (wL_sim h0).1 <| simOL_cons (wS_sim h1).1 <| trivial) (noIdL_cons (wL_sim h0).2 <| noIdL_cons (wS_sim h1).2 <| rfl) rfl
  · cases h
end Go.Ab

namespace Go.Ab
open Go Go.Proofs
theorem sjoin_len (xs : List (List UInt8)) (h : ∀ v ∈ xs, v.length ≤ 20) : (strings_Join xs [43]).length ≤ 21 * xs.length ∧ (Go.Lib.join xs [43]).length ≤ 21 * xs.length := by
  have h1 := join_len [43] xs 20 h
  simp only [List.length_singleton] at h1
  exact ⟨by show (Go.Lib.join xs [43]).length ≤ _; omega, by omega⟩
end Go.Ab

namespace Go.Ab
open Go Go.Proofs
def impl_Character_headText_b1 (a0 : Character) (i1 : Nat) (s1 : List (List UInt8)) : Except ((List UInt8)) (List (List UInt8)) :=
  .ok (s1 ++ [(impl_Decimal (a0.Group.getD i1 default))])
def impl_Character_headText (a0 : Character) : (List UInt8) :=
  (bif (a0.Kind == 8) then (((impl_KindText a0.Kind) ++ [40]) ++ a0.Letter) ++ [41] else (bif decide (0 < (a0.Group.length : Int)) then (match loopR (impl_Character_headText_b1 a0) (a0.Group.length - 0) 0 ([] : List (List UInt8)) with | .error e => e | .ok s1 => (bif (a0.Letter != []) then ((impl_KindText a0.Kind) ++ (([40] ++ (strings_Join s1 [43])) ++ [41])) ++ [43, 76, 70, 108] else (impl_KindText a0.Kind) ++ (([40] ++ (strings_Join s1 [43])) ++ [41]))) else (bif (a0.Letter != []) then (impl_KindText a0.Kind) ++ [43, 76, 70, 108] else (impl_KindText a0.Kind))))
namespace N97
theorem DD : DOk Tryz.prog (Go.Ab.DD [(142, dP D_strings_Join), (33, dP D_impl_Decimal), (90, dP D_impl_KindText)]) := DD_cons D_strings_Join_ok.e <| DD_cons D_impl_Decimal_ok.e <| DD_cons D_impl_KindText_ok.e <| DD_nil _
theorem dn : type_of% (And.intro @D_strings_Join.eq_1 <| And.intro @D_impl_Decimal.eq_1 <| @D_impl_KindText.eq_1) := by and_intros <;> intros <;> rfl
theorem gr {p : Prop} (h : p := by (grind [impl_Decimal_len]); first | done | fail) : p := h
theorem o0 {p : Prop} (h : p := by (first | (have h9 := sjoin_len s1 (by first | exact hW1 | exact hW1.2); first | omega | (simp only [ob, ln, List.length_singleton, List.length_append, List.length_cons, List.length_nil] at *; omega) | (and_intros <;> first | omega | (simp only [ob, ln, List.length_singleton, List.length_append, List.length_cons, List.length_nil] at *; omega))) | (have h9 := hg9 i1; and_intros <;> omega) | (simp only [ob, ln, List.length_singleton, List.length_append, List.length_cons, List.length_nil] at *; omega)); first | done | fail) : p := h
theorem o1 {p : Prop} (h : p := by (first | (have h9 := sjoin_len s1 hW1.2; have h8 := hW1.1; simp only [ob, ln, List.length_singleton, List.length_append, List.length_cons, List.length_nil] at *; omega) | (have h9 := hg9 i1; omega)); first | done | fail) : p := h
set_option maxHeartbeats 1000000 in
set_option maxRecDepth 20000 in
theorem den (a0 : Character) (hb0 : bdCharacter a0) (hp0 : a0.Group.length ≤ 4) (hp1 : ∀ v ∈ a0.Group, 1 ≤ v ∧ v ≤ 9) : Den Tryz.prog 97 [.agg (eCharacter a0)] (.str (impl_Character_headText a0)) := by
  generalize hR : impl_Character_headText a0 = r
  unfold impl_Character_headText at hR
  refine di Tryz.func97 Tryz.ntmps97 Tryz.results97 ?_
  intro c hL hc hk
  obtain ⟨hL0, _⟩ := hL
  have hw0 : bwCharacter a0 := Character_lens a0 hL0
  clear hL0
  simp only [pars, Nat.zero_add]
  have hg9 : ∀ i : Nat, 0 ≤ a0.Group.getD i default ∧ a0.Group.getD i default ≤ 9 := fun i => getD_rng hp1 i
  have hk9 := kind_len a0.Kind
  iterate 3 refine rS ?_
  refine AWP.cond rfl (fun hb => ?_) (fun hb => ?_)
  · replace hR := ct hR
    refine rS ?_
    refine AWP.ret ?_
    subst hR
    exact es
  · replace hR := cf hR
    refine rS ?_
    refine AWP.cond rfl (fun hb => ?_) (fun hb => ?_)
    · replace hR := ct hR
      iterate 2 refine rS ?_
      refine AWP.block ?_
      refine AWP.lensS 20 rfl (fun hLn1 => ?_)
      generalize hz1 : loopR (impl_Character_headText_b1 a0) (a0.Group.length - 0) 0 ([] : List (List UInt8)) = z1 at hR
      refine AWP.range (impl_Character_headText_b1 a0) (fun i1 s1 => ⟨[(1, .ptr 0 0), (3, .str (impl_KindText a0.Kind)), (4, .ref 1 1 0 s1.length), (25, encL 1 eIi64 a0.Group), (26, .int .i64 (a0.Group.length : Int)), (27, .int .i64 (i1 : Int))], [.box [.int .i64 a0.Kind, encL 1 eIi64 a0.Group, .str a0.Letter, .str a0.Colors, .int .i64 a0.Period], .arr 9 1 s1.length (fun j => eS (s1.getD j default))]⟩) (fun i1 s1 => s1.length ≤ ([] : List (List UInt8)).length + 1 * i1 ∧ ∀ v ∈ s1, v.length ≤ 20) (a0.Group.length) 0 ([] : List (List UInt8)) [0, 1] hz1 ot wt sm ?_
      clear hz1
      intro i1 s1 hi1 hW1 hz1
      refine rS ?_
      refine AWP.seq ?_
      refine AWP.cond rfl (fun hb => ?_) (fun hb => ?_)
      · have hlt1 : i1 < a0.Group.length := ot
        rw [loopR_lt hlt1] at hz1; simp only [impl_Character_headText_b1] at hz1
        iterate 3 refine rS ?_
        exact ⟨_, [0, 3], hlt1, by (and_intros <;> first | (simp only [ln, List.length_append, List.length_singleton, List.length_nil] at *; omega) | (intro v hv; exact (List.mem_append.1 hv).elim (fun h => by first | exact hW1 v h | exact hW1.2 v h | exact hW1.2.2 v h) (fun h => by rw [List.mem_singleton] at h; subst h; exact dec_len20 _ (by have := hg9 i1; omega) (by have := hg9 i1; omega)))), hz1, sm⟩
      · obtain rfl : i1 = a0.Group.length := ot
        rw [loopR_ge (Nat.le_refl _)] at hz1; subst hz1; dsimp only at hR
        refine AWP.exit ?_; refine exitTo_here ?_
        iterate 2 refine rS ?_
        refine AWP.cond rfl (fun hb => ?_) (fun hb => ?_)
        · replace hR := ct hR
          iterate 2 refine rS ?_
          refine AWP.ret ?_
          subst hR
          exact es
        · replace hR := cf hR
          refine rS ?_
          refine AWP.ret ?_
          subst hR
          exact es
    · replace hR := cf hR
      refine rS ?_
      refine AWP.cond rfl (fun hb => ?_) (fun hb => ?_)
      · replace hR := ct hR
        iterate 2 refine rS ?_
        refine AWP.ret ?_
        subst hR
        exact es
      · replace hR := cf hR
        refine rS ?_
        refine AWP.ret ?_
        subst hR
        exact es
end N97
def D_impl_Character_headText : DF
  | [x0] => some (.str (impl_Character_headText (rdG dCharacter x0)), false, [wG eCharacter dCharacter x0, bdCharacter (rdG dCharacter x0), (rdG dCharacter x0).Group.length ≤ 4, ∀ v ∈ (rdG dCharacter x0).Group, 1 ≤ v ∧ v ≤ 9])
  | _ => none
theorem D_impl_Character_headText_ok : OkD Tryz.prog 97 D_impl_Character_headText := by unfold D_impl_Character_headText; exact dk N97.den
end Go.Ab

namespace Go.Ab
open Go Go.Proofs
def impl_secondsText (a0 : Int) : (List UInt8) :=
  (bif ((a0.tmod 10) == 0) then (impl_Decimal (IntKind.wrap .i64 (a0.tdiv 10))) else ((impl_Decimal (IntKind.wrap .i64 (a0.tdiv 10))) ++ [46]) ++ (impl_Decimal (a0.tmod 10)))
namespace N91
theorem DD : DOk Tryz.prog (Go.Ab.DD [(33, dP D_impl_Decimal)]) := DD_cons D_impl_Decimal_ok.e <| DD_nil _
theorem dn : type_of% (@D_impl_Decimal.eq_1) := by and_intros <;> intros <;> rfl
theorem gr {p : Prop} (h : p := by (grind [impl_Decimal_len]); first | done | fail) : p := h
set_option maxHeartbeats 400000 in
set_option maxRecDepth 20000 in
theorem den (a0 : Int) (hp0 : -9223372036854775808 ≤ a0) (hp1 : a0 ≤ 9223372036854775807) : Den Tryz.prog 91 [.int .i64 a0] (.str (impl_secondsText a0)) := by
  generalize hR : impl_secondsText a0 = r
  unfold impl_secondsText at hR
  refine di Tryz.func91 Tryz.ntmps91 Tryz.results91 ?_
  intro c hL hc hk
  clear hL
  simp only [pars, Nat.zero_add]
  have h1 := dec_len20w (a0.tdiv 10)
  have ht := tmod_rng a0
  have h2 := dec_len20 (a0.tmod 10) (by omega) (by omega)
  iterate 2 refine rS ?_
  refine AWP.cond rfl (fun hb => ?_) (fun hb => ?_)
  · replace hR := ct hR
    refine rS ?_
    refine AWP.ret ?_
    subst hR
    exact es
  · replace hR := cf hR
    refine rS ?_
    refine AWP.ret ?_
    subst hR
    exact es
end N91
def D_impl_secondsText : DF
  | [x0] => some (.str (impl_secondsText (rdI x0)), false, [wI .i64 x0, -9223372036854775808 ≤ (rdI x0), (rdI x0) ≤ 9223372036854775807])
  | _ => none
theorem D_impl_secondsText_ok : OkD Tryz.prog 91 D_impl_secondsText := by unfold D_impl_secondsText; exact dk N91.den
end Go.Ab

namespace Go.Ab
open Go Go.Proofs
theorem valid_fits (a : Character) (h : impl_ValidCharacter a = true) : impl_Character_fits a = true := by
  unfold impl_ValidCharacter at h
  cases hf : impl_Character_fits a with
  | true => rfl
  | false => rw [hf] at h; simp at h
theorem least_nn (a : Character) (h : impl_ValidCharacter a = true) : a.Period ≤ 600 := by
  unfold impl_ValidCharacter at h
  cases h1 : ((!(impl_areCharacterColors a.Colors)) || (!(impl_Character_fits a))) with
  | true => rw [h1] at h; cases h
  | false =>
    rw [h1] at h
    cases h2 : impl_Character_isSteady a with
    | true => rw [h2] at h; simp at h; omega
    | false => rw [h2] at h; simp [impl_within] at h; omega
theorem valid_rng (a : Character) (h : impl_ValidCharacter a = true) : a.Group.length ≤ 4 ∧ (∀ v ∈ a.Group, 1 ≤ v ∧ v ≤ 9) ∧ a.Period ≤ 600 := by
  have h1 := fits_grp a (valid_fits a h)
  exact ⟨h1.1, h1.2, least_nn a h⟩
theorem headText_len (a : Character) (h1 : a.Group.length ≤ 4) (h2 : ∀ v ∈ a.Group, 1 ≤ v ∧ v ≤ 9) : (impl_Character_headText a).length ≤ 200 + a.Letter.length := by
  unfold impl_Character_headText
  have hk := kind_len a.Kind
  obtain ⟨t, q1, q2, q3⟩ := loopR_total (b := impl_Character_headText_b1 a) (fun i s => s.length = i ∧ ∀ v ∈ s, v.length ≤ 20) (k := a.Group.length - 0) (i := 0) (s := []) ⟨rfl, by simp⟩ (fun j u _ _ h => ⟨_, rfl, by simp [h.1], fun v hv => by
    rcases List.mem_append.1 hv with h9 | h9
    · exact h.2 v h9
    · rw [List.mem_singleton] at h9; subst h9
      have := getD_rng h2 j
      exact dec_len20 _ (by omega) (by omega)⟩)
  rw [q1]
  have hj := (sjoin_len t q3).1
  simp only [Bool.cond_eq_ite]
  repeat' split
  all_goals ((try simp only [List.length_append, List.length_cons, List.length_nil]); omega)
theorem valid_period (a : Character) (h : impl_ValidCharacter a = true) : (impl_Character_isSteady a = true ∧ a.Period = 0) ∨ (impl_Character_isSteady a = false ∧ 0 < a.Period ∧ a.Period ≤ 600) := by
  have hf := valid_fits a h
  unfold impl_ValidCharacter at h
  cases h1 : ((!(impl_areCharacterColors a.Colors)) || (!(impl_Character_fits a))) with
  | true => rw [h1] at h; cases h
  | false =>
    rw [h1] at h
    cases h2 : impl_Character_isSteady a with
    | true => rw [h2] at h; left; simpa using h
    | false =>
      rw [h2, least_eq a hf h2] at h
      have := least_nn2 a hf h2
      right
      simp [impl_within] at h
      exact ⟨rfl, by omega, by omega⟩
theorem period_nn (a : Character) (h : impl_ValidCharacter a = true) : 0 ≤ a.Period := by
  rcases valid_period a h with ⟨_, h⟩ | ⟨_, h, _⟩ <;> omega
theorem kind_rng (a : Character) (h : impl_Character_fits a = true) : 1 ≤ a.Kind ∧ a.Kind ≤ 8 := by
  unfold impl_Character_fits at h
  simp only [Bool.cond_eq_ite] at h
  repeat' split at h
  all_goals (try simp only [beq_iff_eq] at *)
  all_goals first | omega | (cases h; done)
theorem ok_rng (a : Character) (hl : a.Colors.length < 9223372036854775808) (h : spec_l05Ok a = true) : a.Group.length ≤ 4 ∧ (∀ v ∈ a.Group, 1 ≤ v ∧ v ≤ 9) ∧ 1 ≤ a.Kind ∧ a.Kind ≤ 8 ∧ 0 ≤ a.Period ∧ a.Period ≤ 600 := by
  rw [← valid_eq a hl] at h
  have h1 := valid_rng a h
  have h2 := kind_rng a (valid_fits a h)
  exact ⟨h1.1, h1.2.1, h2.1, h2.2, period_nn a h, h1.2.2⟩
theorem seconds_len (n : Int) (h1 : -9223372036854775808 ≤ n) (h2 : n ≤ 9223372036854775807) : (impl_secondsText n).length ≤ 41 := by
  unfold impl_secondsText
  have h3 := dec_len20w (n.tdiv 10)
  have ht := tmod_rng n
  have h4 := dec_len20 (n.tmod 10) (by omega) (by omega)
  simp only [Bool.cond_eq_ite]
  split
  · omega
  · simp only [List.length_append, List.length_cons, List.length_nil]; omega
end Go.Ab

namespace Go.Ab
open Go Go.Proofs
def spec_l05Kinds  : (List (List UInt8)) :=
  ([[], [70], [79, 99], [73, 115, 111], [70, 108], [76, 70, 108], [81], [86, 81], [77, 111]] : List (List UInt8))
namespace N125
theorem DD : DOk Tryz.prog (Go.Ab.DD []) := DD_nil _
theorem lx {p : Prop} (h : p := by (exact lxx); first | done | fail) : p := h
theorem den   : Den Tryz.prog 125 [] (ownL 9 1 eS (spec_l05Kinds)) := by
  generalize hR : spec_l05Kinds = r
  unfold spec_l05Kinds at hR
  refine di Tryz.func125 Tryz.ntmps125 Tryz.results125 ?_
  intro c hL hc hk
  clear hL
  simp only [pars, Nat.zero_add]
  iterate 2 refine rS ?_
  refine AWP.ret ?_
  subst hR
  exact es
end N125
def D_spec_l05Kinds : DF
  | [] => some (ownL 9 1 eS spec_l05Kinds, false, [])
  | _ => none
def Dz_spec_l05Kinds : DF
  | [] => some (ownL 9 1 eS spec_l05Kinds, true, [])
  | _ => none
theorem D_spec_l05Kinds_ok : OkD Tryz.prog 125 D_spec_l05Kinds := by unfold D_spec_l05Kinds; exact dk N125.den
theorem Dz_spec_l05Kinds_ok : OkD Tryz.prog 125 Dz_spec_l05Kinds := by unfold Dz_spec_l05Kinds; exact dk N125.den
end Go.Ab

namespace Go.Ab
open Go Go.Proofs
def spec_l01Dec_b1 (a0 : Int) (s1 : Int × List Int) : Except (Sum ((List UInt8)) (Int × List Int)) (Int × List Int) :=
  (bif (s1.1 != 0) then (bif decide ((s1.1.tmod 10) < 0) then .ok (IntKind.wrap .i64 (s1.1.tdiv 10), s1.2 ++ ([IntKind.wrap .u8 (IntKind.wrap .i64 (48 + (IntKind.wrap .i64 (0 - (s1.1.tmod 10)))))] : List Int)) else .ok (IntKind.wrap .i64 (s1.1.tdiv 10), s1.2 ++ ([IntKind.wrap .u8 (IntKind.wrap .i64 (48 + (s1.1.tmod 10)))] : List Int))) else .error (.inr (s1.1, s1.2)))
def spec_l01Dec_b2 (a0 : Int) (s1 : Int × List Int) (s2 : Int × List Int) : Except (Sum ((List UInt8)) (Int × List Int)) (Int × List Int) :=
  (bif decide (0 ≤ s2.1) then .ok (IntKind.wrap .i64 (s2.1 - 1), s2.2 ++ ([((s1.2 ++ ([45] : List Int)).getD ((s2.1).toNat) default)] : List Int)) else .error (.inr (s2.1, s2.2)))
def spec_l01Dec_b3 (a0 : Int) (s1 : Int × List Int) (s3 : Int × List Int) : Except (Sum ((List UInt8)) (Int × List Int)) (Int × List Int) :=
  (bif decide (0 ≤ s3.1) then .ok (IntKind.wrap .i64 (s3.1 - 1), s3.2 ++ ([(s1.2.getD ((s3.1).toNat) default)] : List Int)) else .error (.inr (s3.1, s3.2)))
def spec_l01Dec (a0 : Int) : (List UInt8) :=
  (bif (a0 == 0) then [48] else (match loopW (spec_l01Dec_b1 a0) (((a0).natAbs) + 1) (a0, ([] : List Int)) with | .error (.inl e) => e | .error (.inr s1) => (bif decide (a0 < 0) then (match loopW (spec_l01Dec_b2 a0 s1) ((((IntKind.wrap .i64 ((s1.2.length + 1 : Int) - 1)) + 1).toNat) + 1) (IntKind.wrap .i64 ((s1.2.length + 1 : Int) - 1), ([] : List Int)) with | .error (.inl e) => e | .error (.inr s2) => (s2.2.map fun z => UInt8.ofNat z.toNat) | .ok _ => default) else (match loopW (spec_l01Dec_b3 a0 s1) ((((IntKind.wrap .i64 ((s1.2.length : Int) - 1)) + 1).toNat) + 1) (IntKind.wrap .i64 ((s1.2.length : Int) - 1), ([] : List Int)) with | .error (.inl e) => e | .error (.inr s3) => (s3.2.map fun z => UInt8.ofNat z.toNat) | .ok _ => default)) | .ok _ => default))
namespace N130
theorem DD : DOk Tryz.prog (Go.Ab.DD []) := DD_nil _
theorem den (a0 : Int) (hp0 : -1000000000000 ≤ a0) (hp1 : a0 ≤ 1000000000000) : Den Tryz.prog 130 [.int .i64 a0] (.str (spec_l01Dec a0)) := by
  generalize hR : spec_l01Dec a0 = r
  unfold spec_l01Dec at hR
  refine di Tryz.func130 Tryz.ntmps130 Tryz.results130 ?_
  intro c hL hc hk
  clear hL
  simp only [pars, Nat.zero_add]
  iterate 2 refine rS ?_
  refine AWP.cond rfl (fun hb => ?_) (fun hb => ?_)
  · replace hR := ct hR
    refine rS ?_
    refine AWP.ret ?_
    subst hR
    exact es
  · replace hR := cf hR
    iterate 2 refine rS ?_
    refine AWP.block ?_
    generalize hz1 : loopW (spec_l01Dec_b1 a0) (((a0).natAbs) + 1) (a0, ([] : List Int)) = z1 at hR
    refine AWP.whileW (spec_l01Dec_b1 a0) (fun s1 => ⟨[(0, .int .i64 a0), (3, .ref 0 1 0 s1.2.length), (4, .int .i64 s1.1)], [.arr 5 1 s1.2.length (fun j => eIu8 (s1.2.getD j default))]⟩) (fun s1 => -1000000000000 ≤ s1.1 ∧ s1.1 ≤ 1000000000000 ∧ s1.2.length + (s1.1).natAbs ≤ 1000000000000) (fun s1 => (s1.1).natAbs) (((a0).natAbs) + 1) (a0, ([] : List Int)) [0] hz1 m0 wt sm ?_
    clear hz1
    intro s1 k1 hW1 hm1 hz1
    simp only [spec_l01Dec_b1] at hz1
    refine rS ?_
    refine AWP.cond rfl (fun hb => ?_) (fun hb => ?_)
    · simp only [hb, cond_true] at hz1
      iterate 2 refine rS ?_
      refine AWP.cond rfl (fun hb => ?_) (fun hb => ?_)
      · simp only [hb, cond_true] at hz1
        iterate 3 refine rS ?_
        exact ⟨_, [2], by (have h10 := tdiv10 s1.1; simp only [ob, ln, ol] at *; omega), by (have h10 := tdiv10 s1.1; refine ⟨?_, ?_, ?_⟩ <;> simp only [ob, ln, ol] at * <;> omega), hz1, sm⟩
      · simp only [hb, cond_false] at hz1
        iterate 2 refine rS ?_
        exact ⟨_, [2], by (have h10 := tdiv10 s1.1; simp only [ob, ln, ol] at *; omega), by (have h10 := tdiv10 s1.1; refine ⟨?_, ?_, ?_⟩ <;> simp only [ob, ln, ol] at * <;> omega), hz1, sm⟩
    · simp only [hb, cond_false] at hz1
      refine AWP.exit ?_
      refine exitTo_here ?_
      subst hz1; dsimp only at hR
      refine rS ?_
      refine AWP.cond rfl (fun hb => ?_) (fun hb => ?_)
      · replace hR := ct hR
        iterate 3 refine rS ?_
        refine AWP.block ?_
        generalize hz2 : loopW (spec_l01Dec_b2 a0 (s1.1, s1.2)) ((((IntKind.wrap .i64 ((s1.2.length + 1 : Int) - 1)) + 1).toNat) + 1) (IntKind.wrap .i64 ((s1.2.length + 1 : Int) - 1), ([] : List Int)) = z2 at hR
        refine AWP.whileW (spec_l01Dec_b2 a0 (s1.1, s1.2)) (fun s2 => ⟨[(3, .ref 0 1 0 (s1.2.length + 1)), (6, .ref 1 1 0 s2.2.length), (7, .int .i64 s2.1)], [.arr 5 1 (s1.2 ++ ([45] : List Int)).length (fun j => eIu8 ((s1.2 ++ ([45] : List Int)).getD j default)), .arr 5 1 s2.2.length (fun j => eIu8 (s2.2.getD j default))]⟩) (fun s2 => -1 ≤ s2.1 ∧ s2.1 ≤ s1.2.length ∧ s2.1 ≤ 1000000000000 ∧ s2.2.length + (s2.1 + 1).toNat ≤ 1000000000001) (fun s2 => (s2.1 + 1).toNat) ((((IntKind.wrap .i64 ((s1.2.length + 1 : Int) - 1)) + 1).toNat) + 1) (IntKind.wrap .i64 ((s1.2.length + 1 : Int) - 1), ([] : List Int)) [2, 3] hz2 m0 wt sm ?_
        clear hz2
        intro s2 k2 hW2 hm2 hz2
        simp only [spec_l01Dec_b2] at hz2
        refine rS ?_
        refine AWP.cond rfl (fun hb => ?_) (fun hb => ?_)
        · simp only [hb, cond_true] at hz2
          iterate 2 refine rS ?_
          exact ⟨_, [0, 3], ms, wt, hz2, sm⟩
        · simp only [hb, cond_false] at hz2
          refine AWP.exit ?_
          refine exitTo_here ?_
          subst hz2; dsimp only at hR
          refine rS ?_
          refine AWP.ret ?_
          subst hR
          exact es
      · replace hR := cf hR
        iterate 2 refine rS ?_
        refine AWP.block ?_
        generalize hz3 : loopW (spec_l01Dec_b3 a0 (s1.1, s1.2)) ((((IntKind.wrap .i64 ((s1.2.length : Int) - 1)) + 1).toNat) + 1) (IntKind.wrap .i64 ((s1.2.length : Int) - 1), ([] : List Int)) = z3 at hR
        refine AWP.whileW (spec_l01Dec_b3 a0 (s1.1, s1.2)) (fun s3 => ⟨[(3, .ref 0 1 0 s1.2.length), (6, .ref 1 1 0 s3.2.length), (7, .int .i64 s3.1)], [.arr 5 1 s1.2.length (fun j => eIu8 (s1.2.getD j default)), .arr 5 1 s3.2.length (fun j => eIu8 (s3.2.getD j default))]⟩) (fun s3 => -1 ≤ s3.1 ∧ s3.1 < s1.2.length ∧ s3.1 ≤ 1000000000000 ∧ s3.2.length + (s3.1 + 1).toNat ≤ 1000000000001) (fun s3 => (s3.1 + 1).toNat) ((((IntKind.wrap .i64 ((s1.2.length : Int) - 1)) + 1).toNat) + 1) (IntKind.wrap .i64 ((s1.2.length : Int) - 1), ([] : List Int)) [0, 1] hz3 m0 wt sm ?_
        clear hz3
        intro s3 k3 hW3 hm3 hz3
        simp only [spec_l01Dec_b3] at hz3
        refine rS ?_
        refine AWP.cond rfl (fun hb => ?_) (fun hb => ?_)
        · simp only [hb, cond_true] at hz3
          iterate 2 refine rS ?_
          exact ⟨_, [0, 3], ms, wt, hz3, sm⟩
        · simp only [hb, cond_false] at hz3
          refine AWP.exit ?_
          refine exitTo_here ?_
          subst hz3; dsimp only at hR
          refine rS ?_
          refine AWP.ret ?_
          subst hR
          exact es
end N130
def D_spec_l01Dec : DF
  | [x0] => some (.str (spec_l01Dec (rdI x0)), false, [wI .i64 x0, -1000000000000 ≤ (rdI x0), (rdI x0) ≤ 1000000000000])
  | _ => none
theorem D_spec_l01Dec_ok : OkD Tryz.prog 130 D_spec_l01Dec := by unfold D_spec_l01Dec; exact dk N130.den
end Go.Ab

namespace Go.Ab
open Go Go.Proofs
def revDec (m : Nat) : List Int := if h : m = 0 then [] else (48 + (m % 10 : Nat) : Int) :: revDec (m / 10)
termination_by m
decreasing_by omega
theorem revDec_zero : revDec 0 = [] := by rw [revDec]; simp
theorem revDec_pos {m : Nat} (h : m ≠ 0) : revDec m = (48 + (m % 10 : Nat) : Int) :: revDec (m / 10) := by rw [revDec]; simp [h]
theorem decDigits_rev : ∀ (m : Nat), m ≠ 0 → (revDec m).reverse.map (fun z => UInt8.ofNat z.toNat) = Go.Lib.decDigits m := by
  intro m
  induction m using Nat.strongRecOn with
  | ind m ih =>
    intro h
    rw [revDec_pos h, Go.Lib.decDigits]
    have e3 : UInt8.ofNat (48 + ((m % 10 : Nat) : Int)).toNat = UInt8.ofNat (48 + m % 10) := by congr 1
    split
    · rename_i h10
      have e : m / 10 = 0 := by omega
      have e2 : m % 10 = m := Nat.mod_eq_of_lt h10
      rw [e2] at e3 ⊢
      simp only [e, revDec_zero, List.reverse_cons, List.reverse_nil, List.nil_append, List.map_cons, List.map_nil]
      rw [e3]
    · rw [← ih (m / 10) (by omega) (by omega)]
      simp only [List.reverse_cons, List.map_append, List.map_cons, List.map_nil, e3]
theorem tdiv_abs (x : Int) : (x.tdiv 10).natAbs = x.natAbs / 10 := by
  rcases tdiv10 x with ⟨h, e⟩ | ⟨h, e⟩ <;> rw [e] <;> omega
theorem tmod10 (x : Int) : x.tmod 10 = x - 10 * x.tdiv 10 := Int.tmod_def x 10
theorem dec_b1 (a0 : Int) (m : Int) (ds : List Int) (h1 : -1000000000000 ≤ m) (h2 : m ≤ 1000000000000) (h : m ≠ 0) :
    spec_l01Dec_b1 a0 (m, ds) = .ok (m.tdiv 10, ds ++ [48 + ((m.natAbs % 10 : Nat) : Int)]) := by
  have e1 := tmod10 m
  have e2 := tdiv10 m
  have hn : (m != 0) = true := by simpa using h
  unfold spec_l01Dec_b1
  simp only [hn, cond_true]
  have w1 : IntKind.wrap .i64 (m.tdiv 10) = m.tdiv 10 := by rw [IntKind.wrap_i64]; omega
  rw [w1]
  by_cases hm : m.tmod 10 < 0
  · simp only [hm, decide_true, cond_true]
    have w2 : IntKind.wrap .u8 (IntKind.wrap .i64 (48 + (IntKind.wrap .i64 (0 - (m.tmod 10))))) = 48 + ((m.natAbs % 10 : Nat) : Int) := by
      simp only [IntKind.wrap_i64, IntKind.wrap_u8]
      omega
    rw [w2]
  · simp only [hm, decide_false, cond_false]
    have w2 : IntKind.wrap .u8 (IntKind.wrap .i64 (48 + (m.tmod 10))) = 48 + ((m.natAbs % 10 : Nat) : Int) := by
      simp only [IntKind.wrap_i64, IntKind.wrap_u8]
      omega
    rw [w2]
theorem dec_loop1 (a0 : Int) : ∀ (k : Nat) (m : Int) (ds : List Int), -1000000000000 ≤ m → m ≤ 1000000000000 → m.natAbs < k →
    loopW (spec_l01Dec_b1 a0) k (m, ds) = .error (.inr (0, ds ++ revDec m.natAbs))
  | 0, m, ds, _, _, h => by omega
  | k + 1, m, ds, h1, h2, h => by
    by_cases hm : m = 0
    · subst hm
      simp [loopW, spec_l01Dec_b1, revDec_zero]
    · have e2 := tdiv10 m
      simp only [loopW, dec_b1 a0 m ds h1 h2 hm]
      rw [dec_loop1 a0 k (m.tdiv 10) _ (by omega) (by omega) (by omega), tdiv_abs, List.append_assoc, List.singleton_append, ← revDec_pos (by omega)]
theorem revDec_len : ∀ (m : Nat), (revDec m).length ≤ m := by
  intro m
  induction m using Nat.strongRecOn with
  | ind m ih =>
    by_cases h : m = 0
    · subst h; simp [revDec_zero]
    · rw [revDec_pos h]
      have := ih (m / 10) (by omega)
      simp only [List.length_cons]
      omega
theorem take_rev {α : Type} (L : List α) (d : α) (k : Nat) (h : k < L.length) : L.getD k d :: (L.take k).reverse = (L.take (k + 1)).reverse := by
  rw [List.take_add_one, List.reverse_append]
  simp [List.getD, List.getElem?_eq_getElem h]
theorem dec_loop2 (a0 : Int) (s1 : Int × List Int) : ∀ (f k : Nat) (out : List Int), k < f → k ≤ s1.2.length + 1 → k ≤ 1000000000001 →
    loopW (spec_l01Dec_b2 a0 s1) f ((k : Int) - 1, out) = .error (.inr (-1, out ++ ((s1.2 ++ [45]).take k).reverse))
  | 0, k, out, h, _, _ => by omega
  | f + 1, 0, out, _, _, _ => by simp [loopW, spec_l01Dec_b2]
  | f + 1, k + 1, out, h, hk, hb => by
    have e1 : IntKind.wrap .i64 (((k + 1 : Nat) : Int) - 1 - 1) = (k : Int) - 1 := by rw [IntKind.wrap_i64]; omega
    have e2 : (((k + 1 : Nat) : Int) - 1).toNat = k := by omega
    have e3 : decide (0 ≤ ((k + 1 : Nat) : Int) - 1) = true := by simp
    simp only [loopW, spec_l01Dec_b2, e3, cond_true, e1, e2]
    rw [dec_loop2 a0 s1 f k _ (by omega) (by omega) (by omega), List.append_assoc, List.singleton_append, take_rev _ _ _ (by simp; omega)]
theorem dec_loop3 (a0 : Int) (s1 : Int × List Int) : ∀ (f k : Nat) (out : List Int), k < f → k ≤ s1.2.length → k ≤ 1000000000001 →
    loopW (spec_l01Dec_b3 a0 s1) f ((k : Int) - 1, out) = .error (.inr (-1, out ++ (s1.2.take k).reverse))
  | 0, k, out, h, _, _ => by omega
  | f + 1, 0, out, _, _, _ => by simp [loopW, spec_l01Dec_b3]
  | f + 1, k + 1, out, h, hk, hb => by
    have e1 : IntKind.wrap .i64 (((k + 1 : Nat) : Int) - 1 - 1) = (k : Int) - 1 := by rw [IntKind.wrap_i64]; omega
    have e2 : (((k + 1 : Nat) : Int) - 1).toNat = k := by omega
    have e3 : decide (0 ≤ ((k + 1 : Nat) : Int) - 1) = true := by simp
    simp only [loopW, spec_l01Dec_b3, e3, cond_true, e1, e2]
    rw [dec_loop3 a0 s1 f k _ (by omega) (by omega) (by omega), List.append_assoc, List.singleton_append, take_rev _ _ _ (by omega)]
theorem spec_l01Dec_eq (n : Int) (h1 : -1000000000000 ≤ n) (h2 : n ≤ 1000000000000) : spec_l01Dec n = Go.Lib.itoa n := by
  unfold spec_l01Dec Go.Lib.itoa
  by_cases h0 : n = 0
  · subst h0
    simp [Go.Lib.decDigits]
  have hn : (n == 0) = false := by simpa using h0
  rw [hn, cond_false, dec_loop1 n _ n [] h1 h2 (by omega)]
  have hl := revDec_len n.natAbs
  have hr := decDigits_rev n.natAbs (by omega)
  simp only [List.nil_append]
  by_cases hneg : n < 0
  · have e1 : IntKind.wrap .i64 (((revDec n.natAbs).length + 1 : Int) - 1) = ((((revDec n.natAbs).length + 1 : Nat)) : Int) - 1 := by rw [IntKind.wrap_i64]; omega
    simp only [hneg, decide_true, cond_true, e1, if_true]
    rw [dec_loop2 n _ _ _ _ (by omega) (by simp) (by omega)]
    simp only [List.nil_append]
    rw [List.take_of_length_le (by simp), List.reverse_append, List.map_append, hr]
    rfl
  · have e1 : IntKind.wrap .i64 (((revDec n.natAbs).length : Int) - 1) = (((revDec n.natAbs).length : Nat) : Int) - 1 := by rw [IntKind.wrap_i64]; omega
    simp only [hneg, decide_false, cond_false, e1, if_false]
    rw [dec_loop3 n _ _ _ _ (by omega) (by simp) (by omega)]
    simp only [List.nil_append]
    rw [List.take_of_length_le (by simp), hr]
    congr 1
    omega
theorem spec_l01Dec_len (n : Int) (h1 : -1000000000000 ≤ n) (h2 : n ≤ 1000000000000) : (spec_l01Dec n).length ≤ n.natAbs + 2 := by
  rw [spec_l01Dec_eq n h1 h2]
  exact itoa_len2 n
end Go.Ab

namespace Go.Ab
open Go Go.Proofs
def spec_l05Seconds (a0 : Int) : (List UInt8) :=
  (bif ((a0.tmod 10) == 0) then (spec_l01Dec (IntKind.wrap .i64 (a0.tdiv 10))) ++ [115] else (((spec_l01Dec (IntKind.wrap .i64 (a0.tdiv 10))) ++ [46]) ++ (spec_l01Dec (a0.tmod 10))) ++ [115])
namespace N126
theorem DD : DOk Tryz.prog (Go.Ab.DD [(130, dP D_spec_l01Dec)]) := DD_cons D_spec_l01Dec_ok.e <| DD_nil _
theorem dn : type_of% (@D_spec_l01Dec.eq_1) := by and_intros <;> intros <;> rfl
set_option maxHeartbeats 400000 in
set_option maxRecDepth 20000 in
theorem den (a0 : Int) (hp0 : 0 ≤ a0) (hp1 : a0 ≤ 1000000) : Den Tryz.prog 126 [.int .i64 a0] (.str (spec_l05Seconds a0)) := by
  generalize hR : spec_l05Seconds a0 = r
  unfold spec_l05Seconds at hR
  refine di Tryz.func126 Tryz.ntmps126 Tryz.results126 ?_
  intro c hL hc hk
  clear hL
  simp only [pars, Nat.zero_add]
  have hd : a0.tdiv 10 = a0 / 10 := Int.tdiv_eq_ediv_of_nonneg hp0
  have hw : IntKind.wrap .i64 (a0.tdiv 10) = a0 / 10 := by rw [IntKind.wrap_i64]; omega
  have ht := tmod_rng a0
  have h1 := spec_l01Dec_len (IntKind.wrap .i64 (a0.tdiv 10)) (by omega) (by omega)
  have h2 := spec_l01Dec_len (a0.tmod 10) (by omega) (by omega)
  have h3 : (IntKind.wrap .i64 (a0.tdiv 10)).natAbs ≤ 100000 := by omega
  have h4 : (a0.tmod 10).natAbs ≤ 10 := by omega
  iterate 2 refine rS ?_
  refine AWP.cond rfl (fun hb => ?_) (fun hb => ?_)
  · replace hR := ct hR
    refine rS ?_
    refine AWP.ret ?_
    subst hR
    exact es
  · replace hR := cf hR
    refine rS ?_
    refine AWP.ret ?_
    subst hR
    exact es
end N126
def D_spec_l05Seconds : DF
  | [x0] => some (.str (spec_l05Seconds (rdI x0)), false, [wI .i64 x0, 0 ≤ (rdI x0), (rdI x0) ≤ 1000000])
  | _ => none
theorem D_spec_l05Seconds_ok : OkD Tryz.prog 126 D_spec_l05Seconds := by unfold D_spec_l05Seconds; exact dk N126.den
end Go.Ab

namespace Go.Ab
open Go Go.Proofs
theorem l05kind_len (n : Nat) : (spec_l05Kinds.getD n default).length ≤ 3 := by
  rw [List.getD_eq_getElem?_getD]
  have h : ∀ x ∈ spec_l05Kinds, x.length ≤ 3 := by decide
  cases hg : spec_l05Kinds[n]? with
  | none => show (0 : Nat) ≤ 3; omega
  | some x => exact h x (List.mem_of_getElem? hg)
theorem l05sec_len (n : Int) (h1 : 0 ≤ n) (h2 : n ≤ 1000000) : (spec_l05Seconds n).length ≤ 43 := by
  unfold spec_l05Seconds
  have hd : n.tdiv 10 = n / 10 := Int.tdiv_eq_ediv_of_nonneg h1
  have hw : IntKind.wrap .i64 (n.tdiv 10) = n / 10 := by rw [IntKind.wrap_i64]; omega
  have ht := tmod_rng n
  rw [hw, spec_l01Dec_eq _ (by omega) (by omega), spec_l01Dec_eq _ (by omega) (by omega)]
  have h3 := itoa_len20 (n / 10) (by omega) (by omega)
  have h4 := itoa_len20 (n.tmod 10) (by omega) (by omega)
  simp only [Bool.cond_eq_ite]
  split
  · simp only [List.length_append, List.length_cons, List.length_nil]; omega
  · simp only [List.length_append, List.length_cons, List.length_nil]; omega
end Go.Ab

namespace Go.Ab
open Go
theorem index_one_none : ∀ (l : List UInt8) (c : UInt8), c ∉ l → Lib.index l [c] = -1
  | [], c, _ => rfl
  | b :: l, c, h => by
    have h1 : ¬ c = b := fun e => h (by simp [e])
    have h2 := index_one_none l c (fun e => h (by simp [e]))
    have h3 : (c == b) = false := by simpa using h1
    simp [Lib.index, h2, List.isPrefixOf, h3]
theorem index_one_app : ∀ (l t : List UInt8) (c : UInt8), c ∉ l → Lib.index (l ++ c :: t) [c] = l.length
  | [], t, c, _ => by simp [Lib.index, List.isPrefixOf]
  | b :: l, t, c, h => by
    have h1 : ¬ c = b := fun e => h (by simp [e])
    have h2 := index_one_app l t c (fun e => h (by simp [e]))
    have h3 : (c == b) = false := by simpa using h1
    have h4 : ((l.length : Int) == -1) = false := by rw [beq_eq_false_iff_ne]; omega
    simp only [List.cons_append, Lib.index, h2, List.isPrefixOf, h3, h4, Bool.false_and, List.length_cons]
    simp
theorem cut_app (l t : List UInt8) (c : UInt8) (h : c ∉ l) : Lib.cut (l ++ c :: t) [c] = (l, t, true) := by
  unfold Lib.cut
  rw [index_one_app l t c h, if_pos (by omega)]
  simp only [Int.toNat_natCast, List.length_singleton]
  rw [List.take_left' rfl, ← List.drop_drop, List.drop_left' rfl]
  rfl
theorem cut_none (l : List UInt8) (c : UInt8) (h : c ∉ l) : Lib.cut l [c] = (l, [], false) := by
  unfold Lib.cut
  rw [index_one_none l c h, if_neg (by omega)]
theorem hasSuffix_app (l p : List UInt8) : Lib.hasSuffix (l ++ p) p = true := by
  unfold Lib.hasSuffix
  rw [List.isSuffixOf_iff_suffix]
  exact List.suffix_append l p
theorem trimSuffix_app (l p : List UInt8) : Lib.trimSuffix (l ++ p) p = l := by
  unfold Lib.trimSuffix
  rw [hasSuffix_app]
  simp
theorem hasSuffix_last (l p : List UInt8) (a b : UInt8) (h : a ≠ b) : Lib.hasSuffix (l ++ [a]) (p ++ [b]) = false := by
  cases hs : Lib.hasSuffix (l ++ [a]) (p ++ [b]) with
  | false => rfl
  | true =>
    unfold Lib.hasSuffix at hs
    rw [List.isSuffixOf_iff_suffix] at hs
    obtain ⟨t, ht⟩ := hs
    have := congrArg List.getLast? ht
    rw [← List.append_assoc] at this
    simp at this
    exact absurd this.symm h
theorem trimSuffix_no (l p : List UInt8) (h : Lib.hasSuffix l p = false) : Lib.trimSuffix l p = l := by
  unfold Lib.trimSuffix
  rw [h]; simp
end Go.Ab

namespace Go.Ab
open Go Go.Lib
def splitC (c : UInt8) : List UInt8 → List (List UInt8)
  | [] => [[]]
  | b :: l => if b = c then [] :: splitC c l else match splitC c l with
    | [] => [[b]]
    | x :: r => (b :: x) :: r
theorem splitC_ne (c : UInt8) : ∀ l, splitC c l ≠ []
  | [] => by simp [splitC]
  | b :: l => by
    simp only [splitC]
    split
    · simp
    · split <;> simp
theorem splitC_none (c : UInt8) : ∀ l : List UInt8, c ∉ l → splitC c l = [l]
  | [], _ => rfl
  | b :: l, h => by
    simp only [List.mem_cons, not_or] at h
    rw [splitC, if_neg (fun e => h.1 e.symm), splitC_none c l h.2]
theorem splitC_cons (c : UInt8) : ∀ (a l : List UInt8), c ∉ a → splitC c (a ++ c :: l) = a :: splitC c l
  | [], l, _ => by simp [splitC]
  | b :: a, l, h => by
    simp only [List.mem_cons, not_or] at h
    rw [List.cons_append, splitC, if_neg (fun e => h.1 e.symm), splitC_cons c a l h.2]
theorem split_eq (c : UInt8) : ∀ (n : Nat) (s : List UInt8), s.length ≤ n → splitK [c] 0 (count s [c]) s = splitC c s := by
  intro n
  induction n with
  | zero =>
    intro s h
    have : s = [] := List.length_eq_zero_iff.1 (by omega)
    subst this
    have hi : index [] [c] = -1 := by rw [index_one]; rfl
    rw [count_miss hi]
    rfl
  | succ n ih =>
    intro s h
    have h1 := index_one s c
    by_cases hm : indexByte s c = -1
    · rw [count_miss (by rw [h1]; exact hm)]
      have hn := indexByte_none hm
      rw [splitC_none c s (fun hc => by
        obtain ⟨k, hk⟩ := List.getElem?_of_mem hc
        exact hn k hk)]
      rfl
    · have hge := indexByte_ge s c
      obtain ⟨o, ho⟩ : ∃ o : Nat, indexByte s c = o := ⟨(indexByte s c).toNat, by omega⟩
      obtain ⟨e1, e2⟩ := indexByte_some ho
      have hio : index s [c] = (o : Int) := h1.trans ho
      rw [count_hit (by simp) hio, Nat.add_comm, splitK, if_neg (by rw [hio]; simp), hio]
      have hlt : o < s.length := (List.getElem?_eq_some_iff.1 e1).1
      have hs : s = s.take o ++ c :: s.drop (o + 1) := by
        conv => lhs; rw [← List.take_append_drop o s]
        rw [List.drop_eq_getElem_cons hlt]
        congr 2
        exact (List.getElem?_eq_some_iff.1 e1).2
      have hnot : c ∉ s.take o := fun hc => by
        obtain ⟨k, hk⟩ := List.getElem?_of_mem hc
        have hko : k < o := by
          have := (List.getElem?_eq_some_iff.1 hk).1
          simp at this; omega
        rw [List.getElem?_take_of_lt hko] at hk
        exact e2 k hko hk
      have hd : s.drop ((o : Int).toNat + [c].length) = s.drop (o + 1) := by simp
      rw [hd, show o + [c].length = o + 1 from rfl, ih (s.drop (o + 1)) (by simp; omega)]
      conv => rhs; rw [hs]
      rw [splitC_cons c _ _ hnot]
      simp
theorem splitC_len (c : UInt8) : ∀ (l : List UInt8), (splitC c l).length ≤ l.length + 1 ∧ ∀ x ∈ splitC c l, x.length ≤ l.length
  | [] => by simp [splitC]
  | b :: l => by
    obtain ⟨h1, h2⟩ := splitC_len c l
    simp only [splitC]
    split
    · simp only [List.length_cons, List.mem_cons]
      refine ⟨by omega, fun x hx => ?_⟩
      rcases hx with rfl | hx
      · simp
      · have := h2 x hx; omega
    · split
      · simp
      · rename_i x r he
        rw [he] at h1 h2
        simp only [List.length_cons, List.mem_cons] at h1 ⊢
        refine ⟨by omega, fun y hy => ?_⟩
        rcases hy with rfl | hy
        · have := h2 x (by simp); simp only [List.length_cons]; omega
        · have := h2 y (by simp [hy]); omega
end Go.Ab

namespace Go.Ab
open Go Go.Proofs
def spec_l05Text_b1 (a0 : Character) (i1 : Nat) (s1 : List UInt8) : Except ((List UInt8)) (List UInt8) :=
  (bif ((i1 : Int) == 0) then .ok (s1 ++ ([40] ++ (spec_l01Dec (a0.Group.getD i1 default)))) else .ok (s1 ++ ([43] ++ (spec_l01Dec (a0.Group.getD i1 default)))))
def spec_l05Text_b2 (a0 : Character) (i2 : Nat) (s2 : List UInt8) : Except ((List UInt8)) (List UInt8) :=
  (bif ((i2 : Int) == 0) then .ok (s2 ++ ([40] ++ (spec_l01Dec (a0.Group.getD i2 default)))) else .ok (s2 ++ ([43] ++ (spec_l01Dec (a0.Group.getD i2 default)))))
def spec_l05Text (a0 : Character) : (List UInt8) :=
  (bif (a0.Kind == 8) then (match loopR (spec_l05Text_b1 a0) (a0.Group.length - 0) 0 (((spec_l05Kinds ).getD ((a0.Kind).toNat) default) ++ (([40] ++ a0.Letter) ++ [41])) with | .error e => e | .ok s1 => (bif decide (0 < (a0.Group.length : Int)) then (bif ((a0.Letter == [76]) && (a0.Kind != 8)) then (bif decide (0 < a0.Period) then (((s1 ++ [41]) ++ [43, 76, 70, 108]) ++ ([32] ++ a0.Colors)) ++ ([32] ++ (spec_l05Seconds a0.Period)) else ((s1 ++ [41]) ++ [43, 76, 70, 108]) ++ ([32] ++ a0.Colors)) else (bif decide (0 < a0.Period) then ((s1 ++ [41]) ++ ([32] ++ a0.Colors)) ++ ([32] ++ (spec_l05Seconds a0.Period)) else (s1 ++ [41]) ++ ([32] ++ a0.Colors))) else (bif ((a0.Letter == [76]) && (a0.Kind != 8)) then (bif decide (0 < a0.Period) then ((s1 ++ [43, 76, 70, 108]) ++ ([32] ++ a0.Colors)) ++ ([32] ++ (spec_l05Seconds a0.Period)) else (s1 ++ [43, 76, 70, 108]) ++ ([32] ++ a0.Colors)) else (bif decide (0 < a0.Period) then (s1 ++ ([32] ++ a0.Colors)) ++ ([32] ++ (spec_l05Seconds a0.Period)) else s1 ++ ([32] ++ a0.Colors))))) else (match loopR (spec_l05Text_b2 a0) (a0.Group.length - 0) 0 ((spec_l05Kinds ).getD ((a0.Kind).toNat) default) with | .error e => e | .ok s2 => (bif decide (0 < (a0.Group.length : Int)) then (bif ((a0.Letter == [76]) && (a0.Kind != 8)) then (bif decide (0 < a0.Period) then (((s2 ++ [41]) ++ [43, 76, 70, 108]) ++ ([32] ++ a0.Colors)) ++ ([32] ++ (spec_l05Seconds a0.Period)) else ((s2 ++ [41]) ++ [43, 76, 70, 108]) ++ ([32] ++ a0.Colors)) else (bif decide (0 < a0.Period) then ((s2 ++ [41]) ++ ([32] ++ a0.Colors)) ++ ([32] ++ (spec_l05Seconds a0.Period)) else (s2 ++ [41]) ++ ([32] ++ a0.Colors))) else (bif ((a0.Letter == [76]) && (a0.Kind != 8)) then (bif decide (0 < a0.Period) then ((s2 ++ [43, 76, 70, 108]) ++ ([32] ++ a0.Colors)) ++ ([32] ++ (spec_l05Seconds a0.Period)) else (s2 ++ [43, 76, 70, 108]) ++ ([32] ++ a0.Colors)) else (bif decide (0 < a0.Period) then (s2 ++ ([32] ++ a0.Colors)) ++ ([32] ++ (spec_l05Seconds a0.Period)) else s2 ++ ([32] ++ a0.Colors))))))
namespace N87
theorem DD : DOk Tryz.prog (Go.Ab.DD [(125, dP D_spec_l05Kinds), (126, dP D_spec_l05Seconds), (130, dP D_spec_l01Dec)]) := DD_cons D_spec_l05Kinds_ok.e <| DD_cons D_spec_l05Seconds_ok.e <| DD_cons D_spec_l01Dec_ok.e <| DD_nil _
theorem DZ : DOk Tryz.prog (Go.Ab.DD [(125, dP Dz_spec_l05Kinds), (126, dP D_spec_l05Seconds), (130, dP D_spec_l01Dec)]) := DD_cons Dz_spec_l05Kinds_ok.e <| DD_cons D_spec_l05Seconds_ok.e <| DD_cons D_spec_l01Dec_ok.e <| DD_nil _
theorem dn : type_of% (And.intro @D_spec_l05Kinds.eq_1 <| And.intro @D_spec_l05Seconds.eq_1 <| And.intro @D_spec_l01Dec.eq_1 <| @Dz_spec_l05Kinds.eq_1) := by and_intros <;> intros <;> rfl
theorem o0 {p : Prop} (h : p := by (first | (and_intros <;> (first | omega | ((try simp only [List.length_append, List.length_cons, List.length_nil, List.length_singleton]); omega) | (have h9 := hg9 i1; omega) | (have h9 := hg9 i2; omega) | (have h9 := hd9 i1; (try simp only [List.length_append, List.length_cons, List.length_nil, List.length_singleton]); omega) | (have h9 := hd9 i2; (try simp only [List.length_append, List.length_cons, List.length_nil, List.length_singleton]); omega) | exact hp1 | ((try simp only [List.length_append, List.length_cons, List.length_nil, List.length_singleton] at *); omega)))); first | done | fail) : p := h
set_option maxHeartbeats 1000000 in
set_option maxRecDepth 20000 in
theorem den (a0 : Character) (hb0 : bdCharacter a0) (hp0 : a0.Group.length ≤ 4) (hp1 : ∀ v ∈ a0.Group, 1 ≤ v ∧ v ≤ 9) (hp2 : 1 ≤ a0.Kind) (hp3 : a0.Kind ≤ 8) (hp4 : 0 ≤ a0.Period) (hp5 : a0.Period ≤ 600) : Den Tryz.prog 87 [.ep (eCharacter a0)] (.str (spec_l05Text a0)) := by
  generalize hR : spec_l05Text a0 = r
  unfold spec_l05Text at hR
  refine di Tryz.func87 Tryz.ntmps87 Tryz.results87 ?_
  intro c hL hc hk
  obtain ⟨hL0, _⟩ := hL
  have hw0 : bwCharacter a0 := Character_lens a0 hL0
  clear hL0
  simp only [pars, Nat.zero_add]
  have hg9 : ∀ i : Nat, 0 ≤ a0.Group.getD i default ∧ a0.Group.getD i default ≤ 9 := fun i => getD_rng hp1 i
  have hd9 : ∀ i : Nat, (spec_l01Dec (a0.Group.getD i default)).length ≤ 11 := fun i => by have h1 := hg9 i; have h2 := spec_l01Dec_len (a0.Group.getD i default) (by omega) (by omega); omega
  have hk9 := l05kind_len a0.Kind.toNat
  have hk8 : spec_l05Kinds.length = 9 := rfl
  have hs9 := l05sec_len a0.Period (by omega) (by omega)
  have hbL : a0.Letter.length < 1099511627776 := hb0.2.1
  have hbC : a0.Colors.length < 1099511627776 := hb0.2.2
  refine rS ?_
  refine rZ 7 ?_
  refine rS ?_
  refine AWP.cond rfl (fun hb => ?_) (fun hb => ?_)
  · replace hR := ct hR
    iterate 2 refine rS ?_
    refine AWP.block ?_
    generalize hz1 : loopR (spec_l05Text_b1 a0) (a0.Group.length - 0) 0 (((spec_l05Kinds ).getD ((a0.Kind).toNat) default) ++ (([40] ++ a0.Letter) ++ [41])) = z1 at hR
    refine AWP.range (spec_l05Text_b1 a0) (fun i1 s1 => ⟨[(0, .ep (eCharacter a0)), (3, .str s1), (4, .int .i64 (i1 : Int))], []⟩) (fun i1 s1 => s1.length ≤ 9 + a0.Letter.length + 12 * i1) (a0.Group.length) 0 (((spec_l05Kinds ).getD ((a0.Kind).toNat) default) ++ (([40] ++ a0.Letter) ++ [41])) [] hz1 ot (by ((try simp only [List.length_append, List.length_cons, List.length_nil, List.length_singleton]); omega)) sm ?_
    clear hz1
    intro i1 s1 hi1 hW1 hz1
    refine rS ?_
    refine AWP.cond rfl (fun hb => ?_) (fun hb => ?_)
    · have hlt1 : i1 < a0.Group.length := ot
      rw [loopR_lt hlt1] at hz1; simp only [spec_l05Text_b1] at hz1
      iterate 2 refine rS ?_
      refine AWP.cond rfl (fun hb => ?_) (fun hb => ?_)
      · simp only [hb, cond_true] at hz1
        iterate 3 refine rS ?_
        exact ⟨_, [], hlt1, by (have h9 := hd9 i1; and_intros <;> first | omega | ((try simp only [List.length_append, List.length_cons, List.length_nil, List.length_singleton]); omega) | ((try simp only [List.length_append, List.length_cons, List.length_nil, List.length_singleton] at *); omega)), hz1, sm⟩
      · simp only [hb, cond_false] at hz1
        iterate 2 refine rS ?_
        exact ⟨_, [], hlt1, by (have h9 := hd9 i1; and_intros <;> first | omega | ((try simp only [List.length_append, List.length_cons, List.length_nil, List.length_singleton]); omega) | ((try simp only [List.length_append, List.length_cons, List.length_nil, List.length_singleton] at *); omega)), hz1, sm⟩
    · obtain rfl : i1 = a0.Group.length := ot
      rw [loopR_ge (Nat.le_refl _)] at hz1; subst hz1; dsimp only at hR
      refine AWP.exit ?_; refine exitTo_here ?_
      refine rS ?_
      refine AWP.cond rfl (fun hb => ?_) (fun hb => ?_)
      · replace hR := ct hR
        iterate 2 refine rS ?_
        refine AWP.cond rfl (fun hb => ?_) (fun hb => ?_)
        · replace hR := ct hR
          iterate 3 refine rS ?_
          refine AWP.cond rfl (fun hb => ?_) (fun hb => ?_)
          · replace hR := ct hR
            iterate 2 refine rS ?_
            refine AWP.ret ?_
            subst hR
            exact es
          · replace hR := cf hR
            refine rS ?_
            refine AWP.ret ?_
            subst hR
            exact es
        · replace hR := cf hR
          iterate 2 refine rS ?_
          refine AWP.cond rfl (fun hb => ?_) (fun hb => ?_)
          · replace hR := ct hR
            iterate 2 refine rS ?_
            refine AWP.ret ?_
            subst hR
            exact es
          · replace hR := cf hR
            refine rS ?_
            refine AWP.ret ?_
            subst hR
            exact es
      · replace hR := cf hR
        refine rS ?_
        refine AWP.cond rfl (fun hb => ?_) (fun hb => ?_)
        · replace hR := ct hR
          iterate 3 refine rS ?_
          refine AWP.cond rfl (fun hb => ?_) (fun hb => ?_)
          · replace hR := ct hR
            iterate 2 refine rS ?_
            refine AWP.ret ?_
            subst hR
            exact es
          · replace hR := cf hR
            refine rS ?_
            refine AWP.ret ?_
            subst hR
            exact es
        · replace hR := cf hR
          iterate 2 refine rS ?_
          refine AWP.cond rfl (fun hb => ?_) (fun hb => ?_)
          · replace hR := ct hR
            iterate 2 refine rS ?_
            refine AWP.ret ?_
            subst hR
            exact es
          · replace hR := cf hR
            refine rS ?_
            refine AWP.ret ?_
            subst hR
            exact es
  · replace hR := cf hR
    refine rS ?_
    refine AWP.block ?_
    generalize hz2 : loopR (spec_l05Text_b2 a0) (a0.Group.length - 0) 0 ((spec_l05Kinds ).getD ((a0.Kind).toNat) default) = z2 at hR
    refine AWP.range (spec_l05Text_b2 a0) (fun i2 s2 => ⟨[(0, .ep (eCharacter a0)), (3, .str s2), (4, .int .i64 (i2 : Int))], []⟩) (fun i2 s2 => s2.length ≤ 9 + a0.Letter.length + 12 * i2) (a0.Group.length) 0 ((spec_l05Kinds ).getD ((a0.Kind).toNat) default) [] hz2 ot (by ((try simp only [List.length_append, List.length_cons, List.length_nil, List.length_singleton]); omega)) sm ?_
    clear hz2
    intro i2 s2 hi2 hW2 hz2
    refine rS ?_
    refine AWP.cond rfl (fun hb => ?_) (fun hb => ?_)
    · have hlt2 : i2 < a0.Group.length := ot
      rw [loopR_lt hlt2] at hz2; simp only [spec_l05Text_b2] at hz2
      iterate 2 refine rS ?_
      refine AWP.cond rfl (fun hb => ?_) (fun hb => ?_)
      · simp only [hb, cond_true] at hz2
        iterate 3 refine rS ?_
        exact ⟨_, [], hlt2, by (have h9 := hd9 i2; and_intros <;> first | omega | ((try simp only [List.length_append, List.length_cons, List.length_nil, List.length_singleton]); omega) | ((try simp only [List.length_append, List.length_cons, List.length_nil, List.length_singleton] at *); omega)), hz2, sm⟩
      · simp only [hb, cond_false] at hz2
        iterate 2 refine rS ?_
        exact ⟨_, [], hlt2, by (have h9 := hd9 i2; and_intros <;> first | omega | ((try simp only [List.length_append, List.length_cons, List.length_nil, List.length_singleton]); omega) | ((try simp only [List.length_append, List.length_cons, List.length_nil, List.length_singleton] at *); omega)), hz2, sm⟩
    · obtain rfl : i2 = a0.Group.length := ot
      rw [loopR_ge (Nat.le_refl _)] at hz2; subst hz2; dsimp only at hR
      refine AWP.exit ?_; refine exitTo_here ?_
      refine rS ?_
      refine AWP.cond rfl (fun hb => ?_) (fun hb => ?_)
      · replace hR := ct hR
        iterate 2 refine rS ?_
        refine AWP.cond rfl (fun hb => ?_) (fun hb => ?_)
        · replace hR := ct hR
          iterate 3 refine rS ?_
          refine AWP.cond rfl (fun hb => ?_) (fun hb => ?_)
          · replace hR := ct hR
            iterate 2 refine rS ?_
            refine AWP.ret ?_
            subst hR
            exact es
          · replace hR := cf hR
            refine rS ?_
            refine AWP.ret ?_
            subst hR
            exact es
        · replace hR := cf hR
          iterate 2 refine rS ?_
          refine AWP.cond rfl (fun hb => ?_) (fun hb => ?_)
          · replace hR := ct hR
            iterate 2 refine rS ?_
            refine AWP.ret ?_
            subst hR
            exact es
          · replace hR := cf hR
            refine rS ?_
            refine AWP.ret ?_
            subst hR
            exact es
      · replace hR := cf hR
        refine rS ?_
        refine AWP.cond rfl (fun hb => ?_) (fun hb => ?_)
        · replace hR := ct hR
          iterate 3 refine rS ?_
          refine AWP.cond rfl (fun hb => ?_) (fun hb => ?_)
          · replace hR := ct hR
            iterate 2 refine rS ?_
            refine AWP.ret ?_
            subst hR
            exact es
          · replace hR := cf hR
            refine rS ?_
            refine AWP.ret ?_
            subst hR
            exact es
        · replace hR := cf hR
          iterate 2 refine rS ?_
          refine AWP.cond rfl (fun hb => ?_) (fun hb => ?_)
          · replace hR := ct hR
            iterate 2 refine rS ?_
            refine AWP.ret ?_
            subst hR
            exact es
          · replace hR := cf hR
            refine rS ?_
            refine AWP.ret ?_
            subst hR
            exact es
end N87
def D_spec_l05Text : DF
  | [x0] => some (.str (spec_l05Text (rdP dCharacter x0)), false, [wP eCharacter dCharacter x0, bdCharacter (rdP dCharacter x0), (rdP dCharacter x0).Group.length ≤ 4, ∀ v ∈ (rdP dCharacter x0).Group, 1 ≤ v ∧ v ≤ 9, 1 ≤ (rdP dCharacter x0).Kind, (rdP dCharacter x0).Kind ≤ 8, 0 ≤ (rdP dCharacter x0).Period, (rdP dCharacter x0).Period ≤ 600])
  | _ => none
theorem D_spec_l05Text_ok : OkD Tryz.prog 87 D_spec_l05Text := by unfold D_spec_l05Text; exact dk N87.den
end Go.Ab

namespace Go.Ab
open Go Go.Proofs
def impl_CharacterText (a0 : Character) : (List UInt8) :=
  (bif (!(impl_ValidCharacter a0)) then [] else (bif (a0.Period != 0) then (((impl_Character_headText a0) ++ [32]) ++ a0.Colors) ++ (([32] ++ (impl_secondsText a0.Period)) ++ [115]) else ((impl_Character_headText a0) ++ [32]) ++ a0.Colors))
namespace N50
theorem DD : DOk Tryz.prog (Go.Ab.DD [(49, dP D_impl_ValidCharacter), (91, dP D_impl_secondsText), (97, dP D_impl_Character_headText)]) := DD_cons D_impl_ValidCharacter_ok.e <| DD_cons D_impl_secondsText_ok.e <| DD_cons D_impl_Character_headText_ok.e <| DD_nil _
theorem dn : type_of% (And.intro @D_impl_ValidCharacter.eq_1 <| And.intro @D_impl_secondsText.eq_1 <| @D_impl_Character_headText.eq_1) := by and_intros <;> intros <;> rfl
theorem o0 {p : Prop} (h : p := by (first | (have q9 := ‹(!impl_ValidCharacter a0) = false›; have q8 : impl_ValidCharacter a0 = true := (by simpa using q9); have h9 := valid_rng a0 q8; have h8 := headText_len a0 h9.1 h9.2.1; have h7 := period_nn a0 q8; have h6 := seconds_len a0.Period (by omega) (by omega); first | (refine ⟨hb0, h9.1, h9.2.1, ?_, ?_⟩ <;> first | omega | (simp only [List.length_append, List.length_cons, List.length_nil]; omega)) | (and_intros <;> first | omega | (simp only [List.length_append, List.length_cons, List.length_nil]; omega)))); first | done | fail) : p := h
set_option maxHeartbeats 400000 in
set_option maxRecDepth 20000 in
theorem den (a0 : Character) (hb0 : bdCharacter a0) : Den Tryz.prog 50 [.agg (eCharacter a0)] (.str (impl_CharacterText a0)) := by
  generalize hR : impl_CharacterText a0 = r
  unfold impl_CharacterText at hR
  refine di Tryz.func50 Tryz.ntmps50 Tryz.results50 ?_
  intro c hL hc hk
  obtain ⟨hL0, _⟩ := hL
  have hw0 : bwCharacter a0 := Character_lens a0 hL0
  clear hL0
  simp only [pars, Nat.zero_add]
  have hbL : a0.Letter.length < 1099511627776 := hb0.2.1
  have hbC : a0.Colors.length < 1099511627776 := hb0.2.2
  iterate 2 refine rS ?_
  refine AWP.cond rfl (fun hb => ?_) (fun hb => ?_)
  · replace hR := ct hR
    refine rS ?_
    refine AWP.ret ?_
    subst hR
    exact es
  · replace hR := cf hR
    refine rD 5 ?_
    refine rS ?_
    refine AWP.cond rfl (fun hb => ?_) (fun hb => ?_)
    · replace hR := ct hR
      iterate 2 refine rS ?_
      refine AWP.ret ?_
      subst hR
      exact es
    · replace hR := cf hR
      refine rS ?_
      refine AWP.ret ?_
      subst hR
      exact es
end N50
def D_impl_CharacterText : DF
  | [x0] => some (.str (impl_CharacterText (rdG dCharacter x0)), false, [wG eCharacter dCharacter x0, bdCharacter (rdG dCharacter x0)])
  | _ => none
theorem D_impl_CharacterText_ok : OkD Tryz.prog 50 D_impl_CharacterText := by unfold D_impl_CharacterText; exact dk N50.den
end Go.Ab
