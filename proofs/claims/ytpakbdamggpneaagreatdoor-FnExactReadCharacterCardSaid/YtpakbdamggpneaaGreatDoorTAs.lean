/- A part of a proof: walks of functions and lemmas of our own. No conditions. -/
import Derived.Test.YtpakbdamggpneaaGreatDoorTAr
import Derived.Test.YtpakbdamggpneaaGreatDoorTAo
import Derived.Test.YtpakbdamggpneaaGreatDoorTAp
import Derived.Test.YtpakbdamggpneaaGreatDoorTAq
import Derived.Test.YtpakbdamggpneaaGreatDoorTAl
import Derived.Test.YtpakbdamggpneaaGreatDoorTAg
import Derived.ProofKit
import Derived.Test.YtpakbdamggpneaaGreatDoorTAn
import Derived.Shelf.Strings.Split
import Derived.Test.YtpakbdamggpneaaGreatDoorTAi
import Derived.Test.YtpakbdamggpneaaGreatDoorTAm
set_option linter.unusedSectionVars false
set_option linter.unusedVariables false
set_option linter.unusedSimpArgs false
set_option maxHeartbeats 1000000
namespace Go.Ab
open Go Go.Proofs
def kt (k : Int) : List UInt8 := ([[], [70], [79, 99], [73, 115, 111], [70, 108], [76, 70, 108], [81], [86, 81], [77, 111]] : List (List UInt8)).getD k.toNat []
def grpT (g : List Int) : List UInt8 := if g = [] then [] else 40 :: (Lib.join (g.map Lib.itoa) [43] ++ [41])
def headT (c : Character) : List UInt8 :=
  if c.Kind = 8 then kt 8 ++ (40 :: (c.Letter ++ [41])) else kt c.Kind ++ (grpT c.Group ++ (if c.Letter = [] then [] else [43, 76, 70, 108]))
def secT (n : Int) : List UInt8 := if n.tmod 10 = 0 then Lib.itoa (n / 10) else Lib.itoa (n / 10) ++ (46 :: Lib.itoa (n % 10))
def perT (n : Int) : List UInt8 := if n = 0 then [] else 32 :: (secT n ++ [115])
def chrT (c : Character) : List UInt8 := headT c ++ (32 :: (c.Colors ++ perT c.Period))
theorem kind_kt (k : Int) (h : 1 ≤ k ∧ k ≤ 8) : impl_KindText k = kt k := by
  rcases (show k = 1 ∨ k = 2 ∨ k = 3 ∨ k = 4 ∨ k = 5 ∨ k = 6 ∨ k = 7 ∨ k = 8 by omega) with h | h | h | h | h | h | h | h <;> subst h <;> rfl
theorem kinds_kt (k : Int) : spec_l05Kinds.getD k.toNat default = kt k := rfl
theorem sec_impl (n : Int) (h1 : 0 ≤ n) (h2 : n ≤ 600) : impl_secondsText n = secT n := by
  unfold impl_secondsText secT
  have hd : n.tdiv 10 = n / 10 := Int.tdiv_eq_ediv_of_nonneg h1
  have hm : n.tmod 10 = n % 10 := Int.tmod_eq_emod_of_nonneg h1
  have hw : IntKind.wrap .i64 (n.tdiv 10) = n / 10 := by rw [IntKind.wrap_i64]; omega
  rw [hw, hm]
  by_cases h : n % 10 = 0
  · rw [h]; rfl
  · have : (n % 10 == 0) = false := by rw [beq_eq_false_iff_ne]; exact h
    rw [this, if_neg h]
    simp [impl_Decimal_eq]
theorem sec_spec (n : Int) (h1 : 0 ≤ n) (h2 : n ≤ 600) : spec_l05Seconds n = secT n ++ [115] := by
  unfold spec_l05Seconds secT
  have hd : n.tdiv 10 = n / 10 := Int.tdiv_eq_ediv_of_nonneg h1
  have hm : n.tmod 10 = n % 10 := Int.tmod_eq_emod_of_nonneg h1
  have hw : IntKind.wrap .i64 (n.tdiv 10) = n / 10 := by rw [IntKind.wrap_i64]; omega
  rw [hw, hm, spec_l01Dec_eq _ (by omega) (by omega), spec_l01Dec_eq _ (by omega) (by omega)]
  by_cases h : n % 10 = 0
  · rw [h]; rfl
  · have : (n % 10 == 0) = false := by rw [beq_eq_false_iff_ne]; exact h
    rw [this, if_neg h]
    simp
theorem head_impl (c : Character) (hk : 1 ≤ c.Kind ∧ c.Kind ≤ 8) : impl_Character_headText c = headT c := by
  unfold impl_Character_headText headT
  rw [kind_kt _ hk]
  by_cases h8 : c.Kind = 8
  · rw [h8]; simp
  · have e8 : (c.Kind == 8) = false := by rw [beq_eq_false_iff_ne]; exact h8
    rw [e8, if_neg h8]
    simp only [cond_false]
    have hl := loopR_app (impl_Character_headText_b1 c) (fun j => [Lib.itoa (c.Group.getD j default)]) c.Group.length 0 [] (fun j s _ _ => rfl)
    rw [flat_list c.Group default Lib.itoa, List.nil_append] at hl
    simp only [Nat.sub_zero]
    rw [hl]
    unfold grpT
    by_cases hg : c.Group = []
    · rw [hg]
      by_cases hL : c.Letter = []
      · rw [hL]; simp
      · have : (c.Letter != []) = true := by simpa using hL
        rw [this, if_neg hL]; simp
    · have hpos : 0 < c.Group.length := List.length_pos_iff.2 hg
      rw [if_neg hg, decide_eq_true (show 0 < (c.Group.length : Int) by omega)]
      have ej : strings_Join (c.Group.map Lib.itoa) [43] = Lib.join (c.Group.map Lib.itoa) [43] := rfl
      by_cases hL : c.Letter = []
      · rw [hL]; simp [ej]
      · have : (c.Letter != []) = true := by simpa using hL
        rw [this, if_neg hL]; simp [ej]
theorem text_impl (c : Character) (h : impl_ValidCharacter c = true) : impl_CharacterText c = chrT c := by
  have hk := kind_rng c (valid_fits c h)
  have hp := period_nn c h
  have hp2 := (valid_rng c h).2.2
  unfold impl_CharacterText chrT perT
  rw [h, head_impl c hk, sec_impl _ hp hp2]
  by_cases h0 : c.Period = 0
  · rw [h0]; simp
  · have : (c.Period != 0) = true := by rw [bne_iff_ne]; exact h0
    rw [this, if_neg h0]; simp
theorem join_flat (x : Int) (r : List Int) : (List.range' 1 r.length).flatMap (fun j => (43 : UInt8) :: Lib.itoa ((x :: r).getD j default)) = Lib.joinTail [43] (r.map Lib.itoa) := by
  unfold Lib.joinTail
  rw [List.map_map, ← List.flatMap_def]
  have h : (List.range' 1 r.length).flatMap (fun j => (43 : UInt8) :: Lib.itoa ((x :: r).getD j default)) = (List.range' 0 r.length).flatMap (fun j => (43 : UInt8) :: Lib.itoa (r.getD j default)) := by
    rw [List.flatMap_def, List.flatMap_def]
    congr 1
    apply List.ext_getElem
    · simp
    · intro i h1 h2
      simp [List.getElem_range', Nat.add_comm 1 i]
  rw [h]
  rw [List.flatMap_def, List.flatMap_def]
  congr 1
  apply List.ext_getElem
  · simp
  · intro i h1 h2
    simp only [List.length_map] at h2
    simp [List.getD_eq_getElem?_getD, h2]
def grp0 (g : List Int) : List UInt8 := if g = [] then [] else 40 :: Lib.join (g.map Lib.itoa) [43]
theorem grp_loop (c : Character) (h2 : ∀ v ∈ c.Group, 1 ≤ v ∧ v ≤ 9) (b : Nat → List UInt8 → Except (List UInt8) (List UInt8))
    (hb : ∀ j s, b j s = bif ((j : Int) == 0) then .ok (s ++ ([40] ++ (spec_l01Dec (c.Group.getD j default)))) else .ok (s ++ ([43] ++ (spec_l01Dec (c.Group.getD j default))))) (s : List UInt8) :
    loopR b (c.Group.length - 0) 0 s = .ok (s ++ grp0 c.Group) := by
  have hl := loopR_app b (fun j => (if j = 0 then (40 : UInt8) else 43) :: Lib.itoa (c.Group.getD j default)) c.Group.length 0 s (fun j s _ _ => by
    have hr := getD_rng h2 j
    rw [hb, spec_l01Dec_eq _ (by omega) (by omega)]
    by_cases h : j = 0
    · subst h; rfl
    · have : ((j : Int) == 0) = false := by rw [beq_eq_false_iff_ne]; omega
      rw [this, if_neg h]; rfl)
  rw [Nat.sub_zero, hl]
  congr 2
  generalize c.Group = g
  cases g with
  | nil => rfl
  | cons x r =>
    unfold grp0
    rw [if_neg (by simp), List.length_cons, List.range'_succ, List.flatMap_cons, List.map_cons, Lib.join_cons]
    have : (List.range' (0 + 1) r.length).flatMap (fun j => (if j = 0 then (40 : UInt8) else 43) :: Lib.itoa ((x :: r).getD j default)) = (List.range' 1 r.length).flatMap (fun j => (43 : UInt8) :: Lib.itoa ((x :: r).getD j default)) := by
      rw [List.flatMap_def, List.flatMap_def]
      congr 1
      apply List.map_congr_left
      intro j hj
      rw [List.mem_range'_1] at hj
      rw [if_neg (by omega)]
    rw [this, join_flat]
    simp
theorem text_spec (c : Character) (h : impl_ValidCharacter c = true) : spec_l05Text c = chrT c := by
  have hf := valid_fits c h
  have hk := kind_rng c hf
  have hp := period_nn c h
  obtain ⟨g1, g2, hp2⟩ := valid_rng c h
  have hsec : ∀ s : List UInt8, (bif decide (0 < c.Period) then s ++ ([32] ++ (spec_l05Seconds c.Period)) else s) = s ++ perT c.Period := by
    intro s
    unfold perT
    by_cases h0 : c.Period = 0
    · rw [h0]; simp
    · rw [decide_eq_true (show 0 < c.Period by omega), if_neg h0, sec_spec _ hp hp2]; simp
  unfold spec_l05Text chrT headT
  rw [kinds_kt, grp_loop c g2 (spec_l05Text_b1 c) (fun j s => rfl), grp_loop c g2 (spec_l05Text_b2 c) (fun j s => rfl)]
  by_cases h8 : c.Kind = 8
  · have hg : c.Group = [] := by
      unfold impl_Character_fits at hf
      rw [h8] at hf
      have hf : (((impl_signsOf c.Letter) != []) && ((c.Group.length : Int) == 0)) = true := hf
      rw [Bool.and_eq_true, beq_iff_eq] at hf
      exact List.length_eq_zero_iff.1 (by omega)
    rw [h8, hg]
    have e1 : ((8 : Int) == 8) = true := rfl
    have e2 : ((8 : Int) != 8) = false := rfl
    have e3 : decide (0 < ((([] : List Int).length : Int))) = false := rfl
    simp only [e1, e2, e3, cond_true, cond_false, Bool.and_false, if_true, grp0, hsec]
    simp
  · have e8 : (c.Kind == 8) = false := by rw [beq_eq_false_iff_ne]; exact h8
    have e9 : (c.Kind != 8) = true := by rw [bne_iff_ne]; exact h8
    have hL : (c.Letter == [76]) = (c.Letter != []) := (letter_eq c hf h8).symm
    rw [e8, e9, if_neg h8, hL]
    simp only [cond_false, Bool.and_true, hsec]
    by_cases hg : c.Group = []
    · rw [hg]
      have e3 : decide (0 < ((([] : List Int).length : Int))) = false := rfl
      simp only [e3, cond_false, grp0, grpT, if_true]
      by_cases hl : c.Letter = []
      · rw [hl]; simp
      · have : (c.Letter != []) = true := by simpa using hl
        rw [this, if_neg hl]; simp
    · have hpos : 0 < c.Group.length := List.length_pos_iff.2 hg
      rw [decide_eq_true (show 0 < (c.Group.length : Int) by omega)]
      simp only [cond_true, grp0, grpT, if_neg hg]
      by_cases hl : c.Letter = []
      · rw [hl]; simp
      · have : (c.Letter != []) = true := by simpa using hl
        rw [this, if_neg hl]; simp
end Go.Ab

namespace Go.Ab
open Go
def leapD (y : Int) : Bool := (((y.tmod 4 == 0) && (y.tmod 100 != 0)) || (y.tmod 400 == 0))
theorem wrap_id {n : Int} (h1 : -9223372036854775808 ≤ n) (h2 : n ≤ 9223372036854775807) : IntKind.wrap .i64 n = n := by
  rw [IntKind.wrap_i64]; omega
theorem month_cases {m : Int} (h1 : 1 ≤ m) (h2 : m ≤ 12) : m = 1 ∨ m = 2 ∨ m = 3 ∨ m = 4 ∨ m = 5 ∨ m = 6 ∨ m = 7 ∨ m = 8 ∨ m = 9 ∨ m = 10 ∨ m = 11 ∨ m = 12 := by omega
def ybD (y : Int) : Int := 365 * (y - 2000) + (y - 1997) / 4 - (y - 1901) / 100 + (y - 1601) / 400
def mbD (l : Bool) (m : Nat) : Nat := ([0, 0, 31, 59, 90, 120, 151, 181, 212, 243, 273, 304, 334] : List Nat).getD m 0 + (bif l && Nat.blt 2 m then 1 else 0)
def mdD (l : Bool) (m : Nat) : Nat := ([0, 31, 28, 31, 30, 31, 30, 31, 31, 30, 31, 30, 31] : List Nat).getD m 0 + (bif l && Nat.beq 2 m then 1 else 0)
theorem mb_mono : ∀ (l : Bool) (m m' : Fin 13), 1 ≤ m.val → m < m' → mbD l m + mdD l m ≤ mbD l m' := by decide
theorem mdD_le' : ∀ (l : Bool) (m : Fin 13), mdD l m ≤ 31 := by decide
theorem mdD_le {l : Bool} {m : Int} (h1 : 1 ≤ m) (h2 : m ≤ 12) : mdD l m.toNat ≤ 31 := mdD_le' l ⟨m.toNat, by omega⟩
theorem mb_next : ∀ (l : Bool) (m : Fin 12), 1 ≤ m.val → mbD l (m.val + 1) = mbD l m + mdD l m := by decide
def DateIs (a y m d : Int) : Prop := 2000 ≤ y ∧ 1 ≤ m ∧ m ≤ 12 ∧ 1 ≤ d ∧ d ≤ mdD (leapD y) m.toNat ∧ a = ybD y + mbD (leapD y) m.toNat + d - 1
theorem leap_yb (y : Int) (h : 2000 ≤ y) : ybD (y + 1) = ybD y + 365 + (bif leapD y then 1 else 0) := by
  have e1 : y.tmod 4 = y % 4 := Int.tmod_eq_emod_of_nonneg (by omega)
  have e2 : y.tmod 100 = y % 100 := Int.tmod_eq_emod_of_nonneg (by omega)
  have e3 : y.tmod 400 = y % 400 := Int.tmod_eq_emod_of_nonneg (by omega)
  by_cases hc : (y % 4 = 0 ∧ y % 100 ≠ 0) ∨ y % 400 = 0
  · have hl : leapD y = true := by unfold leapD; rw [e1, e2, e3]; simpa using hc
    rw [hl]; simp only [cond_true]; unfold ybD; omega
  · have hl : leapD y = false := by unfold leapD; rw [e1, e2, e3]; simpa using hc
    rw [hl]; simp only [cond_false]; unfold ybD; omega
theorem yb_nonneg {y : Int} (h : 2000 ≤ y) : 0 ≤ ybD y := by unfold ybD; omega
theorem yb_mono (y y' : Int) (h : y ≤ y') : ybD y ≤ ybD y' := by unfold ybD; omega
theorem year_le {y : Int} (h : ybD y ≤ 99999) : y ≤ 2273 := by unfold ybD at h; omega
theorem m_nat {m : Int} (h1 : 1 ≤ m) (h2 : m ≤ 12) : ∃ k : Nat, m = k ∧ 1 ≤ k ∧ k ≤ 12 := ⟨m.toNat, by omega, by omega, by omega⟩
theorem mb_succ {l : Bool} {m : Int} (h1 : 1 ≤ m) (h2 : m ≤ 11) : mbD l (m + 1).toNat = mbD l m.toNat + mdD l m.toNat := by
  have := mb_next l ⟨m.toNat, by omega⟩ (by show 1 ≤ m.toNat; omega)
  rw [show (m + 1).toNat = m.toNat + 1 by omega]
  exact this
theorem mb_last (l : Bool) : mbD l 12 + mdD l 12 = 365 + (bif l then 1 else 0) := by cases l <;> rfl
theorem mb_first (l : Bool) : mbD l 1 = 0 := by cases l <;> rfl
theorem mb_end {l : Bool} {m : Int} (h1 : 1 ≤ m) (h2 : m ≤ 12) : mbD l m.toNat + mdD l m.toNat ≤ 365 + (bif l then 1 else 0) := by
  rw [← mb_last l]
  by_cases h : m = 12
  · subst h; exact Nat.le_refl _
  · have := mb_mono l ⟨m.toNat, by omega⟩ ⟨12, by omega⟩ (by show 1 ≤ m.toNat; omega) (by show m.toNat < 12; omega)
    have h3 : mbD l m.toNat + mdD l m.toNat ≤ mbD l 12 := this
    omega
theorem DateIs.unique {a y m d y' m' d' : Int} (h : DateIs a y m d) (h' : DateIs a y' m' d') : y = y' ∧ m = m' ∧ d = d' := by
  obtain ⟨hy, hm1, hm2, hd1, hd2, ha⟩ := h
  obtain ⟨hy', hm1', hm2', hd1', hd2', ha'⟩ := h'
  have e1 := mb_end (l := leapD y) hm1 hm2
  have e1' := mb_end (l := leapD y') hm1' hm2'
  have l1 := leap_yb y hy
  have l1' := leap_yb y' hy'
  have hyy : y = y' := by
    by_cases h1 : y < y'
    · have := yb_mono (y + 1) y' (by omega)
      cases hl : leapD y <;> cases hl' : leapD y' <;> simp only [hl, hl', cond_true, cond_false] at * <;> omega
    · by_cases h2 : y' < y
      · have := yb_mono (y' + 1) y (by omega)
        cases hl : leapD y <;> cases hl' : leapD y' <;> simp only [hl, hl', cond_true, cond_false] at * <;> omega
      · omega
  subst hyy
  have hmm : m = m' := by
    by_cases h1 : m < m'
    · have := mb_mono (leapD y) ⟨m.toNat, by omega⟩ ⟨m'.toNat, by omega⟩ (by show 1 ≤ m.toNat; omega) (by show m.toNat < m'.toNat; omega)
      have h3 : mbD (leapD y) m.toNat + mdD (leapD y) m.toNat ≤ mbD (leapD y) m'.toNat := this
      omega
    · by_cases h2 : m' < m
      · have := mb_mono (leapD y) ⟨m'.toNat, by omega⟩ ⟨m.toNat, by omega⟩ (by show 1 ≤ m'.toNat; omega) (by show m'.toNat < m.toNat; omega)
        have h3 : mbD (leapD y) m'.toNat + mdD (leapD y) m'.toNat ≤ mbD (leapD y) m.toNat := this
        omega
      · omega
  subst hmm
  exact ⟨rfl, rfl, by omega⟩
theorem loopW_inv {ρ σ : Type} {body : σ → Except ρ σ} {I : σ → Prop} {Q : ρ → Prop} (hi : ∀ s, I s → match body s with | .error r => Q r | .ok t => I t) :
    ∀ (k : Nat) (s : σ), I s → match loopW body k s with | .error r => Q r | .ok t => I t
  | 0, s, h => by simpa [loopW] using h
  | k + 1, s, h => by
    have := hi s h
    simp only [loopW]
    cases hb : body s with
    | error r => simp only [hb] at this ⊢; exact this
    | ok t => simp only [hb] at this ⊢; exact loopW_inv hi k t this
theorem loopW_end {ρ σ : Type} {body : σ → Except ρ σ} {I : σ → Prop} {Q : ρ → Prop} {M : σ → Nat} (hi : ∀ s, I s → match body s with | .error r => Q r | .ok t => I t ∧ M t < M s) :
    ∀ (k : Nat) (s : σ), I s → M s < k → ∃ r, loopW body k s = .error r ∧ Q r
  | 0, s, h, hk => by omega
  | k + 1, s, h, hk => by
    have := hi s h
    simp only [loopW]
    cases hb : body s with
    | error r => simp only [hb] at this ⊢; exact ⟨r, rfl, this⟩
    | ok t => simp only [hb] at this ⊢; exact loopW_end hi k t this.1 (by omega)
end Go.Ab

namespace Go.Ab
open Go Go.Proofs
def u8D (k : Nat) : UInt8 := UInt8.ofNat (48 + k)
theorem u8D_val {k : Nat} (h : k < 10) : (u8D k).toNat = 48 + k := u8_dig k h
def pad2 (m : Nat) : List UInt8 := [u8D (m / 10), u8D (m % 10)]
def pad4 (y : Nat) : List UInt8 := [u8D (y / 1000), u8D (y / 100 % 10), u8D (y / 10 % 10), u8D (y % 10)]
theorem pad2_dig {m : Nat} (h : m < 100) : allDig (pad2 m) ∧ digV 0 (pad2 m) = m := by
  have h1 := u8D_val (k := m / 10) (by omega)
  have h2 := u8D_val (k := m % 10) (by omega)
  refine ⟨fun b hb => ?_, ?_⟩
  · simp only [pad2, List.mem_cons, List.not_mem_nil, or_false] at hb
    rcases hb with rfl | rfl <;> omega
  · unfold pad2
    rw [digV_cons, digV_cons, digV_nil, h1, h2]; omega
theorem pad4_dig {y : Nat} (h : y < 10000) : allDig (pad4 y) ∧ digV 0 (pad4 y) = y := by
  have h1 := u8D_val (k := y / 1000) (by omega)
  have h2 := u8D_val (k := y / 100 % 10) (by omega)
  have h3 := u8D_val (k := y / 10 % 10) (by omega)
  have h4 := u8D_val (k := y % 10) (by omega)
  refine ⟨fun b hb => ?_, ?_⟩
  · simp only [pad4, List.mem_cons, List.not_mem_nil, or_false] at hb
    rcases hb with rfl | rfl | rfl | rfl <;> omega
  · unfold pad4
    rw [digV_cons, digV_cons, digV_cons, digV_cons, digV_nil, h1, h2, h3, h4]; omega
theorem dec_pad4 {y : Nat} (h1 : 1000 ≤ y) (h2 : y < 10000) : Lib.decDigits y = pad4 y := by
  rw [decDigits_snoc y (by omega), decDigits_snoc (y / 10) (by omega), decDigits_snoc (y / 10 / 10) (by omega), Lib.decDigits_one (by omega)]
  unfold pad4 u8D
  rw [show y / 10 / 10 / 10 = y / 1000 by omega, show y / 10 / 10 % 10 = y / 100 % 10 by omega]
  rfl
def D10 (y m d : Nat) : List UInt8 := pad4 y ++ 45 :: (pad2 m ++ 45 :: pad2 d)
theorem dig_cond (x : Int) : (decide (x < 48) || decide (57 < x)) = !(decide (48 ≤ x) && decide (x ≤ 57)) := by
  apply Bool.eq_iff_iff.2
  simp only [Bool.or_eq_true, decide_eq_true_eq, Bool.not_eq_true', Bool.and_eq_false_iff, decide_eq_false_iff_not]
  omega
end Go.Ab

namespace Go.Ab
open Go Go.Proofs
theorem loopR_allF {ρ σ : Type} {b : Nat → σ → Except ρ σ} {I : Nat → σ → Prop} (hi : ∀ i s, I i s → ∃ t, b i s = .ok t ∧ I (i + 1) t) :
    ∀ (k i : Nat) (s : σ), I i s → ∃ t, loopR b k i s = .ok t ∧ I (i + k) t
  | 0, i, s, h => ⟨s, rfl, h⟩
  | k + 1, i, s, h => by
    obtain ⟨t, h1, h2⟩ := hi i s h
    obtain ⟨u, h3, h4⟩ := loopR_allF hi k (i + 1) t h2
    refine ⟨u, ?_, by rw [show i + (k + 1) = i + 1 + k by omega]; exact h4⟩
    simp only [loopR, h1, h3]
end Go.Ab

namespace Go.Ab
open Go Go.Proofs
theorem yb_le {y : Int} (h1 : 2000 ≤ y) (h2 : y ≤ 2274) : 0 ≤ ybD y ∧ ybD y ≤ 100284 := by unfold ybD; omega
theorem mb_le' : ∀ (l : Bool) (m : Fin 13), mbD l m ≤ 335 := by decide
theorem mb_le {l : Bool} {m : Nat} (h : m ≤ 12) : mbD l m ≤ 335 := mb_le' l ⟨m, by omega⟩
end Go.Ab

namespace Go.Ab
open Go Go.Proofs
theorem split_den {f : FuncId} {T : TypeId} (hok : FnOk Tryz.prog f) (a0 a1 : List UInt8) (hp0 : a0.length ≤ 1048576) (hp1 : a1.length = 1)
    (hS : ∀ (s sep : ByteArray) (m : Int) (w : World), s.size < 4294967281 → w.cell? ⟨0, 0, none⟩ = some (.int .i64 m) → 1 ≤ sep.size → Calls Tryz.prog f #[.string s, .string sep] w fun e w' =>
      e = .returned (.slice (some ⟨w.heap.size, 0, none⟩) (Go.Lib.countB s sep + 1) (Go.Lib.countB s sep + 1)) ∧ w' = w.alloc (.cells ((Go.Lib.splitB sep 0 (Go.Lib.countB s sep) s).map Value.string).toArray T)) :
    Den Tryz.prog f [.str a0, .str a1] (ownL T 1 (fun s : List UInt8 => [.str s]) (splitC (a1.getD 0 0) a0)) := by
  obtain ⟨c, rfl⟩ : ∃ c, a1 = [c] := List.length_eq_one_iff.1 hp1
  have hl : Go.Lib.splitB ⟨#[c]⟩ 0 (Go.Lib.countB ⟨a0.toArray⟩ ⟨#[c]⟩) ⟨a0.toArray⟩ = (splitC c a0).map fun x => (⟨x.toArray⟩ : ByteArray) := by
    have h1 := Go.Lib.splitB_data ⟨#[c]⟩ 0 (Go.Lib.countB ⟨a0.toArray⟩ ⟨#[c]⟩) ⟨a0.toArray⟩
    rw [show Go.Lib.splitK (⟨#[c]⟩ : ByteArray).data.toList 0 (Go.Lib.countB ⟨a0.toArray⟩ ⟨#[c]⟩) (⟨a0.toArray⟩ : ByteArray).data.toList = splitC c a0 from split_eq c _ a0 (Nat.le_refl _)] at h1
    rw [← h1, List.map_map]
    refine (List.map_id'' (fun x => ?_) _).symm
    rfl
  have hcl : (splitC c a0).length = Go.Lib.countB ⟨a0.toArray⟩ ⟨#[c]⟩ + 1 := by
    have h2 := Go.Lib.splitB_all ⟨#[c]⟩ (by show 1 ≤ 1; omega) 0 (Go.Lib.countB ⟨a0.toArray⟩ ⟨#[c]⟩) ⟨a0.toArray⟩ rfl
    rw [hl] at h2
    simpa using h2
  obtain ⟨l1, l2⟩ := splitC_len c a0
  have hnth : ∀ i, i < (splitC c a0).length → ((splitC c a0).getD i default).length ≤ maxLen := by
    intro i hi
    have : (splitC c a0).getD i default ∈ splitC c a0 := by
      rw [List.getD_eq_getElem?_getD, List.getElem?_eq_getElem hi]
      simp
    have := l2 _ this
    unfold maxLen
    omega
  refine Den.fresh (T := T) (e := 1) (enc := fun s : List UInt8 => [.str s]) (l := splitC c a0) hok (by simp [NoOwnL, NoOwn]) (fun i => [Value.string ⟨((splitC c a0).getD i default).toArray⟩]) (fun w M i hi => ⟨?_, rfl, by simp [Value.oneCell']⟩) ?_
  · simp only [RepL]
    exact ⟨_, [], [], [], rfl, rfl, rep_str _ (hnth i hi), rfl, rfl⟩
  · intro w M vs hI hr
    simp only [RepL] at hr
    obtain ⟨u0, us0, f0, g0, rfl, h0e, h0, u1, us1, f1, g1, rfl, h1e, h1, rfl, _⟩ := hr
    have e0 := h0.val_str
    have e1 := h1.val_str
    subst e0 e1
    obtain ⟨m, hm⟩ := hI.1.2
    refine (hS ⟨a0.toArray⟩ ⟨#[c]⟩ m w (by show a0.length < _; omega) hm (by show 1 ≤ 1; omega)).mono ?_
    rintro e w' ⟨rfl, rfl⟩
    refine ⟨w.heap.size, (splitC c a0).length, ((splitC c a0).map fun x => Value.string ⟨x.toArray⟩).toArray, by rw [← hcl], ?_⟩
    have hmap : (Go.Lib.splitB ⟨#[c]⟩ 0 (Go.Lib.countB ⟨a0.toArray⟩ ⟨#[c]⟩) ⟨a0.toArray⟩).map Value.string = (splitC c a0).map fun x => Value.string ⟨x.toArray⟩ := by
      rw [hl, List.map_map]; rfl
    rw [hmap]
    have hfl := fresh_alloc w T ((splitC c a0).map fun x => Value.string ⟨x.toArray⟩) (by rw [List.length_map]; unfold maxLen; omega)
    rw [List.length_map] at hfl
    have hus : ((List.range (splitC c a0).length).flatMap fun i => [((splitC c a0).map fun x => Value.string ⟨x.toArray⟩).getD i default]) = (List.range (splitC c a0).length).flatMap fun i => [Value.string ⟨((splitC c a0).getD i default).toArray⟩] := by
      rw [List.flatMap_def, List.flatMap_def]
      congr 1
      apply List.map_congr_left
      intro i hi
      have hi := List.mem_range.1 hi
      simp [List.getD_eq_getElem?_getD, List.getElem?_map, List.getElem?_eq_getElem hi]
    rw [hus] at hfl
    exact hfl
end Go.Ab

namespace Go.Ab
open Go Go.Proofs
theorem strings_Split_DD : DOk Tryz.prog (DD []) := DD_nil _
def strings_Split (a0 : (List UInt8)) (a1 : (List UInt8)) : (List (List UInt8)) := splitC (a1.getD 0 0) a0
theorem strings_Split_den (a0 : (List UInt8)) (a1 : (List UInt8)) (hp0 : a0.length ≤ 1048576) (hp1 : a1.length = 1) : Den Tryz.prog 62 [.str a0, .str a1] (ownL 9 1 eS (strings_Split a0 a1)) := by
  exact split_den ⟨_, Tryz.func62, rfl, rfl⟩ a0 a1 hp0 hp1 (fun s sep m w => Any.strings_Split Tryz.lays146 (by kernel_rfl) s sep m w)
def D_strings_Split : DF
  | [x0, x1] => some (ownL 9 1 eS (strings_Split (rdS x0) (rdS x1)), false, [wS x0, wS x1, (rdS x0).length ≤ 1048576, (rdS x1).length = 1])
  | _ => none
def Dz_strings_Split : DF
  | [x0, x1] => some (ownL 9 1 eS (strings_Split (rdS x0) (rdS x1)), true, [wS x0, wS x1, (rdS x0).length ≤ 1048576, (rdS x1).length = 1])
  | _ => none
theorem D_strings_Split_ok : OkD Tryz.prog 62 D_strings_Split := by
  intro xs r z ob h ho
  unfold D_strings_Split at h
  split at h
  · simp only [Option.some.injEq, Prod.mk.injEq] at h
    obtain ⟨rfl, rfl, rfl⟩ := h
    obtain ⟨h0, h1, hp0, hp1, _⟩ := ho
    exact Den.sim (strings_Split_den _ _ hp0 hp1) (simOL_cons (wS_sim h0).1 <| simOL_cons (wS_sim h1).1 <| trivial) (noIdL_cons (wS_sim h0).2 <| noIdL_cons (wS_sim h1).2 <| rfl) rfl
  · cases h
theorem Dz_strings_Split_ok : OkD Tryz.prog 62 Dz_strings_Split := by
  intro xs r z ob h ho
  unfold Dz_strings_Split at h
  split at h
  · simp only [Option.some.injEq, Prod.mk.injEq] at h
    obtain ⟨rfl, rfl, rfl⟩ := h
    obtain ⟨h0, h1, hp0, hp1, _⟩ := ho
    exact Den.sim (strings_Split_den _ _ hp0 hp1) (simOL_cons (wS_sim h0).1 <| simOL_cons (wS_sim h1).1 <| trivial) (noIdL_cons (wS_sim h0).2 <| noIdL_cons (wS_sim h1).2 <| rfl) rfl
  · cases h
end Go.Ab

namespace Go.Ab
open Go Go.Proofs
theorem strings_Split_len (a b : List UInt8) (h : a.length ≤ 1048576) : (strings_Split a b).length ≤ 1048577 ∧ ∀ x ∈ strings_Split a b, x.length ≤ 1048576 := by
  obtain ⟨h1, h2⟩ := splitC_len (b.getD 0 0) a
  exact ⟨by unfold strings_Split; omega, fun x hx => by have := h2 x hx; omega⟩
end Go.Ab

namespace Go.Ab
open Go Go.Proofs
theorem D10_inj {y m d y' m' d' : Nat} (h1 : y < 10000) (h2 : m < 100) (h3 : d < 100) (h1' : y' < 10000) (h2' : m' < 100) (h3' : d' < 100) (h : D10 y m d = D10 y' m' d') : y = y' ∧ m = m' ∧ d = d' := by
  have t1 : ∀ y m d, (D10 y m d).take 4 = pad4 y := fun _ _ _ => rfl
  have t2 : ∀ y m d, ((D10 y m d).take 7).drop 5 = pad2 m := fun _ _ _ => rfl
  have t3 : ∀ y m d, (D10 y m d).drop 8 = pad2 d := fun _ _ _ => rfl
  have e1 := congrArg (fun l => digV 0 (List.take 4 l)) h
  have e2 := congrArg (fun l => digV 0 ((List.take 7 l).drop 5)) h
  have e3 := congrArg (fun l => digV 0 (List.drop 8 l)) h
  simp only [t1, t2, t3] at e1 e2 e3
  rw [(pad4_dig h1).2, (pad4_dig h1').2] at e1
  rw [(pad2_dig h2).2, (pad2_dig h2').2] at e2
  rw [(pad2_dig h3).2, (pad2_dig h3').2] at e3
  exact ⟨e1, e2, e3⟩
theorem pad2_of {a b : UInt8} (h : allDig [a, b]) : pad2 (digV 0 [a, b]) = [a, b] := by
  have ha := h a (by simp)
  have hb := h b (by simp)
  rw [digV_cons, digV_cons, digV_nil]
  unfold pad2 u8D
  congr 1
  · rw [show (10 * (10 * 0 + (a.toNat - 48)) + (b.toNat - 48)) / 10 = a.toNat - 48 by omega]; exact u8_of ha.1 ha.2
  · congr 1
    rw [show (10 * (10 * 0 + (a.toNat - 48)) + (b.toNat - 48)) % 10 = b.toNat - 48 by omega]; exact u8_of hb.1 hb.2
theorem pad4_of {a b c e : UInt8} (h : allDig [a, b, c, e]) : pad4 (digV 0 [a, b, c, e]) = [a, b, c, e] := by
  have ha := h a (by simp)
  have hb := h b (by simp)
  have hc := h c (by simp)
  have he := h e (by simp)
  rw [digV_cons, digV_cons, digV_cons, digV_cons, digV_nil]
  unfold pad4 u8D
  congr 1
  · rw [show (10 * (10 * (10 * (10 * 0 + (a.toNat - 48)) + (b.toNat - 48)) + (c.toNat - 48)) + (e.toNat - 48)) / 1000 = a.toNat - 48 by omega]; exact u8_of ha.1 ha.2
  · congr 1
    · rw [show (10 * (10 * (10 * (10 * 0 + (a.toNat - 48)) + (b.toNat - 48)) + (c.toNat - 48)) + (e.toNat - 48)) / 100 % 10 = b.toNat - 48 by omega]; exact u8_of hb.1 hb.2
    · congr 1
      · rw [show (10 * (10 * (10 * (10 * 0 + (a.toNat - 48)) + (b.toNat - 48)) + (c.toNat - 48)) + (e.toNat - 48)) / 10 % 10 = c.toNat - 48 by omega]; exact u8_of hc.1 hc.2
      · congr 1
        rw [show (10 * (10 * (10 * (10 * 0 + (a.toNat - 48)) + (b.toNat - 48)) + (c.toNat - 48)) + (e.toNat - 48)) % 10 = e.toNat - 48 by omega]; exact u8_of he.1 he.2
end Go.Ab

namespace Go.Ab
open Go Go.Proofs
theorem splitWords_loop (l : List (List UInt8)) (b : Nat → List (List UInt8) → Except (List (List UInt8)) (List (List UInt8))) (hb : ∀ i s, b i s = (bif (l.getD i default) != [] then .ok (s ++ [l.getD i default]) else .ok s)) :
    ∀ (k i : Nat) (s : List (List UInt8)), i + k = l.length → loopR b k i s = .ok (s ++ (l.drop i).filter (· != []))
  | 0, i, s, h => by
    rw [List.drop_eq_nil_of_le (by omega)]
    simp [loopR]
  | k + 1, i, s, h => by
    have hlt : i < l.length := by omega
    have hg : l.getD i default = l[i] := by simp [List.getD, List.getElem?_eq_getElem hlt]
    simp only [loopR, hb, hg]
    rw [List.drop_eq_getElem_cons hlt, List.filter_cons]
    cases hc : (l[i] != []) with
    | true =>
      simp only [cond_true]
      rw [splitWords_loop l b hb k (i + 1) _ (by omega)]
      simp
    | false =>
      simp only [cond_false]
      rw [splitWords_loop l b hb k (i + 1) _ (by omega)]
      simp
theorem getD_len {l : List (List UInt8)} (h : ∀ x ∈ l, x.length ≤ 1048576) (i : Nat) : (l.getD i default).length ≤ 1048576 := by
  by_cases hi : i < l.length
  · rw [List.getD_eq_getElem?_getD, List.getElem?_eq_getElem hi]
    exact h _ (List.getElem_mem hi)
  · rw [List.getD_eq_getElem?_getD, List.getElem?_eq_none (by omega)]
    show ([] : List UInt8).length ≤ _
    simp
end Go.Ab

namespace Go.Ab
open Go Go.Proofs
def spec_l01Split_b1 (a0 : (List UInt8)) (a1 : Int) (i1 : Nat) (s1 : Int × List (List UInt8)) : Except ((List (List UInt8))) (Int × List (List UInt8)) :=
  (bif (((a0.getD i1 0).toNat : Int) == a1) then .ok (IntKind.wrap .i64 ((i1 : Int) + 1), s1.2 ++ [(a0.take i1).drop ((s1.1).toNat)]) else .ok (s1.1, s1.2))
def spec_l01Split (a0 : (List UInt8)) (a1 : Int) : (List (List UInt8)) :=
  (match loopR (spec_l01Split_b1 a0 a1) (a0.length - 0) 0 (0, ([] : List (List UInt8))) with | .error e => e | .ok s1 => s1.2 ++ [(a0.take a0.length).drop ((s1.1).toNat)])
namespace N80
theorem DD : DOk Tryz.prog (Go.Ab.DD []) := DD_nil _
theorem den (a0 : (List UInt8)) (a1 : Int) (hb0 : a0.length < 1099511627776) (hp0 : a0.length ≤ 1048576) : Den Tryz.prog 80 [.str a0, .int .u8 a1] (ownL 9 1 eS (spec_l01Split a0 a1)) := by
  generalize hR : spec_l01Split a0 a1 = r
  unfold spec_l01Split at hR
  refine di Tryz.func80 Tryz.ntmps80 Tryz.results80 ?_
  intro c hL hc hk
  obtain ⟨hL0, hL1, _⟩ := hL
  have hw0 : a0.length < 9223372036854775808 := Nat.lt_succ_of_le hL0
  clear hL0 hL1
  simp only [pars, Nat.zero_add]
  iterate 4 refine rS ?_
  refine AWP.block ?_
  generalize hz1 : loopR (spec_l01Split_b1 a0 a1) (a0.length - 0) 0 (0, ([] : List (List UInt8))) = z1 at hR
  refine AWP.range (spec_l01Split_b1 a0 a1) (fun i1 s1 => ⟨[(0, .str a0), (1, .int .u8 a1), (5, .ref 0 1 0 s1.2.length), (6, .int .i64 s1.1), (7, .int .i64 (i1 : Int))], [.arr 9 1 s1.2.length (fun j => eS (s1.2.getD j default))]⟩) (fun i1 s1 => s1.2.length ≤ ([] : List (List UInt8)).length + 1 * i1 ∧ 0 ≤ s1.1 ∧ s1.1 ≤ i1 ∧ s1.2.length ≤ i1) (a0.length) 0 (0, ([] : List (List UInt8))) [0] hz1 ot wt sm ?_
  clear hz1
  intro i1 s1 hi1 hW1 hz1
  refine rS ?_
  refine AWP.cond rfl (fun hb => ?_) (fun hb => ?_)
  · have hlt1 : i1 < a0.length := ot
    rw [loopR_lt hlt1] at hz1; simp only [spec_l01Split_b1] at hz1
    refine rS ?_
    refine AWP.cond rfl (fun hb => ?_) (fun hb => ?_)
    · simp only [hb, cond_true] at hz1
      iterate 3 refine rS ?_
      exact ⟨_, [2], hlt1, wt, hz1, sm⟩
    · simp only [hb, cond_false] at hz1
      refine rS ?_
      exact ⟨_, [0], hlt1, wt, hz1, sm⟩
  · obtain rfl : i1 = a0.length := ot
    rw [loopR_ge (Nat.le_refl _)] at hz1; subst hz1; dsimp only at hR
    refine AWP.exit ?_; refine exitTo_here ?_
    refine rS ?_
    refine AWP.ret ?_
    subst hR
    exact es
end N80
def D_spec_l01Split : DF
  | [x0, x1] => some (ownL 9 1 eS (spec_l01Split (rdS x0) (rdI x1)), false, [wS x0, wI .u8 x1, (rdS x0).length < 1099511627776, (rdS x0).length ≤ 1048576])
  | _ => none
def Dz_spec_l01Split : DF
  | [x0, x1] => some (ownL 9 1 eS (spec_l01Split (rdS x0) (rdI x1)), true, [wS x0, wI .u8 x1, (rdS x0).length < 1099511627776, (rdS x0).length ≤ 1048576])
  | _ => none
theorem D_spec_l01Split_ok : OkD Tryz.prog 80 D_spec_l01Split := by unfold D_spec_l01Split; exact dk N80.den
theorem Dz_spec_l01Split_ok : OkD Tryz.prog 80 Dz_spec_l01Split := by unfold Dz_spec_l01Split; exact dk N80.den
end Go.Ab

namespace Go.Ab
open Go Go.Proofs
theorem l01Split_loop (a : List UInt8) (c : UInt8) (ha : a.length ≤ 1099511627776) : ∀ (k i f : Nat) (out : List (List UInt8)), i + k = a.length → f ≤ i → (∀ j, f ≤ j → j < i → a.getD j 0 ≠ c) →
    ∃ s : Int × List (List UInt8), loopR (spec_l01Split_b1 a c.toNat) k i ((f : Int), out) = .ok s ∧ s.2 ++ [(a.take a.length).drop s.1.toNat] = out ++ splitC c (a.drop f)
  | 0, i, f, out, hk, hf, hn => by
    refine ⟨_, rfl, ?_⟩
    simp only [Int.toNat_natCast, List.take_length]
    rw [splitC_none]
    intro hc
    obtain ⟨j, hj⟩ := List.getElem?_of_mem hc
    rw [List.getElem?_drop] at hj
    have hlt := (List.getElem?_eq_some_iff.1 hj).1
    refine hn (f + j) (by omega) (by omega) ?_
    rw [List.getD_eq_getElem?_getD, hj]; rfl
  | k + 1, i, f, out, hk, hf, hn => by
    have hlt : i < a.length := by omega
    simp only [loopR, spec_l01Split_b1]
    by_cases hc : a.getD i 0 = c
    · have hb : (((a.getD i 0).toNat : Int) == (c.toNat : Int)) = true := by rw [hc]; simp
      simp only [hb, cond_true, Int.toNat_natCast]
      have hw : IntKind.wrap .i64 ((i : Int) + 1) = ((i + 1 : Nat) : Int) := by rw [IntKind.wrap_i64]; omega
      rw [hw]
      obtain ⟨s, h1, h2⟩ := l01Split_loop a c ha k (i + 1) (i + 1) (out ++ [(a.take i).drop f]) (by omega) (Nat.le_refl _) (fun j h1 h2 => by omega)
      refine ⟨s, h1, ?_⟩
      rw [h2, List.append_assoc]
      congr 1
      have he : a.drop f = (a.take i).drop f ++ c :: a.drop (i + 1) := by
        have h3 : a = a.take i ++ c :: a.drop (i + 1) := by
          conv => lhs; rw [← List.take_append_drop i a]
          rw [List.drop_eq_getElem_cons hlt]
          congr 2
          rw [← hc, List.getD_eq_getElem?_getD, List.getElem?_eq_getElem hlt]; rfl
        conv => lhs; rw [h3]
        rw [List.drop_append_of_le_length (by simp; omega)]
      rw [he, splitC_cons]
      · rfl
      · intro hm
        obtain ⟨j, hj⟩ := List.getElem?_of_mem hm
        rw [List.getElem?_drop] at hj
        have hl := (List.getElem?_eq_some_iff.1 hj).1
        simp only [List.length_take] at hl
        rw [List.getElem?_take_of_lt (by omega)] at hj
        refine hn (f + j) (by omega) (by omega) ?_
        rw [List.getD_eq_getElem?_getD, hj]; rfl
    · have hb : (((a.getD i 0).toNat : Int) == (c.toNat : Int)) = false := by
        simp only [beq_eq_false_iff_ne]
        intro h
        exact hc (UInt8.toNat_inj.1 (by omega))
      simp only [hb, cond_false]
      exact l01Split_loop a c ha k (i + 1) f out (by omega) (by omega) (fun j h1 h2 => by
        by_cases hji : j = i
        · subst hji; exact hc
        · exact hn j h1 (by omega))
theorem spec_l01Split_eq (a : List UInt8) (c : UInt8) (ha : a.length ≤ 1099511627776) : spec_l01Split a c.toNat = splitC c a := by
  obtain ⟨s, h1, h2⟩ := l01Split_loop a c ha a.length 0 0 [] (by omega) (Nat.le_refl _) (fun j h1 h2 => by omega)
  unfold spec_l01Split
  simp only [Nat.sub_zero]
  rw [show ((0 : Int), ([] : List (List UInt8))) = (((0 : Nat) : Int), []) from rfl, h1]
  simpa using h2
theorem spec_l01Split_len (a : List UInt8) (ha : a.length ≤ 1048576) : ∀ x ∈ spec_l01Split a 32, x.length ≤ 1048576 := by
  intro x hx
  rw [show (32 : Int) = (((32 : UInt8).toNat : Nat) : Int) from rfl, spec_l01Split_eq a 32 (by omega)] at hx
  have := (splitC_len 32 a).2 x hx
  omega
end Go.Ab

namespace Go.Ab
open Go Go.Proofs
theorem loopF_iff {b : Nat → Unit → Except Bool Unit} {n : Nat} {p : Nat → Bool} {x : Bool} (hb : ∀ j u, j < n → b j u = bif p j then .error false else .ok ()) :
    ((match loopR b (n - 0) 0 () with | .error e => e | .ok _ => x) = true) ↔ (∀ j, j < n → p j = false) ∧ x = true := by
  rw [loopR_any (b := b) p false (fun j u _ h => hb j u (by omega))]
  simp only [Nat.sub_zero, Nat.zero_add]
  cases h : (List.range n).any (fun j => p j) with
  | true =>
    simp only [cond_true]
    obtain ⟨j, h1, h2⟩ := List.any_eq_true.1 h
    constructor
    · intro h; cases h
    · rintro ⟨h3, _⟩; rw [h3 j (List.mem_range.1 h1)] at h2; cases h2
  | false =>
    simp only [cond_false]
    rw [List.any_eq_false] at h
    exact ⟨fun hx => ⟨fun j hj => by simpa using h j (List.mem_range.2 hj), hx⟩, fun hx => hx.2⟩
end Go.Ab

namespace Go.Ab
open Go Go.Proofs
def joinC (c : UInt8) : List (List UInt8) → List UInt8
  | [] => []
  | [x] => x
  | x :: y :: r => x ++ c :: joinC c (y :: r)
theorem join_split (c : UInt8) : ∀ l, joinC c (splitC c l) = l
  | [] => rfl
  | b :: l => by
    have ih := join_split c l
    simp only [splitC]
    split
    · rename_i h
      obtain ⟨x, r, e⟩ := List.exists_cons_of_ne_nil (splitC_ne c l)
      rw [e] at ih ⊢
      simp only [joinC, List.nil_append]
      rw [ih, h]
    · obtain ⟨x, r, e⟩ := List.exists_cons_of_ne_nil (splitC_ne c l)
      rw [e] at ih ⊢
      simp only
      cases r with
      | nil => simp only [joinC] at ih ⊢; rw [ih]
      | cons y r => simp only [joinC, List.cons_append] at ih ⊢; rw [ih]
theorem no32_itoa (n : Int) : (32 : UInt8) ∉ Lib.itoa n ∧ Lib.itoa n ≠ [] := by
  obtain ⟨d1, _, d3, _⟩ := decDigits_all n.natAbs
  by_cases h : n < 0
  · rw [itoa_neg' h]
    refine ⟨fun hm => ?_, by simp⟩
    rcases List.mem_cons.1 hm with hm | hm
    · simp at hm
    · have := d1 32 hm; simp at this
  · rw [itoa_nn h]
    exact ⟨fun hm => by have := d1 32 hm; simp at this, d3⟩
theorem read_itoa {n : Int} (h : n.natAbs < E18) (hl : (Lib.itoa n).length ≤ 1048576) : spec_l01Number (Lib.itoa n) = (n, true) := by
  rcases l01Number_spec (Lib.itoa n) hl with ⟨n', h', e, hr⟩ | ⟨hn, _⟩
  · rw [hr, itoa_inj e]
  · exact absurd rfl (hn n h)
theorem l01Split_32 (a : List UInt8) (ha : a.length ≤ 1048576) : spec_l01Split a 32 = splitC 32 a := spec_l01Split_eq a 32 (by omega)
theorem itoa_len3 {n : Int} (h : n.natAbs < E18) : (Lib.itoa n).length ≤ 1048576 := by
  have h18 := (decDigits_len18 n.natAbs).2 h
  by_cases hn : n < 0
  · rw [itoa_neg' hn]; simp only [List.length_cons]; omega
  · rw [itoa_nn hn]; omega
end Go.Ab

namespace Go.Ab
open Go Go.Proofs
theorem impl_ReadDecimal_DD : DOk Tryz.prog (DD []) := DD_nil _
def impl_ReadDecimal (a0 : (List UInt8)) : (Int × Bool) := readDecL a0
theorem impl_ReadDecimal_den (a0 : (List UInt8)) (hp0 : a0.length ≤ 1048576) : Den Tryz.prog 30 [.str a0] (.tup [.int .i64 ((impl_ReadDecimal a0).1), .bool ((impl_ReadDecimal a0).2)]) := by
  exact readDec_den a0 hp0
def D_impl_ReadDecimal : DF
  | [x0] => some (.tup [.int .i64 ((impl_ReadDecimal (rdS x0)).1), .bool ((impl_ReadDecimal (rdS x0)).2)], false, [wS x0, (rdS x0).length ≤ 1048576])
  | _ => none
theorem D_impl_ReadDecimal_ok : OkD Tryz.prog 30 D_impl_ReadDecimal := by
  intro xs r z ob h ho
  unfold D_impl_ReadDecimal at h
  split at h
  · simp only [Option.some.injEq, Prod.mk.injEq] at h
    obtain ⟨rfl, rfl, rfl⟩ := h
    obtain ⟨h0, hp0, _⟩ := ho
    exact Den.sim (impl_ReadDecimal_den _ hp0) (simOL_cons (wS_sim h0).1 <| trivial) (noIdL_cons (wS_sim h0).2 <| rfl) rfl
  · cases h
end Go.Ab

namespace Go.Ab
open Go Go.Proofs
theorem strings_Cut_DD : DOk Tryz.prog (DD []) := DD_nil _
def strings_Cut (a0 : (List UInt8)) (a1 : (List UInt8)) : ((List UInt8) × (List UInt8) × Bool) := Go.Lib.cut a0 a1
theorem strings_Cut_den (a0 : (List UInt8)) (a1 : (List UInt8)) (hp0 : a0.length ≤ 1048576) : Den Tryz.prog 45 [.str a0, .str a1] (.tup [.str ((strings_Cut a0 a1).1), .str ((strings_Cut a0 a1).2.1), .bool ((strings_Cut a0 a1).2.2)]) := by
  refine Den.plain ⟨_, Tryz.func45, rfl, rfl⟩ (by simp [NoOwnL, NoOwn]) ?_
  intro w M vs hI hr
  simp only [RepL] at hr
  obtain ⟨u0, us0, f0, g0, rfl, h0e, h0, u1, us1, f1, g1, rfl, h1e, h1, rfl, _⟩ := hr
  have e0 := h0.val_str
  have e1 := h1.val_str
  subst e0 e1
  obtain ⟨m, hm⟩ := hI.1.2
  refine (Any.strings_Cut Tryz.lays145 ⟨a0.toArray⟩ ⟨a1.toArray⟩ m w (by show a0.length < _; omega) hm).mono ?_
  rintro e w' ⟨rfl, k, rfl⟩
  exact ⟨_, rfl, grow_drew w k, fun M' => rep_three (rep_str _ (by have := cut_len a0 a1; show (Go.Lib.cut a0 a1).1.length ≤ maxLen; unfold maxLen; omega)) (rep_str _ (by have := cut_len a0 a1; show (Go.Lib.cut a0 a1).2.1.length ≤ maxLen; unfold maxLen; omega)) (rep_bool _)⟩
def D_strings_Cut : DF
  | [x0, x1] => some (.tup [.str ((strings_Cut (rdS x0) (rdS x1)).1), .str ((strings_Cut (rdS x0) (rdS x1)).2.1), .bool ((strings_Cut (rdS x0) (rdS x1)).2.2)], false, [wS x0, wS x1, (rdS x0).length ≤ 1048576])
  | _ => none
theorem D_strings_Cut_ok : OkD Tryz.prog 45 D_strings_Cut := by
  intro xs r z ob h ho
  unfold D_strings_Cut at h
  split at h
  · simp only [Option.some.injEq, Prod.mk.injEq] at h
    obtain ⟨rfl, rfl, rfl⟩ := h
    obtain ⟨h0, h1, hp0, _⟩ := ho
    exact Den.sim (strings_Cut_den _ _ hp0) (simOL_cons (wS_sim h0).1 <| simOL_cons (wS_sim h1).1 <| trivial) (noIdL_cons (wS_sim h0).2 <| noIdL_cons (wS_sim h1).2 <| rfl) rfl
  · cases h
end Go.Ab

namespace Go.Ab
open Go Go.Proofs
theorem strings_CutSuffix_DD : DOk Tryz.prog (DD []) := DD_nil _
def strings_CutSuffix (a0 : (List UInt8)) (a1 : (List UInt8)) : ((List UInt8) × Bool) := (Go.Lib.trimSuffix a0 a1, Go.Lib.hasSuffix a0 a1)
theorem strings_CutSuffix_den (a0 : (List UInt8)) (a1 : (List UInt8)) (hp0 : a0.length ≤ 1048576) : Den Tryz.prog 89 [.str a0, .str a1] (.tup [.str ((strings_CutSuffix a0 a1).1), .bool ((strings_CutSuffix a0 a1).2)]) := by
  refine Den.plain ⟨_, Tryz.func89, rfl, rfl⟩ (by simp [NoOwnL, NoOwn]) ?_
  intro w M vs hI hr
  simp only [RepL] at hr
  obtain ⟨u0, us0, f0, g0, rfl, h0e, h0, u1, us1, f1, g1, rfl, h1e, h1, rfl, _⟩ := hr
  have e0 := h0.val_str
  have e1 := h1.val_str
  subst e0 e1
  refine (Any.strings_CutSuffix Tryz.lays104 ⟨a0.toArray⟩ ⟨a1.toArray⟩ w (by show a0.length ≤ _; omega)).mono ?_
  rintro e w' ⟨rfl, rfl⟩
  exact ⟨_, rfl, Grow.refl _, fun M' => rep_two (rep_str _ (by have := trimSuffix_len a0 a1; show (Go.Lib.trimSuffix a0 a1).length ≤ maxLen; unfold maxLen; omega)) (rep_bool _)⟩
def D_strings_CutSuffix : DF
  | [x0, x1] => some (.tup [.str ((strings_CutSuffix (rdS x0) (rdS x1)).1), .bool ((strings_CutSuffix (rdS x0) (rdS x1)).2)], false, [wS x0, wS x1, (rdS x0).length ≤ 1048576])
  | _ => none
theorem D_strings_CutSuffix_ok : OkD Tryz.prog 89 D_strings_CutSuffix := by
  intro xs r z ob h ho
  unfold D_strings_CutSuffix at h
  split at h
  · simp only [Option.some.injEq, Prod.mk.injEq] at h
    obtain ⟨rfl, rfl, rfl⟩ := h
    obtain ⟨h0, h1, hp0, _⟩ := ho
    exact Den.sim (strings_CutSuffix_den _ _ hp0) (simOL_cons (wS_sim h0).1 <| simOL_cons (wS_sim h1).1 <| trivial) (noIdL_cons (wS_sim h0).2 <| noIdL_cons (wS_sim h1).2 <| rfl) rfl
  · cases h
end Go.Ab

namespace Go.Ab
open Go Go.Proofs
theorem strings_Cut_len (a b : List UInt8) : (strings_Cut a b).1.length ≤ a.length ∧ (strings_Cut a b).2.1.length ≤ a.length := cut_len a b
end Go.Ab

namespace Go.Ab
open Go Go.Proofs
theorem strings_CutSuffix_len (a b : List UInt8) : (strings_CutSuffix a b).1.length ≤ a.length := trimSuffix_len a b
end Go.Ab

namespace Go.Ab
open Go Go.Proofs
def impl_readHead_b1 (a0 : (List UInt8)) (s1 : Int × Int) : Except (Sum ((Character × Bool)) (Int × Int)) (Int × Int) :=
  (bif decide (s1.1 ≤ 8) then (bif ((impl_KindText s1.1) == ((strings_Cut ((strings_CutSuffix a0 [43, 76, 70, 108]).1) [40]).1)) then .ok (IntKind.wrap .i64 (s1.1 + 1), s1.1) else .ok (IntKind.wrap .i64 (s1.1 + 1), s1.2)) else .error (.inr (s1.1, s1.2)))
def impl_readHead_b2 (a0 : (List UInt8)) (s1 : Int × Int) (i2 : Nat) (s2 : List Int) : Except ((Character × Bool)) (List Int) :=
  (bif (!((impl_ReadDecimal ((strings_Split ((strings_CutSuffix ((strings_Cut ((strings_CutSuffix a0 [43, 76, 70, 108]).1) [40]).2.1) [41]).1) [43]).getD i2 default)).2)) then .error ({ Kind := 0, Group := [], Letter := [], Colors := [], Period := 0 : Character }, false) else .ok (s2 ++ ([(impl_ReadDecimal ((strings_Split ((strings_CutSuffix ((strings_Cut ((strings_CutSuffix a0 [43, 76, 70, 108]).1) [40]).2.1) [41]).1) [43]).getD i2 default)).1] : List Int)))
def impl_readHead_b3 (a0 : (List UInt8)) (s3 : Int × Int) : Except (Sum ((Character × Bool)) (Int × Int)) (Int × Int) :=
  (bif decide (s3.1 ≤ 8) then (bif ((impl_KindText s3.1) == ((strings_Cut ((strings_CutSuffix a0 [43, 76, 70, 108]).1) [40]).1)) then .ok (IntKind.wrap .i64 (s3.1 + 1), s3.1) else .ok (IntKind.wrap .i64 (s3.1 + 1), s3.2)) else .error (.inr (s3.1, s3.2)))
def impl_readHead_b4 (a0 : (List UInt8)) (s3 : Int × Int) (i4 : Nat) (s4 : List Int) : Except ((Character × Bool)) (List Int) :=
  (bif (!((impl_ReadDecimal ((strings_Split ((strings_CutSuffix ((strings_Cut ((strings_CutSuffix a0 [43, 76, 70, 108]).1) [40]).2.1) [41]).1) [43]).getD i4 default)).2)) then .error ({ Kind := 0, Group := [], Letter := [], Colors := [], Period := 0 : Character }, false) else .ok (s4 ++ ([(impl_ReadDecimal ((strings_Split ((strings_CutSuffix ((strings_Cut ((strings_CutSuffix a0 [43, 76, 70, 108]).1) [40]).2.1) [41]).1) [43]).getD i4 default)).1] : List Int)))
def impl_readHead (a0 : (List UInt8)) : (Character × Bool) :=
  (bif (strings_CutSuffix a0 [43, 76, 70, 108]).2 then (match loopW (impl_readHead_b1 a0) (((9 - (1 : Int)).toNat) + 1) (1, 0) with | .error (.inl e) => e | .error (.inr s1) => (bif (!((strings_Cut ((strings_CutSuffix a0 [43, 76, 70, 108]).1) [40]).2.2)) then ({ Kind := s1.2, Group := [], Letter := [76], Colors := [], Period := 0 : Character }, true) else (bif (s1.2 == 8) then ({ Kind := s1.2, Group := [], Letter := (strings_CutSuffix ((strings_Cut ((strings_CutSuffix a0 [43, 76, 70, 108]).1) [40]).2.1) [41]).1, Colors := [], Period := 0 : Character }, ((strings_CutSuffix ((strings_Cut ((strings_CutSuffix a0 [43, 76, 70, 108]).1) [40]).2.1) [41]).2 && (!((strings_CutSuffix a0 [43, 76, 70, 108]).2)))) else (match loopR (impl_readHead_b2 a0 s1) (((strings_Split ((strings_CutSuffix ((strings_Cut ((strings_CutSuffix a0 [43, 76, 70, 108]).1) [40]).2.1) [41]).1) [43]).length) - 0) 0 ([] : List Int) with | .error e => e | .ok s2 => ({ Kind := s1.2, Group := s2, Letter := [76], Colors := [], Period := 0 : Character }, (strings_CutSuffix ((strings_Cut ((strings_CutSuffix a0 [43, 76, 70, 108]).1) [40]).2.1) [41]).2)))) | .ok _ => default) else (match loopW (impl_readHead_b3 a0) (((9 - (1 : Int)).toNat) + 1) (1, 0) with | .error (.inl e) => e | .error (.inr s3) => (bif (!((strings_Cut ((strings_CutSuffix a0 [43, 76, 70, 108]).1) [40]).2.2)) then ({ Kind := s3.2, Group := [], Letter := [], Colors := [], Period := 0 : Character }, true) else (bif (s3.2 == 8) then ({ Kind := s3.2, Group := [], Letter := (strings_CutSuffix ((strings_Cut ((strings_CutSuffix a0 [43, 76, 70, 108]).1) [40]).2.1) [41]).1, Colors := [], Period := 0 : Character }, ((strings_CutSuffix ((strings_Cut ((strings_CutSuffix a0 [43, 76, 70, 108]).1) [40]).2.1) [41]).2 && (!((strings_CutSuffix a0 [43, 76, 70, 108]).2)))) else (match loopR (impl_readHead_b4 a0 s3) (((strings_Split ((strings_CutSuffix ((strings_Cut ((strings_CutSuffix a0 [43, 76, 70, 108]).1) [40]).2.1) [41]).1) [43]).length) - 0) 0 ([] : List Int) with | .error e => e | .ok s4 => ({ Kind := s3.2, Group := s4, Letter := [], Colors := [], Period := 0 : Character }, (strings_CutSuffix ((strings_Cut ((strings_CutSuffix a0 [43, 76, 70, 108]).1) [40]).2.1) [41]).2)))) | .ok _ => default))
namespace N46
theorem DD : DOk Tryz.prog (Go.Ab.DD [(30, dP D_impl_ReadDecimal), (45, dP D_strings_Cut), (62, dP D_strings_Split), (89, dP D_strings_CutSuffix), (90, dP D_impl_KindText)]) := DD_cons D_impl_ReadDecimal_ok.e <| DD_cons D_strings_Cut_ok.e <| DD_cons D_strings_Split_ok.e <| DD_cons D_strings_CutSuffix_ok.e <| DD_cons D_impl_KindText_ok.e <| DD_nil _
theorem dn : type_of% (And.intro @D_impl_ReadDecimal.eq_1 <| And.intro @D_strings_Cut.eq_1 <| And.intro @D_strings_Split.eq_1 <| And.intro @D_strings_CutSuffix.eq_1 <| @D_impl_KindText.eq_1) := by and_intros <;> intros <;> rfl
theorem gr {p : Prop} (h : p := by (grind [strings_Cut_len, strings_CutSuffix_len]); first | done | fail) : p := h
theorem o0 {p : Prop} (h : p := by (first | (and_intros <;> (first | omega | rfl | exact getD_len c4 _))); first | done | fail) : p := h
theorem o2 {p : Prop} (h : p := by (first | (and_intros <;> first | omega | (rw [IntKind.wrap_i64]; omega) | (simp; (first | done | fail)) | (intro i hi; exact app1_get _ _ i hi) | (intro i hi; rw [app1_get _ _ i hi]; exact simOL_refl _) | decide)); first | done | fail) : p := h
set_option maxHeartbeats 2000000 in
set_option maxRecDepth 20000 in
theorem den (a0 : (List UInt8)) (hb0 : a0.length < 1099511627776) (hp0 : a0.length ≤ 1048576) : Den Tryz.prog 46 [.str a0] (.tup [.agg (eCharacterO ((impl_readHead a0).1)), .bool ((impl_readHead a0).2)]) := by
  generalize hR : impl_readHead a0 = r
  unfold impl_readHead at hR
  refine di Tryz.func46 Tryz.ntmps46 Tryz.results46 ?_
  intro c hL hc hk
  obtain ⟨hL0, _⟩ := hL
  have hw0 : a0.length < 9223372036854775808 := Nat.lt_succ_of_le hL0
  clear hL0
  simp only [pars, Nat.zero_add]
  have c1 := strings_CutSuffix_len a0 [43, 76, 70, 108]
  have c2 := strings_Cut_len (strings_CutSuffix a0 [43, 76, 70, 108]).1 [40]
  have c3 := strings_CutSuffix_len (strings_Cut (strings_CutSuffix a0 [43, 76, 70, 108]).1 [40]).2.1 [41]
  have c4 := (strings_Split_len (strings_CutSuffix (strings_Cut (strings_CutSuffix a0 [43, 76, 70, 108]).1 [40]).2.1 [41]).1 [43] (by omega)).2
  have c5 := (strings_Split_len (strings_CutSuffix (strings_Cut (strings_CutSuffix a0 [43, 76, 70, 108]).1 [40]).2.1 [41]).1 [43] (by omega)).1
  iterate 4 refine rS ?_
  refine AWP.cond rfl (fun hb => ?_) (fun hb => ?_)
  · replace hR := ct hR
    iterate 3 refine rS ?_
    refine AWP.block ?_
    generalize hz1 : loopW (impl_readHead_b1 a0) (((9 - (1 : Int)).toNat) + 1) (1, 0) = z1 at hR
    refine AWP.whileW (impl_readHead_b1 a0) (fun s1 => ⟨[(2, .ptr 0 0), (4, .ptr 1 0), (6, .bool ((strings_CutSuffix a0 [43, 76, 70, 108]).2)), (7, .str ((strings_Cut ((strings_CutSuffix a0 [43, 76, 70, 108]).1) [40]).1)), (8, .str ((strings_Cut ((strings_CutSuffix a0 [43, 76, 70, 108]).1) [40]).2.1)), (9, .bool ((strings_Cut ((strings_CutSuffix a0 [43, 76, 70, 108]).1) [40]).2.2)), (10, .int .i64 s1.1)], [.box [.int .i64 0, .nils, .str [], .str [], .int .i64 0], .box [.int .i64 s1.2, .nils, .str [76], .str [], .int .i64 0]]⟩) (fun s1 => 1 ≤ s1.1 ∧ s1.1 ≤ 9) (fun s1 => (9 - s1.1).toNat) (((9 - (1 : Int)).toNat) + 1) (1, 0) [0, 1] hz1 m0 wt sm ?_
    clear hz1
    intro s1 k1 hW1 hm1 hz1
    simp only [impl_readHead_b1] at hz1
    refine rS ?_
    refine AWP.cond rfl (fun hb => ?_) (fun hb => ?_)
    · simp only [hb, cond_true] at hz1
      refine rS ?_
      refine AWP.cond rfl (fun hb => ?_) (fun hb => ?_)
      · simp only [hb, cond_true] at hz1
        iterate 2 refine rS ?_
        exact ⟨_, [0, 1], ms, wt, hz1, sm⟩
      · simp only [hb, cond_false] at hz1
        refine rS ?_
        exact ⟨_, [0, 1], ms, wt, hz1, sm⟩
    · simp only [hb, cond_false] at hz1
      refine AWP.exit ?_
      refine exitTo_here ?_
      subst hz1; dsimp only at hR
      refine rS ?_
      refine AWP.cond rfl (fun hb => ?_) (fun hb => ?_)
      · replace hR := ct hR
        refine rS ?_
        refine AWP.ret ?_
        subst hR
        exact es
      · replace hR := cf hR
        iterate 2 refine rS ?_
        refine AWP.cond rfl (fun hb => ?_) (fun hb => ?_)
        · replace hR := ct hR
          iterate 2 refine rS ?_
          refine AWP.ret ?_
          subst hR
          exact es
        · replace hR := cf hR
          refine rS ?_
          refine AWP.block ?_
          refine AWP.nilB 1 1 2 1 (fun _ => []) rfl rfl ?_; try simp only [ea, absV, absVL, gv, sv, dn, reduceCtorEq, reduceIte, Nat.reduceBEq, Nat.reduceAdd, Nat.reduceEqDiff, Nat.reduceLT, Nat.reduceLeDiff, Nat.reduceMul, Nat.reduceSub, BEq.rfl, beq_self_eq_true, Int.reduceToNat]
          generalize hz2 : loopR (impl_readHead_b2 a0 (s1.1, s1.2)) (((strings_Split ((strings_CutSuffix ((strings_Cut ((strings_CutSuffix a0 [43, 76, 70, 108]).1) [40]).2.1) [41]).1) [43]).length) - 0) 0 ([] : List Int) = z2 at hR
          refine AWP.range (impl_readHead_b2 a0 (s1.1, s1.2)) (fun i2 s2 => ⟨[(2, .ptr 0 0), (4, .ptr 1 0), (12, .bool ((strings_CutSuffix ((strings_Cut ((strings_CutSuffix a0 [43, 76, 70, 108]).1) [40]).2.1) [41]).2)), (61, .ref 3 1 0 ((strings_Split ((strings_CutSuffix ((strings_Cut ((strings_CutSuffix a0 [43, 76, 70, 108]).1) [40]).2.1) [41]).1) [43]).length)), (62, .int .i64 ((strings_Split ((strings_CutSuffix ((strings_Cut ((strings_CutSuffix a0 [43, 76, 70, 108]).1) [40]).2.1) [41]).1) [43]).length : Int)), (63, .int .i64 (i2 : Int))], [.box [.int .i64 0, .nils, .str [], .str [], .int .i64 0], .box [.int .i64 s1.2, .ref 2 1 0 s2.length, .str [76], .str [], .int .i64 0], .arr 2 1 s2.length (fun j => eIi64 (s2.getD j default)), .arr 9 1 (strings_Split ((strings_CutSuffix ((strings_Cut ((strings_CutSuffix a0 [43, 76, 70, 108]).1) [40]).2.1) [41]).1) [43]).length (fun j => eS ((strings_Split ((strings_CutSuffix ((strings_Cut ((strings_CutSuffix a0 [43, 76, 70, 108]).1) [40]).2.1) [41]).1) [43]).getD j default))]⟩) (fun i2 s2 => s2.length ≤ i2) (((strings_Split ((strings_CutSuffix ((strings_Cut ((strings_CutSuffix a0 [43, 76, 70, 108]).1) [40]).2.1) [41]).1) [43]).length)) 0 ([] : List Int) [0, 1, 3, 2] hz2 ot wt sm ?_
          clear hz2
          intro i2 s2 hi2 hW2 hz2
          refine rS ?_
          refine AWP.seq ?_
          refine AWP.cond rfl (fun hb => ?_) (fun hb => ?_)
          · have hlt2 : i2 < ((strings_Split ((strings_CutSuffix ((strings_Cut ((strings_CutSuffix a0 [43, 76, 70, 108]).1) [40]).2.1) [41]).1) [43]).length) := ot
            rw [loopR_lt hlt2] at hz2; simp only [impl_readHead_b2] at hz2
            iterate 3 refine rS ?_
            refine AWP.cond rfl (fun hb => ?_) (fun hb => ?_)
            · simp only [hb, cond_true] at hz2
              refine rS ?_
              refine AWP.ret ?_
              subst hz2
              dsimp only at hR
              subst hR
              exact es
            · simp only [hb, cond_false] at hz2
              iterate 2 refine rS ?_
              exact ⟨_, [0, 1, 5, 3], hlt2, wt, hz2, sm⟩
          · obtain rfl : i2 = ((strings_Split ((strings_CutSuffix ((strings_Cut ((strings_CutSuffix a0 [43, 76, 70, 108]).1) [40]).2.1) [41]).1) [43]).length) := ot
            rw [loopR_ge (Nat.le_refl _)] at hz2; subst hz2; dsimp only at hR
            refine AWP.exit ?_; refine exitTo_here ?_
            refine rS ?_
            refine AWP.ret ?_
            subst hR
            exact es
  · replace hR := cf hR
    iterate 2 refine rS ?_
    refine AWP.block ?_
    generalize hz3 : loopW (impl_readHead_b3 a0) (((9 - (1 : Int)).toNat) + 1) (1, 0) = z3 at hR
    refine AWP.whileW (impl_readHead_b3 a0) (fun s3 => ⟨[(2, .ptr 0 0), (4, .ptr 1 0), (6, .bool ((strings_CutSuffix a0 [43, 76, 70, 108]).2)), (7, .str ((strings_Cut ((strings_CutSuffix a0 [43, 76, 70, 108]).1) [40]).1)), (8, .str ((strings_Cut ((strings_CutSuffix a0 [43, 76, 70, 108]).1) [40]).2.1)), (9, .bool ((strings_Cut ((strings_CutSuffix a0 [43, 76, 70, 108]).1) [40]).2.2)), (10, .int .i64 s3.1)], [.box [.int .i64 0, .nils, .str [], .str [], .int .i64 0], .box [.int .i64 s3.2, .nils, .str [], .str [], .int .i64 0]]⟩) (fun s3 => 1 ≤ s3.1 ∧ s3.1 ≤ 9) (fun s3 => (9 - s3.1).toNat) (((9 - (1 : Int)).toNat) + 1) (1, 0) [0, 1] hz3 m0 wt sm ?_
    clear hz3
    intro s3 k3 hW3 hm3 hz3
    simp only [impl_readHead_b3] at hz3
    refine rS ?_
    refine AWP.cond rfl (fun hb => ?_) (fun hb => ?_)
    · simp only [hb, cond_true] at hz3
      refine rS ?_
      refine AWP.cond rfl (fun hb => ?_) (fun hb => ?_)
      · simp only [hb, cond_true] at hz3
        iterate 2 refine rS ?_
        exact ⟨_, [0, 1], ms, wt, hz3, sm⟩
      · simp only [hb, cond_false] at hz3
        refine rS ?_
        exact ⟨_, [0, 1], ms, wt, hz3, sm⟩
    · simp only [hb, cond_false] at hz3
      refine AWP.exit ?_
      refine exitTo_here ?_
      subst hz3; dsimp only at hR
      refine rS ?_
      refine AWP.cond rfl (fun hb => ?_) (fun hb => ?_)
      · replace hR := ct hR
        refine rS ?_
        refine AWP.ret ?_
        subst hR
        exact es
      · replace hR := cf hR
        iterate 2 refine rS ?_
        refine AWP.cond rfl (fun hb => ?_) (fun hb => ?_)
        · replace hR := ct hR
          iterate 2 refine rS ?_
          refine AWP.ret ?_
          subst hR
          exact es
        · replace hR := cf hR
          refine rS ?_
          refine AWP.block ?_
          refine AWP.nilB 1 1 2 1 (fun _ => []) rfl rfl ?_; try simp only [ea, absV, absVL, gv, sv, dn, reduceCtorEq, reduceIte, Nat.reduceBEq, Nat.reduceAdd, Nat.reduceEqDiff, Nat.reduceLT, Nat.reduceLeDiff, Nat.reduceMul, Nat.reduceSub, BEq.rfl, beq_self_eq_true, Int.reduceToNat]
          generalize hz4 : loopR (impl_readHead_b4 a0 (s3.1, s3.2)) (((strings_Split ((strings_CutSuffix ((strings_Cut ((strings_CutSuffix a0 [43, 76, 70, 108]).1) [40]).2.1) [41]).1) [43]).length) - 0) 0 ([] : List Int) = z4 at hR
          refine AWP.range (impl_readHead_b4 a0 (s3.1, s3.2)) (fun i4 s4 => ⟨[(2, .ptr 0 0), (4, .ptr 1 0), (12, .bool ((strings_CutSuffix ((strings_Cut ((strings_CutSuffix a0 [43, 76, 70, 108]).1) [40]).2.1) [41]).2)), (61, .ref 3 1 0 ((strings_Split ((strings_CutSuffix ((strings_Cut ((strings_CutSuffix a0 [43, 76, 70, 108]).1) [40]).2.1) [41]).1) [43]).length)), (62, .int .i64 ((strings_Split ((strings_CutSuffix ((strings_Cut ((strings_CutSuffix a0 [43, 76, 70, 108]).1) [40]).2.1) [41]).1) [43]).length : Int)), (63, .int .i64 (i4 : Int))], [.box [.int .i64 0, .nils, .str [], .str [], .int .i64 0], .box [.int .i64 s3.2, .ref 2 1 0 s4.length, .str [], .str [], .int .i64 0], .arr 2 1 s4.length (fun j => eIi64 (s4.getD j default)), .arr 9 1 (strings_Split ((strings_CutSuffix ((strings_Cut ((strings_CutSuffix a0 [43, 76, 70, 108]).1) [40]).2.1) [41]).1) [43]).length (fun j => eS ((strings_Split ((strings_CutSuffix ((strings_Cut ((strings_CutSuffix a0 [43, 76, 70, 108]).1) [40]).2.1) [41]).1) [43]).getD j default))]⟩) (fun i4 s4 => s4.length ≤ i4) (((strings_Split ((strings_CutSuffix ((strings_Cut ((strings_CutSuffix a0 [43, 76, 70, 108]).1) [40]).2.1) [41]).1) [43]).length)) 0 ([] : List Int) [0, 1, 3, 2] hz4 ot wt sm ?_
          clear hz4
          intro i4 s4 hi4 hW4 hz4
          refine rS ?_
          refine AWP.seq ?_
          refine AWP.cond rfl (fun hb => ?_) (fun hb => ?_)
          · have hlt4 : i4 < ((strings_Split ((strings_CutSuffix ((strings_Cut ((strings_CutSuffix a0 [43, 76, 70, 108]).1) [40]).2.1) [41]).1) [43]).length) := ot
            rw [loopR_lt hlt4] at hz4; simp only [impl_readHead_b4] at hz4
            iterate 3 refine rS ?_
            refine AWP.cond rfl (fun hb => ?_) (fun hb => ?_)
            · simp only [hb, cond_true] at hz4
              refine rS ?_
              refine AWP.ret ?_
              subst hz4
              dsimp only at hR
              subst hR
              exact es
            · simp only [hb, cond_false] at hz4
              iterate 2 refine rS ?_
              exact ⟨_, [0, 1, 5, 3], hlt4, wt, hz4, sm⟩
          · obtain rfl : i4 = ((strings_Split ((strings_CutSuffix ((strings_Cut ((strings_CutSuffix a0 [43, 76, 70, 108]).1) [40]).2.1) [41]).1) [43]).length) := ot
            rw [loopR_ge (Nat.le_refl _)] at hz4; subst hz4; dsimp only at hR
            refine AWP.exit ?_; refine exitTo_here ?_
            refine rS ?_
            refine AWP.ret ?_
            subst hR
            exact es
end N46
def D_impl_readHead : DF
  | [x0] => some (.tup [.agg (eCharacterO ((impl_readHead (rdS x0)).1)), .bool ((impl_readHead (rdS x0)).2)], false, [wS x0, (rdS x0).length < 1099511627776, (rdS x0).length ≤ 1048576])
  | _ => none
def Dz_impl_readHead : DF
  | [x0] => some (.tup [.agg (eCharacterO ((impl_readHead (rdS x0)).1)), .bool ((impl_readHead (rdS x0)).2)], true, [wS x0, (rdS x0).length < 1099511627776, (rdS x0).length ≤ 1048576])
  | _ => none
theorem D_impl_readHead_ok : OkD Tryz.prog 46 D_impl_readHead := by unfold D_impl_readHead; exact dk N46.den
theorem Dz_impl_readHead_ok : OkD Tryz.prog 46 Dz_impl_readHead := by unfold Dz_impl_readHead; exact dk N46.den
end Go.Ab

namespace Go.Ab
open Go Go.Proofs
def impl_readSeconds (a0 : (List UInt8)) : (Int × Bool) :=
  (bif (!((strings_Cut a0 [46]).2.2)) then (IntKind.wrap .i64 ((IntKind.wrap .i64 (10 * ((impl_ReadDecimal ((strings_Cut a0 [46]).1)).1))) + ((impl_ReadDecimal [48]).1)), (((((impl_ReadDecimal ((strings_Cut a0 [46]).1)).2 && (impl_ReadDecimal [48]).2) && (impl_within ((impl_ReadDecimal ((strings_Cut a0 [46]).1)).1) 0 1200)) && (impl_within ((impl_ReadDecimal [48]).1) 0 9)) && ((impl_secondsText (IntKind.wrap .i64 ((IntKind.wrap .i64 (10 * ((impl_ReadDecimal ((strings_Cut a0 [46]).1)).1))) + ((impl_ReadDecimal [48]).1)))) == a0))) else (IntKind.wrap .i64 ((IntKind.wrap .i64 (10 * ((impl_ReadDecimal ((strings_Cut a0 [46]).1)).1))) + ((impl_ReadDecimal ((strings_Cut a0 [46]).2.1)).1)), (((((impl_ReadDecimal ((strings_Cut a0 [46]).1)).2 && (impl_ReadDecimal ((strings_Cut a0 [46]).2.1)).2) && (impl_within ((impl_ReadDecimal ((strings_Cut a0 [46]).1)).1) 0 1200)) && (impl_within ((impl_ReadDecimal ((strings_Cut a0 [46]).2.1)).1) 0 9)) && ((impl_secondsText (IntKind.wrap .i64 ((IntKind.wrap .i64 (10 * ((impl_ReadDecimal ((strings_Cut a0 [46]).1)).1))) + ((impl_ReadDecimal ((strings_Cut a0 [46]).2.1)).1)))) == a0))))
namespace N47
theorem DD : DOk Tryz.prog (Go.Ab.DD [(30, dP D_impl_ReadDecimal), (45, dP D_strings_Cut), (68, dP D_impl_within), (91, dP D_impl_secondsText)]) := DD_cons D_impl_ReadDecimal_ok.e <| DD_cons D_strings_Cut_ok.e <| DD_cons D_impl_within_ok.e <| DD_cons D_impl_secondsText_ok.e <| DD_nil _
theorem dn : type_of% (And.intro @D_impl_ReadDecimal.eq_1 <| And.intro @D_strings_Cut.eq_1 <| And.intro @D_impl_within.eq_1 <| @D_impl_secondsText.eq_1) := by and_intros <;> intros <;> rfl
theorem ol : type_of% (@impl_within.eq_1) := @impl_within.eq_1
theorem gr {p : Prop} (h : p := by (grind [strings_Cut_len]); first | done | fail) : p := h
set_option maxHeartbeats 400000 in
set_option maxRecDepth 20000 in
theorem den (a0 : (List UInt8)) (hb0 : a0.length < 1099511627776) (hp0 : a0.length ≤ 1048576) : Den Tryz.prog 47 [.str a0] (.tup [.int .i64 ((impl_readSeconds a0).1), .bool ((impl_readSeconds a0).2)]) := by
  generalize hR : impl_readSeconds a0 = r
  unfold impl_readSeconds at hR
  refine di Tryz.func47 Tryz.ntmps47 Tryz.results47 ?_
  intro c hL hc hk
  obtain ⟨hL0, _⟩ := hL
  have hw0 : a0.length < 9223372036854775808 := Nat.lt_succ_of_le hL0
  clear hL0
  simp only [pars, Nat.zero_add]
  iterate 3 refine rS ?_
  refine AWP.cond rfl (fun hb => ?_) (fun hb => ?_)
  · replace hR := ct hR
    iterate 5 refine rS ?_
    refine AWP.ret ?_
    subst hR
    exact es
  · replace hR := cf hR
    iterate 4 refine rS ?_
    refine AWP.ret ?_
    subst hR
    exact es
end N47
def D_impl_readSeconds : DF
  | [x0] => some (.tup [.int .i64 ((impl_readSeconds (rdS x0)).1), .bool ((impl_readSeconds (rdS x0)).2)], false, [wS x0, (rdS x0).length < 1099511627776, (rdS x0).length ≤ 1048576])
  | _ => none
theorem D_impl_readSeconds_ok : OkD Tryz.prog 47 D_impl_readSeconds := by unfold D_impl_readSeconds; exact dk N47.den
end Go.Ab

namespace Go.Ab
open Go Go.Proofs
theorem itoa_no {n : Int} (h : 0 ≤ n) (b : UInt8) (hb : b.toNat < 48 ∨ 57 < b.toNat) : b ∉ Lib.itoa n := by
  obtain ⟨d1, _, _, _⟩ := decDigits_all n.natAbs
  rw [itoa_nn (by omega)]
  intro hm
  have := d1 b hm
  omega
theorem readDec_itoa {n : Int} (h1 : 0 ≤ n) (h2 : n ≤ 1000000) : readDecL (Lib.itoa n) = (n, true) := by
  rcases readDec_spec (Lib.itoa n) with ⟨m, hm, he, hr⟩ | ⟨hn, _⟩
  · rw [hr, itoa_inj he]
  · exact absurd rfl (hn n (by unfold E18; omega))
theorem join_no (b : UInt8) (hb : b ≠ 43) : ∀ (xs : List (List UInt8)), (∀ x ∈ xs, b ∉ x) → b ∉ Lib.join xs [43]
  | [], _ => by simp [Lib.join_nil]
  | x :: r, h => by
    rw [Lib.join_cons]
    intro hm
    rcases List.mem_append.1 hm with hm | hm
    · exact h x (by simp) hm
    · unfold Lib.joinTail at hm
      rw [List.mem_flatten] at hm
      obtain ⟨l, hl, hbl⟩ := hm
      obtain ⟨y, hy, rfl⟩ := List.mem_map.1 hl
      rcases List.mem_append.1 hbl with h9 | h9
      · rw [List.mem_singleton] at h9; exact hb h9
      · exact h y (by simp [hy]) h9
theorem split_join (b : UInt8) : ∀ (x : List UInt8) (r : List (List UInt8)), b ∉ x → (∀ y ∈ r, b ∉ y) → splitC b (x ++ Lib.joinTail [b] r) = x :: r
  | x, [], hx, _ => by simp [Lib.joinTail, splitC_none b x hx]
  | x, y :: r, hx, hr => by
    have e : Lib.joinTail [b] (y :: r) = b :: (y ++ Lib.joinTail [b] r) := by simp [Lib.joinTail]
    rw [e, splitC_cons b x _ hx, split_join b y r (hr y (by simp)) (fun z hz => hr z (by simp [hz]))]
theorem split_grp (g : List Int) (hg : g ≠ []) (h2 : ∀ v ∈ g, 1 ≤ v ∧ v ≤ 9) : splitC 43 (Lib.join (g.map Lib.itoa) [43]) = g.map Lib.itoa := by
  cases g with
  | nil => exact absurd rfl hg
  | cons x r =>
    rw [List.map_cons, Lib.join_cons]
    refine split_join 43 _ _ (itoa_no (by have := h2 x (by simp); omega) 43 (by decide)) ?_
    intro y hy
    obtain ⟨z, hz, rfl⟩ := List.mem_map.1 hy
    exact itoa_no (by have := h2 z (by simp [hz]); omega) 43 (by decide)
theorem kt_no (k : Int) (h : 1 ≤ k ∧ k ≤ 8) : (40 : UInt8) ∉ kt k ∧ (32 : UInt8) ∉ kt k := by
  rcases (show k = 1 ∨ k = 2 ∨ k = 3 ∨ k = 4 ∨ k = 5 ∨ k = 6 ∨ k = 7 ∨ k = 8 by omega) with h | h | h | h | h | h | h | h <;> subst h <;> decide
theorem sec_read (n : Int) (h1 : 0 < n) (h2 : n ≤ 600) : impl_readSeconds (secT n) = (n, true) := by
  have hm : n.tmod 10 = n % 10 := Int.tmod_eq_emod_of_nonneg (by omega)
  have z0 : Lib.itoa 0 = [48] := by
    rw [itoa_nn (by omega)]
    first | rfl | decide | (rw [show (0 : Int).natAbs = 0 from rfl, Lib.decDigits]; rfl)
  have e0 : impl_ReadDecimal [48] = (0, true) := by
    have := readDec_itoa (n := 0) (by omega) (by omega)
    rw [z0] at this
    exact this
  have e1 : impl_ReadDecimal (Lib.itoa (n / 10)) = (n / 10, true) := readDec_itoa (by omega) (by omega)
  have hst := sec_impl n (by omega) h2
  have hcut : ∀ s, strings_Cut s [46] = Lib.cut s [46] := fun s => rfl
  unfold impl_readSeconds
  simp only [hcut]
  have hw : ∀ m : Int, 0 ≤ m → m ≤ 100000 → IntKind.wrap .i64 m = m := fun m _ _ => by rw [IntKind.wrap_i64]; omega
  by_cases h : n.tmod 10 = 0
  · have hs : secT n = Lib.itoa (n / 10) := by unfold secT; rw [if_pos h]
    rw [hs] at hst ⊢
    rw [cut_none _ 46 (itoa_no (by omega) 46 (by decide))]
    simp only [Bool.not_false, cond_true]
    rw [e0, e1]
    simp only
    rw [hw (10 * (n / 10)) (by omega) (by omega), hw (10 * (n / 10) + 0) (by omega) (by omega), show 10 * (n / 10) + 0 = n by omega, hst]
    have w1 : impl_within (n / 10) 0 1200 = true := by unfold impl_within; rw [decide_eq_true (by omega), decide_eq_true (by omega)]; rfl
    rw [w1]
    simp [impl_within]
  · have hs : secT n = Lib.itoa (n / 10) ++ (46 :: Lib.itoa (n % 10)) := by unfold secT; rw [if_neg h]
    have e2 : impl_ReadDecimal (Lib.itoa (n % 10)) = (n % 10, true) := readDec_itoa (by omega) (by omega)
    rw [hs] at hst ⊢
    rw [cut_app _ _ 46 (itoa_no (by omega) 46 (by decide))]
    simp only [Bool.not_true, cond_false]
    rw [e1, e2]
    simp only
    rw [hw (10 * (n / 10)) (by omega) (by omega), hw (10 * (n / 10) + n % 10) (by omega) (by omega), show 10 * (n / 10) + n % 10 = n by omega, hst]
    have w1 : impl_within (n / 10) 0 1200 = true := by unfold impl_within; rw [decide_eq_true (by omega), decide_eq_true (by omega)]; rfl
    have w2 : impl_within (n % 10) 0 9 = true := by unfold impl_within; rw [decide_eq_true (by omega), decide_eq_true (by omega)]; rfl
    rw [w1, w2]
    simp
end Go.Ab
