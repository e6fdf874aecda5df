/- A part of a proof: walks of functions and lemmas of our own. No conditions. -/
import Derived.Test.YtpakbdamggpneaaGreatDoorTAo
import Derived.Test.YtpakbdamggpneaaGreatDoorTAl
import Derived.Lib.ParseIntBTie
import Derived.Lib.ItoaNum
import Derived.Lib.Strings
import Derived.Test.YtpakbdamggpneaaGreatDoorTAn
import Derived.Below
import Derived.Shelf.Strings.Prefix
import Derived.Shelf.Strconv.ParseIntPublic10
import Derived.Handy
import Derived.WideShapes
import Derived.ProofKit
import Derived.Lib.Join
set_option linter.unusedSectionVars false
set_option linter.unusedVariables false
set_option linter.unusedSimpArgs false
set_option maxHeartbeats 1000000
namespace Go.Ab
open Go Go.Proofs
theorem l05Morse_eq (a : Int) : spec_l05Morse a = (codesL.getD (IntKind.wrap .u8 (a - 65)).toNat default).map (fun c => if c = 46 then (5 : Int) else 15) := by
  have h := loopR_app (spec_l05Morse_b1 a) (fun j => [if ((codesL.getD (IntKind.wrap .u8 (a - 65)).toNat default).getD j 0) = 46 then (5 : Int) else 15]) (codesL.getD (IntKind.wrap .u8 (a - 65)).toNat default).length 0 [] (fun j s _ _ => by
    show (bif ((((codesL.getD (IntKind.wrap .u8 (a - 65)).toNat default).getD j 0).toNat : Int) == 46) then (.ok (s ++ [5]) : Except (List Int) (List Int)) else .ok (s ++ [15])) = _
    generalize (codesL.getD (IntKind.wrap .u8 (a - 65)).toNat default).getD j 0 = c
    by_cases hc : c = 46
    · subst hc; rfl
    · have : ((c.toNat : Int) == 46) = false := by
        rw [beq_eq_false_iff_ne]
        intro h
        exact hc (UInt8.toNat_inj.1 (by show c.toNat = 46; omega))
      rw [this, if_neg hc]; rfl)
  have e : spec_l05Morse a = (match loopR (spec_l05Morse_b1 a) (codesL.getD (IntKind.wrap .u8 (a - 65)).toNat default).length 0 ([] : List Int) with | .error e => e | .ok s1 => s1) := rfl
  rw [e, h]
  simp only [List.nil_append]
  exact flat_list _ 0 (fun c => if c = 46 then (5 : Int) else 15)
theorem morse_len (a : Int) : (spec_l05Morse a).length ≤ 4 := by
  rw [l05Morse_eq, List.length_map]
  exact codeL_len _
end Go.Ab

namespace Go.Ab
open Go Go.Proofs
def impl_isQuick (a0 : Int) : Bool :=
  ((a0 == 6) || (a0 == 7))
namespace N138
theorem DD : DOk Tryz.prog (Go.Ab.DD []) := DD_nil _
theorem den (a0 : Int)  : Den Tryz.prog 138 [.int .i64 a0] (.bool (impl_isQuick a0)) := by
  generalize hR : impl_isQuick a0 = r
  unfold impl_isQuick at hR
  refine di Tryz.func138 Tryz.ntmps138 Tryz.results138 ?_
  intro c hL hc hk
  clear hL
  simp only [pars, Nat.zero_add]
  iterate 2 refine rS ?_
  refine AWP.ret ?_
  subst hR
  exact es
end N138
def D_impl_isQuick : DF
  | [x0] => some (.bool (impl_isQuick (rdI x0)), false, [wI .i64 x0])
  | _ => none
theorem D_impl_isQuick_ok : OkD Tryz.prog 138 D_impl_isQuick := by unfold D_impl_isQuick; exact dk N138.den
end Go.Ab

namespace Go.Ab
open Go Go.Proofs
def impl_Character_isSteady (a0 : Character) : Bool :=
  ((a0.Kind == 1) || ((impl_isQuick a0.Kind) && ((a0.Group.length : Int) == 0)))
namespace N95
theorem DD : DOk Tryz.prog (Go.Ab.DD [(138, dP D_impl_isQuick)]) := DD_cons D_impl_isQuick_ok.e <| DD_nil _
theorem dn : type_of% (@D_impl_isQuick.eq_1) := by and_intros <;> intros <;> rfl
theorem den (a0 : Character)  : Den Tryz.prog 95 [.agg (eCharacter a0)] (.bool (impl_Character_isSteady a0)) := by
  generalize hR : impl_Character_isSteady a0 = r
  unfold impl_Character_isSteady at hR
  refine di Tryz.func95 Tryz.ntmps95 Tryz.results95 ?_
  intro c hL hc hk
  obtain ⟨hL0, _⟩ := hL
  have hw0 : bwCharacter a0 := Character_lens a0 hL0
  clear hL0
  simp only [pars, Nat.zero_add]
  iterate 2 refine rS ?_
  refine AWP.ret ?_
  subst hR
  exact es
end N95
def D_impl_Character_isSteady : DF
  | [x0] => some (.bool (impl_Character_isSteady (rdG dCharacter x0)), false, [wG eCharacter dCharacter x0])
  | _ => none
theorem D_impl_Character_isSteady_ok : OkD Tryz.prog 95 D_impl_Character_isSteady := by unfold D_impl_Character_isSteady; exact dk N95.den
end Go.Ab

namespace Go.Ab
open Go Go.Proofs
def impl_rhythm (a0 : Int) : (Int × Int × Int) :=
  (bif (a0 == 2) then (10, 10, 15) else (bif (a0 == 4) then (5, 15, 20) else (bif (a0 == 5) then (20, 20, 25) else (bif (a0 == 6) then (5, 5, 20) else (bif (a0 == 7) then (2, 3, 10) else (bif (a0 == 8) then (5, 5, 30) else (0, 0, 0)))))))
namespace N139
theorem DD : DOk Tryz.prog (Go.Ab.DD []) := DD_nil _
theorem den (a0 : Int)  : Den Tryz.prog 139 [.int .i64 a0] (.tup [.int .i64 ((impl_rhythm a0).1), .int .i64 ((impl_rhythm a0).2.1), .int .i64 ((impl_rhythm a0).2.2)]) := by
  generalize hR : impl_rhythm a0 = r
  unfold impl_rhythm at hR
  refine di Tryz.func139 Tryz.ntmps139 Tryz.results139 ?_
  intro c hL hc hk
  clear hL
  simp only [pars, Nat.zero_add]
  iterate 3 refine rS ?_
  refine AWP.cond rfl (fun hb => ?_) (fun hb => ?_)
  · replace hR := ct hR
    refine rS ?_
    refine AWP.ret ?_
    subst hR
    exact es
  · replace hR := cf hR
    refine rS ?_
    refine AWP.cond rfl (fun hb => ?_) (fun hb => ?_)
    · replace hR := ct hR
      refine rS ?_
      refine AWP.ret ?_
      subst hR
      exact es
    · replace hR := cf hR
      refine rS ?_
      refine AWP.cond rfl (fun hb => ?_) (fun hb => ?_)
      · replace hR := ct hR
        refine rS ?_
        refine AWP.ret ?_
        subst hR
        exact es
      · replace hR := cf hR
        refine rS ?_
        refine AWP.cond rfl (fun hb => ?_) (fun hb => ?_)
        · replace hR := ct hR
          refine rS ?_
          refine AWP.ret ?_
          subst hR
          exact es
        · replace hR := cf hR
          refine rS ?_
          refine AWP.cond rfl (fun hb => ?_) (fun hb => ?_)
          · replace hR := ct hR
            refine rS ?_
            refine AWP.ret ?_
            subst hR
            exact es
          · replace hR := cf hR
            refine rS ?_
            refine AWP.cond rfl (fun hb => ?_) (fun hb => ?_)
            · replace hR := ct hR
              refine rS ?_
              refine AWP.ret ?_
              subst hR
              exact es
            · replace hR := cf hR
              refine rS ?_
              refine AWP.ret ?_
              subst hR
              exact es
end N139
def D_impl_rhythm : DF
  | [x0] => some (.tup [.int .i64 ((impl_rhythm (rdI x0)).1), .int .i64 ((impl_rhythm (rdI x0)).2.1), .int .i64 ((impl_rhythm (rdI x0)).2.2)], false, [wI .i64 x0])
  | _ => none
theorem D_impl_rhythm_ok : OkD Tryz.prog 139 D_impl_rhythm := by unfold D_impl_rhythm; exact dk N139.den
end Go.Ab

namespace Go.Ab
open Go Go.Proofs
def impl_sumOf_b1 (a0 : (List Int)) (i1 : Nat) (s1 : Int) : Except (Int) (Int) :=
  .ok (IntKind.wrap .i64 (s1 + (a0.getD i1 default)))
def impl_sumOf (a0 : (List Int)) : Int :=
  (match loopR (impl_sumOf_b1 a0) (a0.length - 0) 0 0 with | .error e => e | .ok s1 => s1)
namespace N140
theorem DD : DOk Tryz.prog (Go.Ab.DD []) := DD_nil _
theorem den (a0 : (List Int))  : Den Tryz.prog 140 [encL 1 eIi64 a0] (.int .i64 (impl_sumOf a0)) := by
  generalize hR : impl_sumOf a0 = r
  unfold impl_sumOf at hR
  refine di Tryz.func140 Tryz.ntmps140 Tryz.results140 ?_
  intro c hL hc hk
  obtain ⟨hL0, _⟩ := hL
  have hw0 : a0.length < 9223372036854775808 := Nat.lt_succ_of_le (lens_encL hL0).1
  clear hL0
  simp only [pars, Nat.zero_add]
  iterate 3 refine rS ?_
  refine AWP.block ?_
  generalize hz1 : loopR (impl_sumOf_b1 a0) (a0.length - 0) 0 0 = z1 at hR
  refine AWP.range (impl_sumOf_b1 a0) (fun i1 s1 => ⟨[(3, .int .i64 s1), (6, encL 1 eIi64 a0), (7, .int .i64 (a0.length : Int)), (8, .int .i64 (i1 : Int))], []⟩) (fun i1 s1 => True) (a0.length) 0 0 [] hz1 ot wt sm ?_
  clear hz1
  intro i1 s1 hi1 hW1 hz1
  refine rS ?_
  refine AWP.seq ?_
  refine AWP.cond rfl (fun hb => ?_) (fun hb => ?_)
  · have hlt1 : i1 < a0.length := ot
    rw [loopR_lt hlt1] at hz1; simp only [impl_sumOf_b1] at hz1
    iterate 3 refine rS ?_
    exact ⟨_, [], hlt1, wt, hz1, sm⟩
  · obtain rfl : i1 = a0.length := ot
    rw [loopR_ge (Nat.le_refl _)] at hz1; subst hz1; dsimp only at hR
    refine AWP.exit ?_; refine exitTo_here ?_
    refine rS ?_
    refine AWP.ret ?_
    subst hR
    exact es
end N140
def D_impl_sumOf : DF
  | [x0] => some (.int .i64 (impl_sumOf (rdL dIi64 x0)), false, [wL 1 eIi64 dIi64 x0])
  | _ => none
theorem D_impl_sumOf_ok : OkD Tryz.prog 140 D_impl_sumOf := by unfold D_impl_sumOf; exact dk N140.den
end Go.Ab

namespace Go.Ab
open Go
def allDig (l : List UInt8) : Prop := ∀ b ∈ l, 48 ≤ b.toNat ∧ b.toNat ≤ 57
instance (l : List UInt8) : Decidable (allDig l) := by unfold allDig; infer_instance
def digV (n : Nat) (l : List UInt8) : Nat := l.foldl (fun k b => 10 * k + (b.toNat - 48)) n
theorem digV_nil (n : Nat) : digV n [] = n := List.foldl_nil
theorem digV_cons (n : Nat) (c : UInt8) (l : List UInt8) : digV n (c :: l) = digV (10 * n + (c.toNat - 48)) l := List.foldl_cons ..
theorem digV_snoc (b : UInt8) (l : List UInt8) (n : Nat) : digV n (l ++ [b]) = 10 * digV n l + (b.toNat - 48) := by
  unfold digV
  rw [List.foldl_append, List.foldl_cons, List.foldl_nil]
theorem digV_lt (l : List UInt8) : ∀ (n : Nat), allDig l → digV n l < (n + 1) * 10 ^ l.length := by
  induction l with
  | nil => intro n _; rw [digV_nil, List.length_nil, Nat.pow_zero]; omega
  | cons c l ih =>
    intro n h
    have hc := h c (by simp)
    have h1 := ih (10 * n + (c.toNat - 48)) (fun b hb => h b (by simp [hb]))
    rw [digV_cons, List.length_cons, Nat.pow_succ]
    have h2 : (10 * n + (c.toNat - 48) + 1) * 10 ^ l.length ≤ ((n + 1) * 10) * 10 ^ l.length := Nat.mul_le_mul_right _ (by omega)
    have h3 : ((n + 1) * 10) * 10 ^ l.length = (n + 1) * (10 ^ l.length * 10) := by rw [Nat.mul_assoc, Nat.mul_comm 10]
    omega
theorem digV_ge (l : List UInt8) : ∀ (n : Nat), n * 10 ^ l.length ≤ digV n l := by
  induction l with
  | nil => intro n; rw [digV_nil, List.length_nil, Nat.pow_zero]; omega
  | cons c l ih =>
    intro n
    have h1 := ih (10 * n + (c.toNat - 48))
    rw [digV_cons, List.length_cons, Nat.pow_succ]
    have h2 : (n * 10) * 10 ^ l.length ≤ (10 * n + (c.toNat - 48)) * 10 ^ l.length := Nat.mul_le_mul_right _ (by omega)
    have h3 : (n * 10) * 10 ^ l.length = n * (10 ^ l.length * 10) := by rw [Nat.mul_assoc, Nat.mul_comm 10]
    omega
theorem u8_of {b : UInt8} (h1 : 48 ≤ b.toNat) (h2 : b.toNat ≤ 57) : UInt8.ofNat (48 + (b.toNat - 48)) = b := by
  apply UInt8.toNat_inj.1
  rw [UInt8.toNat_ofNat']
  omega
theorem decDigits_snoc (m : Nat) (h : ¬ m < 10) : Lib.decDigits m = Lib.decDigits (m / 10) ++ [UInt8.ofNat (48 + m % 10)] := by
  rw [Lib.decDigits, dif_neg h]
theorem dec_of_digV : ∀ (n : Nat) (l : List UInt8), l.length = n → allDig l → l ≠ [] → (l.getD 0 0 ≠ 48 ∨ l.length = 1) → Lib.decDigits (digV 0 l) = l := by
  intro n
  induction n using Nat.strongRecOn with
  | ind n ih =>
    intro l hl hd hne hh
    rcases List.eq_nil_or_concat l with rfl | ⟨r, b, he⟩
    · exact absurd rfl hne
    · rw [List.concat_eq_append] at he
      subst he
      have hb := hd b (by simp)
      have hdr : allDig r := fun c hc => hd c (by simp [hc])
      rw [digV_snoc]
      by_cases hr : r = []
      · subst hr
        simp only [digV_nil, Nat.mul_zero, Nat.zero_add, List.nil_append]
        rw [Lib.decDigits_one (by omega), u8_of hb.1 hb.2]
      · obtain ⟨c, t, rfl⟩ := List.exists_cons_of_ne_nil hr
        have hc := hdr c (by simp)
        have hne48 : c ≠ 48 := by
          rcases hh with h | h
          · simpa using h
          · simp at h
        have hc1 : 49 ≤ c.toNat := by
          have : c.toNat ≠ 48 := fun e => hne48 (UInt8.toNat_inj.1 (by rw [e]; rfl))
          omega
        have hpos : 1 ≤ digV 0 (c :: t) := by
          have h1 := digV_ge t (10 * 0 + (c.toNat - 48))
          have h2 : 1 ≤ 10 ^ t.length := Nat.one_le_pow _ _ (by decide)
          have h3 : 1 * 1 ≤ (10 * 0 + (c.toNat - 48)) * 10 ^ t.length := Nat.mul_le_mul (by omega) h2
          rw [digV_cons]
          omega
        have hI := ih (c :: t).length (by simp at hl ⊢; omega) (c :: t) rfl hdr (by simp) (.inl (by simpa using hne48))
        rw [decDigits_snoc _ (by omega), show (10 * digV 0 (c :: t) + (b.toNat - 48)) / 10 = digV 0 (c :: t) by omega, hI, show (10 * digV 0 (c :: t) + (b.toNat - 48)) % 10 = b.toNat - 48 by omega, u8_of hb.1 hb.2]
theorem u8_dig (d : Nat) (h : d < 10) : (UInt8.ofNat (48 + d)).toNat = 48 + d := by
  rw [UInt8.toNat_ofNat']; omega
theorem decDigits_all (m : Nat) : allDig (Lib.decDigits m) ∧ digV 0 (Lib.decDigits m) = m ∧ Lib.decDigits m ≠ [] ∧ (1 ≤ m → (Lib.decDigits m).getD 0 0 ≠ 48) := by
  induction m using Nat.strongRecOn with
  | ind m ih =>
    by_cases h : m < 10
    · rw [Lib.decDigits_one h]
      refine ⟨fun b hb => ?_, ?_, by simp, fun h1 => ?_⟩
      · simp only [List.mem_singleton] at hb
        subst hb
        rw [u8_dig m h]; omega
      · rw [digV_cons, digV_nil, u8_dig m h]; omega
      · intro e
        have e2 : (UInt8.ofNat (48 + m)).toNat = 48 := by
          have : (UInt8.ofNat (48 + m)) = 48 := by simpa using e
          rw [this]; rfl
        rw [u8_dig m h] at e2
        omega
    · obtain ⟨i1, i2, i3, i4⟩ := ih (m / 10) (by omega)
      rw [decDigits_snoc m h]
      refine ⟨fun b hb => ?_, ?_, by simp, fun _ => ?_⟩
      · rcases List.mem_append.1 hb with hb | hb
        · exact i1 b hb
        · simp only [List.mem_singleton] at hb
          subst hb
          rw [u8_dig _ (by omega)]; omega
      · rw [digV_snoc, i2, u8_dig _ (by omega)]; omega
      · obtain ⟨c, t, e⟩ := List.exists_cons_of_ne_nil i3
        have := i4 (by omega)
        rw [e] at this ⊢
        simpa using this
theorem decDigits_len18 (m : Nat) : (Lib.decDigits m).length ≤ 18 ↔ m < 1000000000000000000 := by
  obtain ⟨h1, h2, h3, h4⟩ := decDigits_all m
  constructor
  · intro h
    have := digV_lt (Lib.decDigits m) 0 h1
    rw [h2] at this
    have h5 : 10 ^ (Lib.decDigits m).length ≤ 10 ^ 18 := Nat.pow_le_pow_right (by decide) h
    have h6 : (10 : Nat) ^ 18 = 1000000000000000000 := by decide
    omega
  · intro h
    by_cases hl : (Lib.decDigits m).length ≤ 18
    · exact hl
    · exfalso
      obtain ⟨c, t, e⟩ := List.exists_cons_of_ne_nil h3
      have hm : 1 ≤ m := by
        by_cases h0 : m = 0
        · subst h0; rw [Lib.decDigits_one (by decide)] at hl; simp at hl
        · omega
      have h48 := h4 hm
      rw [e] at h48 h1 h2 hl
      have hc := h1 c (by simp)
      have hc1 : 49 ≤ c.toNat := by
        have : c.toNat ≠ 48 := fun e2 => h48 (by
          have : c = 48 := UInt8.toNat_inj.1 (by rw [e2]; rfl)
          simp [this])
        omega
      have h5 := digV_ge t (10 * 0 + (c.toNat - 48))
      have h6 : digV 0 (c :: t) = digV (10 * 0 + (c.toNat - 48)) t := digV_cons ..
      have h7 : 10 ^ 18 ≤ 10 ^ t.length := Nat.pow_le_pow_right (by decide) (by simp at hl; omega)
      have h8 : (10 : Nat) ^ 18 = 1000000000000000000 := by decide
      have h9 : 1 * 10 ^ t.length ≤ (10 * 0 + (c.toNat - 48)) * 10 ^ t.length := Nat.mul_le_mul_right _ (by omega)
      omega
theorem parseUintM_dig (M : Nat) (l : List UInt8) : ∀ (n : Nat), allDig l → digV n l ≤ M → M < 18446744073709551616 → Lib.parseUintM M n l = .ok (digV n l) := by
  induction l with
  | nil => intro n _ _ _; rw [digV_nil, Lib.parseUintM]
  | cons c l ih =>
    intro n h hM h64
    have hc := h c (by simp)
    have h1 := digV_ge l (10 * n + (c.toNat - 48))
    have h2 : 1 ≤ 10 ^ l.length := Nat.one_le_pow _ _ (by decide)
    have h3 : (10 * n + (c.toNat - 48)) * 1 ≤ (10 * n + (c.toNat - 48)) * 10 ^ l.length := Nat.mul_le_mul_left _ h2
    rw [digV_cons] at hM ⊢
    rw [Lib.parseUintM, if_pos hc, if_neg (by omega), if_neg (by omega), Nat.mul_comm n 10]
    exact ih _ (fun b hb => h b (by simp [hb])) hM h64
end Go.Ab

namespace Go.Ab
open Go Go.Proofs
theorem grow_drewN (w : World) (k : Nat) (os : Array Obj) : Grow w (Go.Sort.grow (w.drewN k) os) := by
  refine ⟨rfl, rfl, rfl, ?_, fun i hi => ?_⟩
  · show w.heap.size ≤ (w.heap ++ os).size
    simp
  · show (w.heap ++ os)[i]? = w.heap[i]?
    rw [Array.getElem?_append_left hi]
open Go.RowKit in
theorem below_grow {w w' : World} (h : Below w.heap.size w w') : Grow w w' := ⟨h.os, h.tape, h.output, h.size, fun k hk => h.block k hk⟩
theorem decDigits_len (u : Nat) : (Go.Lib.decDigits u).length ≤ u / 2 + 1 := by
  induction u using Nat.strongRecOn with
  | ind u ih =>
    rw [Go.Lib.decDigits]
    split
    · simp
    · have := ih (u / 10) (by omega)
      simp only [List.length_append, List.length_cons, List.length_nil]
      omega
theorem itoa_len {n : Int} (h1 : -9223372036854775808 ≤ n) (h2 : n ≤ 9223372036854775807) : (Go.Lib.itoa n).length ≤ maxLen := by
  unfold Go.Lib.itoa maxLen
  split
  · have := decDigits_len n.natAbs
    simp only [List.length_cons]
    omega
  · have := decDigits_len n.toNat
    omega
theorem repeatL_len (l : List UInt8) (c : Nat) : (Go.Lib.repeatL l c).length = l.length * c := by
  rw [Go.Lib.repeatL_length, Nat.mul_comm]
end Go.Ab

namespace Go.Ab
open Go Go.Proofs Go.RowKit
def readDecL (s : List UInt8) : Int × Bool :=
  if 18 < (Go.Lib.trimPrefix s [45]).length then (0, false) else match Go.Lib.parseIntB 64 s with
    | .ok v => if Go.Lib.itoa v = s then (v, true) else (0, false)
    | _ => (0, false)
theorem Grow.trans' {a b c : World} (h1 : Grow a b) (h2 : Grow b c) : Grow a c :=
  ⟨h2.os.trans h1.os, h2.tape.trans h1.tape, h2.output.trans h1.output, Nat.le_trans h1.size h2.size, fun k hk => (h2.block k (Nat.lt_of_lt_of_le hk h1.size)).trans (h1.block k hk)⟩
theorem Grow.refl' (a : World) : Grow a a := ⟨rfl, rfl, rfl, Nat.le_refl _, fun _ _ => rfl⟩
theorem tab_grow {w w' : World} (h : tabOk w) (hg : Grow w w') : tabOk w' :=
  inv0.stable w w' h hg.os fun b hb => hg.block b (inv0.inside w h b hb)
theorem trim_calls (s : ByteArray) (w : World) : Calls Tryz.prog 65 #[.string s, .string ⟨#[45]⟩] w fun e w' => e = .returned (.string ⟨(Go.Lib.trimPrefix s.data.toList [45]).toArray⟩) ∧ w' = w :=
  Any.strings_TrimPrefix Tryz.lays101 s ⟨#[45]⟩ w
theorem bytes_grow (w : World) (e : TypeId) (t : ByteArray) : Grow w (Go.Lib.bytesWorld w e t) := by
  unfold Go.Lib.bytesWorld World.freeze
  rw [if_neg (by decide)]
  have hs : (w.drew.alloc (.cells (Go.Lib.bytesCells w e t) e)).heap.size = w.heap.size + 1 := by
    show (w.heap.push _).size = _
    simp
  refine ⟨rfl, rfl, rfl, ?_, fun k hk => ?_⟩
  · show w.heap.size ≤ (Array.modify _ _ _).size
    rw [Array.size_modify, hs]; omega
  · show (Array.modify _ _ _)[k]? = _
    rw [Array.getElem?_modify, if_neg (by show ¬ w.heap.size = k; omega)]
    show (w.heap.push _)[k]? = _
    rw [Array.getElem?_push, if_neg (by omega)]
theorem parse_calls (s : ByteArray) (w : World) (hs : s.size ≤ 1048576) (hw : tabOk w) : Calls Tryz.prog 66 #[.string s, .int .i64 10, .int .i64 64] w fun e w' =>
    Grow w w' ∧ ((∃ v, Go.Lib.parseIntB 64 s.data.toList = .ok v ∧ e = .returned (.tuple #[.int .i64 v, .nilIface])) ∨ ((∀ v, Go.Lib.parseIntB 64 s.data.toList ≠ .ok v) ∧ ∃ v t p, e = .returned (.tuple #[.int .i64 v, .iface t p]))) := by
  cases h : Go.Lib.parseIntB 64 s.data.toList with
  | ok v =>
    refine (Any.strconv_ParseInt_10_at64_ok Tryz.laysC174 s (by omega) v h w).mono ?_
    rintro e w' ⟨rfl, hw'⟩
    refine ⟨?_, .inl ⟨v, rfl, rfl⟩⟩
    rcases hw' with rfl | ⟨t, rfl⟩
    · exact Grow.refl' _
    · exact bytes_grow _ _ _
  | range=>
    obtain ⟨te, pe, hc⟩ := hw.2.2
    refine (Any.strconv_ParseInt_10_at64_range Tryz.laysC174 s (by omega) h _ w hc (.inr ⟨te, pe, rfl⟩)).mono ?_
    rintro e w' ⟨N, rfl, _, _, hB⟩
    exact ⟨below_grow hB, .inr ⟨by simp, _, _, _, rfl⟩⟩
  | _ =>
    obtain ⟨te, pe, hc⟩ := hw.2.1
    refine (Any.strconv_ParseInt_10_at64_syntax Tryz.laysC174 s (by omega) h _ w hc (.inr ⟨te, pe, rfl⟩)).mono ?_
    rintro e w' ⟨N, rfl, _, _, hB⟩
    exact ⟨below_grow hB, .inr ⟨by simp, _, _, _, rfl⟩⟩
theorem format_calls (n : Int) (w : World) (h0 : -9223372036854775808 ≤ n) (h1 : n ≤ 9223372036854775807) (hw : tabOk w) : Calls Tryz.prog 71 #[.int .i64 n, .int .i64 10] w fun e w' =>
    e = .returned (.string ⟨(Go.Lib.itoa n).toArray⟩) ∧ Grow w w' := by
  refine (Any.strconv_FormatInt_10 Tryz.laysM173 n h0 h1 w hw.1.1).mono ?_
  rintro e w' ⟨rfl, k, os, rfl⟩
  exact ⟨rfl, grow_drewN w k os⟩
theorem decimal_calls (n : Int) (w : World) (h0 : -9223372036854775808 ≤ n) (h1 : n ≤ 9223372036854775807) (hw : tabOk w) : Calls Tryz.prog 33 #[.int .i64 n] w fun e w' =>
    e = .returned (.string ⟨(Go.Lib.itoa n).toArray⟩) ∧ Grow w w' := by
  go_enter Tryz.func33, Tryz.ntmps33
  go_wp2_with (go_at_call 71; refine (format_calls _ _ h0 h1 hw).mono ?_; rintro e w' ⟨rfl, hg⟩)
  go_ret
  exact ⟨rfl, hg⟩
set_option maxHeartbeats 1000000 in
theorem readDec_walk (s : ByteArray) (w : World) (hs : s.size ≤ 1048576) (hw : tabOk w) : Calls Tryz.prog 30 #[.string s] w fun e w' =>
    Grow w w' ∧ e = .returned (.tuple #[.int .i64 (readDecL s.data.toList).1, .bool (readDecL s.data.toList).2]) := by
  go_enter Tryz.func30, Tryz.ntmps30
  go_wp2_with (first
    | (go_at_call 65; refine (trim_calls _ _).mono ?_; rintro e w' ⟨rfl, rfl⟩)
    | (go_at_call 66; refine (parse_calls _ _ hs hw).mono ?_; rintro e w' ⟨hg, ⟨v, hv, rfl⟩ | ⟨hv, v, t, p, rfl⟩⟩)
    | (go_at_call 33; have hb := Go.Lib.parseIntB_bounds hv; refine (decimal_calls _ _ (by omega) (by omega) (tab_grow hw hg)).mono ?_; rintro e w'' ⟨rfl, hg2⟩))
  · go_ret2
    rename_i h
    have h : 18 < (Go.Lib.trimPrefix s.data.toList [45]).length := by omega
    refine ⟨Grow.refl' _, ?_⟩
    unfold readDecL
    rw [if_pos h]
    rfl
  · go_ret2
    rename_i hne
    rw [ByteArray.toList_eq] at hne
    have hne : Go.Lib.itoa v ≠ s.data.toList := by simpa using hne
    refine ⟨Grow.trans' hg hg2, ?_⟩
    unfold readDecL
    rw [if_neg (by omega), hv]
    simp only
    rw [if_neg hne]
    rfl
  · go_ret2
    rename_i hne
    rw [ByteArray.toList_eq] at hne
    have hne : Go.Lib.itoa v = s.data.toList := by simpa using hne
    refine ⟨Grow.trans' hg hg2, ?_⟩
    unfold readDecL
    rw [if_neg (by omega), hv]
    simp only
    rw [if_pos hne]
    rfl
  · go_ret2
    refine ⟨hg, ?_⟩
    unfold readDecL
    rw [if_neg (by omega)]
    cases hp : Go.Lib.parseIntB 64 s.data.toList with
    | ok v => exact absurd hp (hv v)
    | _ => rfl
theorem readDec_den (a0 : List UInt8) (hp0 : a0.length ≤ 1048576) : Den Tryz.prog 30 [.str a0] (.tup [.int .i64 (readDecL a0).1, .bool (readDecL a0).2]) := by
  refine Den.plain ⟨_, Tryz.func30, rfl, rfl⟩ (by simp [NoOwnL, NoOwn]) ?_
  intro w M vs hI hr
  simp only [RepL] at hr
  obtain ⟨u0, us0, f0, g0, rfl, h0e, h0, rfl, _⟩ := hr
  have e0 := h0.val_str
  subst e0
  refine (readDec_walk ⟨a0.toArray⟩ w (by show a0.length ≤ _; omega) hI).mono ?_
  rintro e w' ⟨hg, rfl⟩
  refine ⟨_, rfl, hg, fun M' => ?_⟩
  simp only [Rep]
  exact ⟨_, rfl, by simp only [RepL]; exact ⟨_, [_], [], [], rfl, rfl, rep_int _ _, _, [], [], [], rfl, rfl, rep_bool _, rfl, rfl⟩⟩
end Go.Ab

namespace Go.Ab
open Go Go.Proofs
def spec_l01Digit (a0 : Int) : Bool :=
  (decide (48 ≤ a0) && decide (a0 ≤ 57))
namespace N122
theorem DD : DOk Tryz.prog (Go.Ab.DD []) := DD_nil _
theorem den (a0 : Int)  : Den Tryz.prog 122 [.int .u8 a0] (.bool (spec_l01Digit a0)) := by
  generalize hR : spec_l01Digit a0 = r
  unfold spec_l01Digit at hR
  refine di Tryz.func122 Tryz.ntmps122 Tryz.results122 ?_
  intro c hL hc hk
  clear hL
  simp only [pars, Nat.zero_add]
  iterate 2 refine rS ?_
  refine AWP.ret ?_
  subst hR
  exact es
end N122
def D_spec_l01Digit : DF
  | [x0] => some (.bool (spec_l01Digit (rdI x0)), false, [wI .u8 x0])
  | _ => none
theorem D_spec_l01Digit_ok : OkD Tryz.prog 122 D_spec_l01Digit := by unfold D_spec_l01Digit; exact dk N122.den
end Go.Ab

namespace Go.Ab
open Go Go.Proofs
def spec_l01Number_b1 (a0 : (List UInt8)) (i1 : Nat) (s1 : Int) : Except ((Int × Bool)) (Int) :=
  (bif (!(spec_l01Digit ((a0.getD i1 0).toNat : Int))) then .error (0, false) else .ok (IntKind.wrap .i64 ((IntKind.wrap .i64 (10 * s1)) + (IntKind.wrap .i64 (IntKind.wrap .u8 (((a0.getD i1 0).toNat : Int) - 48))))))
def spec_l01Number_b2 (a0 : (List UInt8)) (i2 : Nat) (s2 : Int) : Except ((Int × Bool)) (Int) :=
  (bif (!(spec_l01Digit ((a0.getD i2 0).toNat : Int))) then .error (0, false) else .ok (IntKind.wrap .i64 ((IntKind.wrap .i64 (10 * s2)) + (IntKind.wrap .i64 (IntKind.wrap .u8 (((a0.getD i2 0).toNat : Int) - 48))))))
def spec_l01Number (a0 : (List UInt8)) : (Int × Bool) :=
  (bif (decide (0 < (a0.length : Int)) && (((a0.getD 0 0).toNat : Int) == 45)) then (bif ((((a0.length : Int) == 1) || decide (18 < (IntKind.wrap .i64 ((a0.length : Int) - 1)))) || ((((a0.getD 1 0).toNat : Int) == 48) && decide (1 < (a0.length : Int)))) then (0, false) else (match loopR (spec_l01Number_b1 a0) (a0.length - 1) 1 0 with | .error e => e | .ok s1 => (IntKind.wrap .i64 (0 - s1), true))) else (bif ((((a0.length : Int) == 0) || decide (18 < (IntKind.wrap .i64 ((a0.length : Int) - 0)))) || ((((a0.getD 0 0).toNat : Int) == 48) && decide (1 < (a0.length : Int)))) then (0, false) else (match loopR (spec_l01Number_b2 a0) (a0.length - 0) 0 0 with | .error e => e | .ok s2 => (s2, true))))
namespace N82
theorem DD : DOk Tryz.prog (Go.Ab.DD [(122, dP D_spec_l01Digit)]) := DD_cons D_spec_l01Digit_ok.e <| DD_nil _
theorem dn : type_of% (@D_spec_l01Digit.eq_1) := by and_intros <;> intros <;> rfl
theorem den (a0 : (List UInt8)) (hp0 : a0.length ≤ 1048576) : Den Tryz.prog 82 [.str a0] (.tup [.int .i64 ((spec_l01Number a0).1), .bool ((spec_l01Number a0).2)]) := by
  generalize hR : spec_l01Number a0 = r
  unfold spec_l01Number at hR
  refine di Tryz.func82 Tryz.ntmps82 Tryz.results82 ?_
  intro c hL hc hk
  obtain ⟨hL0, _⟩ := hL
  have hw0 : a0.length < 9223372036854775808 := Nat.lt_succ_of_le hL0
  clear hL0
  simp only [pars, Nat.zero_add]
  iterate 3 refine rS ?_
  refine AWP.cond rfl (fun hb => ?_) (fun hb => ?_)
  · replace hR := ct hR
    iterate 2 refine rS ?_
    refine AWP.cond rfl (fun hb => ?_) (fun hb => ?_)
    · replace hR := ct hR
      refine rS ?_
      refine AWP.ret ?_
      subst hR
      exact es
    · replace hR := cf hR
      iterate 2 refine rS ?_
      refine AWP.block ?_
      generalize hz1 : loopR (spec_l01Number_b1 a0) (a0.length - 1) 1 0 = z1 at hR
      refine AWP.range (spec_l01Number_b1 a0) (fun i1 s1 => ⟨[(0, .str a0), (4, .int .i64 1), (5, .int .i64 s1), (6, .int .i64 (i1 : Int))], []⟩) (fun i1 s1 => 1 ≤ i1) (a0.length) 1 0 [] hz1 ot wt sm ?_
      clear hz1
      intro i1 s1 hi1 hW1 hz1
      refine rS ?_
      refine AWP.cond rfl (fun hb => ?_) (fun hb => ?_)
      · have hlt1 : i1 < a0.length := ot
        rw [loopR_lt hlt1] at hz1; simp only [spec_l01Number_b1] at hz1
        refine rS ?_
        refine AWP.cond rfl (fun hb => ?_) (fun hb => ?_)
        · simp only [hb, cond_true] at hz1
          refine rS ?_
          refine AWP.ret ?_
          subst hz1
          dsimp only at hR
          subst hR
          exact es
        · simp only [hb, cond_false] at hz1
          iterate 2 refine rS ?_
          exact ⟨_, [], hlt1, wt, hz1, sm⟩
      · obtain rfl : i1 = a0.length := ot
        rw [loopR_ge (Nat.le_refl _)] at hz1; subst hz1; dsimp only at hR
        refine AWP.exit ?_; refine exitTo_here ?_
        refine rS ?_
        refine AWP.cond rfl (fun hb => ?_) (fun hb => ?_)
        · refine rS ?_
          refine rS ?_
          refine AWP.ret ?_
          subst hR
          exact es
        · exfalso; simp at hb
  · replace hR := cf hR
    refine rS ?_
    refine AWP.cond rfl (fun hb => ?_) (fun hb => ?_)
    · replace hR := ct hR
      refine rS ?_
      refine AWP.ret ?_
      subst hR
      exact es
    · replace hR := cf hR
      iterate 2 refine rS ?_
      refine AWP.block ?_
      generalize hz2 : loopR (spec_l01Number_b2 a0) (a0.length - 0) 0 0 = z2 at hR
      refine AWP.range (spec_l01Number_b2 a0) (fun i2 s2 => ⟨[(0, .str a0), (4, .int .i64 0), (5, .int .i64 s2), (6, .int .i64 (i2 : Int))], []⟩) (fun i2 s2 => True) (a0.length) 0 0 [] hz2 ot wt sm ?_
      clear hz2
      intro i2 s2 hi2 hW2 hz2
      refine rS ?_
      refine AWP.cond rfl (fun hb => ?_) (fun hb => ?_)
      · have hlt2 : i2 < a0.length := ot
        rw [loopR_lt hlt2] at hz2; simp only [spec_l01Number_b2] at hz2
        refine rS ?_
        refine AWP.cond rfl (fun hb => ?_) (fun hb => ?_)
        · simp only [hb, cond_true] at hz2
          refine rS ?_
          refine AWP.ret ?_
          subst hz2
          dsimp only at hR
          subst hR
          exact es
        · simp only [hb, cond_false] at hz2
          iterate 2 refine rS ?_
          exact ⟨_, [], hlt2, wt, hz2, sm⟩
      · obtain rfl : i2 = a0.length := ot
        rw [loopR_ge (Nat.le_refl _)] at hz2; subst hz2; dsimp only at hR
        refine AWP.exit ?_; refine exitTo_here ?_
        refine rS ?_
        refine AWP.cond rfl (fun hb => ?_) (fun hb => ?_)
        · exfalso; simp at hb
        · refine rS ?_
          refine AWP.ret ?_
          subst hR
          exact es
end N82
def D_spec_l01Number : DF
  | [x0] => some (.tup [.int .i64 ((spec_l01Number (rdS x0)).1), .bool ((spec_l01Number (rdS x0)).2)], false, [wS x0, (rdS x0).length ≤ 1048576])
  | _ => none
theorem D_spec_l01Number_ok : OkD Tryz.prog 82 D_spec_l01Number := by unfold D_spec_l01Number; exact dk N82.den
end Go.Ab

namespace Go.Ab
open Go Go.Proofs
def E18 : Nat := 1000000000000000000
theorem itoa_pos (m : Nat) : Lib.itoa (m : Int) = Lib.decDigits m := by
  unfold Lib.itoa; rw [if_neg (by omega)]; simp
theorem itoa_nn {n : Int} (h : ¬ n < 0) : Lib.itoa n = Lib.decDigits n.natAbs := by
  unfold Lib.itoa; rw [if_neg h]; congr 1; omega
theorem itoa_neg' {n : Int} (h : n < 0) : Lib.itoa n = 45 :: Lib.decDigits n.natAbs := by
  unfold Lib.itoa; rw [if_pos h]
theorem not45 (m : Nat) : ∃ c t, Lib.decDigits m = c :: t ∧ c ≠ 45 := by
  obtain ⟨h1, h2, h3, h4⟩ := decDigits_all m
  obtain ⟨c, t, e⟩ := List.exists_cons_of_ne_nil h3
  refine ⟨c, t, e, fun h => ?_⟩
  have := h1 c (by rw [e]; simp)
  subst h
  simp at this
theorem itoa_inj {n n' : Int} (h : Lib.itoa n = Lib.itoa n') : n = n' := by
  have hd : ∀ m : Nat, digV 0 (Lib.decDigits m) = m := fun m => (decDigits_all m).2.1
  by_cases h1 : n < 0 <;> by_cases h2 : n' < 0
  · rw [itoa_neg' h1, itoa_neg' h2] at h
    have := congrArg (digV 0) (List.cons.inj h).2
    rw [hd, hd] at this
    omega
  · obtain ⟨c, t, e, hc⟩ := not45 n'.toNat
    rw [itoa_neg' h1, show n' = (n'.toNat : Int) by omega, itoa_pos, e] at h
    exact absurd (List.cons.inj h).1.symm hc
  · obtain ⟨c, t, e, hc⟩ := not45 n.toNat
    rw [itoa_neg' h2, show n = (n.toNat : Int) by omega, itoa_pos, e] at h
    exact absurd (List.cons.inj h).1 hc
  · rw [show n = (n.toNat : Int) by omega, show n' = (n'.toNat : Int) by omega, itoa_pos, itoa_pos] at h
    have := congrArg (digV 0) h
    rw [hd, hd] at this
    omega
theorem trim_itoa (n : Int) : (Lib.trimPrefix (Lib.itoa n) [45]).length = (Lib.decDigits n.natAbs).length := by
  by_cases h : n < 0
  · rw [itoa_neg' h]; simp [Lib.trimPrefix, Lib.hasPrefix]
  · obtain ⟨c, t, e, hc⟩ := not45 n.toNat
    rw [itoa_nn h]
    rw [show n.toNat = n.natAbs by omega] at e
    unfold Lib.trimPrefix Lib.hasPrefix
    rw [if_neg (by rw [e]; simp; exact fun h => hc h.symm)]
theorem parse_itoa (n : Int) (h1 : n.natAbs < E18) : Lib.parseIntB 64 (Lib.itoa n) = .ok n := by
  unfold E18 at h1
  obtain ⟨d1, d2, d3, d4⟩ := decDigits_all n.natAbs
  have hp : Lib.parseUintB 64 (Lib.decDigits n.natAbs) = .ok n.natAbs := by
    unfold Lib.parseUintB
    rw [if_neg d3, parseUintM_dig _ _ 0 d1 (by rw [d2]; omega) (by decide), d2]
  by_cases h : n < 0
  · rw [itoa_neg' h, Lib.parseIntB_minus, hp]
    show (if 2 ^ (64 - 1) < n.natAbs then _ else _) = _
    rw [if_neg (by omega)]
    congr 1; omega
  · obtain ⟨c, t, e, hc⟩ := not45 n.natAbs
    have e2 := itoa_nn h
    have hc1 := d1 c (by rw [e]; simp)
    rw [e2]
    rw [e] at hp ⊢
    rw [Lib.parseIntB_plain 64 c t (by omega) (by omega), hp]
    show (if 2 ^ (64 - 1) ≤ n.natAbs then _ else _) = _
    rw [if_neg (by omega)]
    congr 1; omega
def NumSpec (w : List UInt8) (r : Int × Bool) : Prop :=
  (∃ n : Int, n.natAbs < E18 ∧ w = Lib.itoa n ∧ r = (n, true)) ∨ ((∀ n : Int, n.natAbs < E18 → w ≠ Lib.itoa n) ∧ r = (0, false))
theorem NumSpec.unique {w : List UInt8} {r r' : Int × Bool} (h : NumSpec w r) (h' : NumSpec w r') : r = r' := by
  rcases h with ⟨n, h1, h2, rfl⟩ | ⟨h1, rfl⟩ <;> rcases h' with ⟨n', h1', h2', rfl⟩ | ⟨h1', rfl⟩
  · rw [itoa_inj (h2.symm.trans h2')]
  · exact absurd h2 (h1' n h1)
  · exact absurd h2' (h1 n' h1')
  · rfl
theorem readDec_spec (w : List UInt8) : NumSpec w (readDecL w) := by
  unfold readDecL
  by_cases h18 : 18 < (Lib.trimPrefix w [45]).length
  · rw [if_pos h18]
    refine .inr ⟨fun n hn e => ?_, rfl⟩
    subst e
    rw [trim_itoa] at h18
    have := (decDigits_len18 n.natAbs).2 hn
    omega
  · rw [if_neg h18]
    cases hp : Lib.parseIntB 64 w with
    | ok v =>
      simp only
      by_cases hv : Lib.itoa v = w
      · rw [if_pos hv]
        refine .inl ⟨v, ?_, hv.symm, rfl⟩
        subst hv
        rw [trim_itoa] at h18
        exact (decDigits_len18 v.natAbs).1 (by omega)
      · rw [if_neg hv]
        refine .inr ⟨fun n hn e => ?_, rfl⟩
        subst e
        rw [parse_itoa n hn] at hp
        cases hp
        exact hv rfl
    | _ => exact .inr ⟨fun n hn e => (by subst e; rw [parse_itoa n hn] at hp; cases hp), rfl⟩
theorem wid {n : Int} (h1 : -9223372036854775808 ≤ n) (h2 : n ≤ 9223372036854775807) : IntKind.wrap .i64 n = n := by
  rw [IntKind.wrap_i64]; omega
theorem digit_loop (a : List UInt8) (b : Nat → Int → Except (Int × Bool) Int) (hb : ∀ i s, b i s = (bif (!(decide (48 ≤ ((a.getD i 0).toNat : Int)) && decide (((a.getD i 0).toNat : Int) ≤ 57))) then .error (0, false) else .ok (IntKind.wrap .i64 ((IntKind.wrap .i64 (10 * s)) + (IntKind.wrap .i64 (IntKind.wrap .u8 (((a.getD i 0).toNat : Int) - 48))))))) :
    ∀ (k i n : Nat), i + k = a.length → (n + 1) * 10 ^ k ≤ E18 → loopR b k i (n : Int) = if allDig (a.drop i) then .ok ((digV n (a.drop i) : Nat) : Int) else .error (0, false)
  | 0, i, n, h, hn => by
    rw [List.drop_eq_nil_of_le (by omega), digV_nil, if_pos (by intro b hb; simp at hb)]
    rfl
  | k + 1, i, n, h, hn => by
    have hlt : i < a.length := by omega
    have hg : a.getD i 0 = a[i] := by simp [List.getD, List.getElem?_eq_getElem hlt]
    rw [List.drop_eq_getElem_cons hlt, digV_cons]
    simp only [loopR, hb, hg]
    have h10 : (n + 1) * 10 ^ (k + 1) = ((n + 1) * 10) * 10 ^ k := by rw [Nat.pow_succ, Nat.mul_assoc, Nat.mul_comm 10]
    have hone : 1 ≤ 10 ^ k := Nat.one_le_pow _ _ (by decide)
    have hbig : (n + 1) * 10 * 1 ≤ (n + 1) * 10 * 10 ^ k := Nat.mul_le_mul_left _ hone
    unfold E18 at hn
    by_cases hd : 48 ≤ a[i].toNat ∧ a[i].toNat ≤ 57
    · have e : (!(decide (48 ≤ ((a[i]).toNat : Int)) && decide (((a[i]).toNat : Int) ≤ 57))) = false := by simp; omega
      rw [e, cond_false]
      have hw : IntKind.wrap .i64 ((IntKind.wrap .i64 (10 * (n : Int))) + (IntKind.wrap .i64 (IntKind.wrap .u8 (((a[i]).toNat : Int) - 48)))) = ((10 * n + (a[i].toNat - 48) : Nat) : Int) := by
        rw [wid (n := 10 * (n : Int)) (by omega) (by omega), IntKind.wrap_u8, Int.emod_eq_of_lt (by omega) (by omega), wid (n := ((a[i]).toNat : Int) - 48) (by omega) (by omega), wid (by omega) (by omega)]
        omega
      rw [hw]
      simp only
      have hm : (10 * n + (a[i].toNat - 48) + 1) * 10 ^ k ≤ (n + 1) * 10 * 10 ^ k := Nat.mul_le_mul_right _ (by omega)
      rw [digit_loop a b hb k (i + 1) _ (by omega) (by unfold E18; omega)]
      have hiff : allDig (a[i] :: a.drop (i + 1)) ↔ allDig (a.drop (i + 1)) := ⟨fun h b hb => h b (List.mem_cons_of_mem _ hb), fun h b hb => by
        rcases List.mem_cons.1 hb with rfl | hb
        · exact hd
        · exact h b hb⟩
      by_cases hA : allDig (a.drop (i + 1))
      · rw [if_pos hA, if_pos (hiff.2 hA)]
      · rw [if_neg hA, if_neg (fun h => hA (hiff.1 h))]
    · have e : (!(decide (48 ≤ ((a[i]).toNat : Int)) && decide (((a[i]).toNat : Int) ≤ 57))) = true := by
        simp; omega
      rw [e, cond_true]
      simp only
      rw [if_neg (fun h => hd (h a[i] List.mem_cons_self))]
theorem drop_one {a : List UInt8} (h : 0 < a.length) : a = a.getD 0 0 :: a.drop 1 := by
  obtain ⟨c, t, rfl⟩ := List.exists_cons_of_length_pos h
  simp
theorem l01Number_spec (w : List UInt8) (hw : w.length ≤ 1048576) : NumSpec w (spec_l01Number w) := by
  unfold spec_l01Number
  by_cases hneg : 0 < w.length ∧ w.getD 0 0 = 45
  · have e0 : (decide (0 < (w.length : Int)) && (((w.getD 0 0).toNat : Int) == 45)) = true := by rw [hneg.2]; simp; omega
    rw [e0, cond_true]
    have hd1 := drop_one hneg.1
    rw [hneg.2] at hd1
    generalize hr : w.drop 1 = r at hd1
    have hlen : w.length = r.length + 1 := by rw [hd1]; simp
    have hg1 : w.getD 1 0 = r.getD 0 0 := by rw [hd1]; simp
    have hno : (∀ m : Nat, m < E18 → 1 ≤ m → r ≠ Lib.decDigits m) → ∀ n : Int, n.natAbs < E18 → w ≠ Lib.itoa n := by
      intro h n hn e
      by_cases hn0 : n < 0
      · rw [itoa_neg' hn0, hd1] at e
        exact h n.natAbs hn (by omega) (List.cons.inj e).2
      · obtain ⟨c, t, e3, hc⟩ := not45 n.natAbs
        rw [itoa_nn hn0, e3, hd1] at e
        exact hc (List.cons.inj e).1.symm
    by_cases hbad : r = [] ∨ 18 < r.length ∨ r.getD 0 0 = 48
    · have e1 : ((((w.length : Int) == 1) || decide (18 < (IntKind.wrap .i64 ((w.length : Int) - 1)))) || ((((w.getD 1 0).toNat : Int) == 48) && decide (1 < (w.length : Int)))) = true := by
        rw [IntKind.wrap_i64, hg1, hlen]
        rcases hbad with h | h | h
        · subst h; simp
        · simp; left; right; omega
        · by_cases hr0 : r = []
          · subst hr0; simp
          · have : 0 < r.length := List.length_pos_iff.2 hr0
            rw [h]; simp; right; omega
      rw [e1, cond_true]
      refine .inr ⟨hno fun m hm h1 e => ?_, rfl⟩
      obtain ⟨d1, d2, d3, d4⟩ := decDigits_all m
      rcases hbad with h | h | h
      · rw [h] at e; exact d3 e.symm
      · rw [e] at h; have := (decDigits_len18 m).2 hm; omega
      · rw [e] at h; exact d4 h1 h
    · have hb1 : r ≠ [] := fun h => hbad (.inl h)
      have hb2 : r.length ≤ 18 := by
        by_cases h : r.length ≤ 18
        · exact h
        · exact absurd (.inr (.inl (by omega))) hbad
      have hb3 : r.getD 0 0 ≠ 48 := fun h => hbad (.inr (.inr h))
      have hrp : 0 < r.length := List.length_pos_iff.2 hb1
      have hn48 : ¬ (r.getD 0 0).toNat = 48 := fun h => hb3 (UInt8.toNat_inj.1 (by rw [h]; rfl))
      have e1 : ((((w.length : Int) == 1) || decide (18 < (IntKind.wrap .i64 ((w.length : Int) - 1)))) || ((((w.getD 1 0).toNat : Int) == 48) && decide (1 < (w.length : Int)))) = false := by
        rw [IntKind.wrap_i64, hg1, hlen]
        simp only [Bool.or_eq_false_iff, Bool.and_eq_false_iff, beq_eq_false_iff_ne, decide_eq_false_iff_not]
        refine ⟨⟨by omega, by omega⟩, .inl (by omega)⟩
      rw [e1, cond_false]
      have hpow : (0 + 1) * 10 ^ (w.length - 1) ≤ E18 := by
        have : 10 ^ (w.length - 1) ≤ 10 ^ 18 := Nat.pow_le_pow_right (by decide) (by omega)
        have h6 : (10 : Nat) ^ 18 = 1000000000000000000 := by decide
        unfold E18; omega
      have hL := digit_loop w (spec_l01Number_b1 w) (fun i s => rfl) (w.length - 1) 1 0 (by omega) hpow
      rw [hr] at hL
      rw [show (0 : Int) = ((0 : Nat) : Int) from rfl, hL]
      by_cases hA : allDig r
      · rw [if_pos hA]
        have hlt := digV_lt r 0 hA
        have hp2 : 10 ^ r.length ≤ 10 ^ 18 := Nat.pow_le_pow_right (by decide) hb2
        have h6 : (10 : Nat) ^ 18 = 1000000000000000000 := by decide
        have hdv := dec_of_digV r.length r rfl hA hb1 (.inl hb3)
        have hv1 : 1 ≤ digV 0 r := by
          obtain ⟨c, t, e⟩ := List.exists_cons_of_ne_nil hb1
          have h5 := digV_ge t (10 * 0 + (c.toNat - 48))
          have hc := hA c (by rw [e]; simp)
          have hcn : c.toNat ≠ 48 := by rw [e] at hn48; simpa using hn48
          have h7 : 1 ≤ 10 ^ t.length := Nat.one_le_pow _ _ (by decide)
          have h8 : 1 * 1 ≤ (10 * 0 + (c.toNat - 48)) * 10 ^ t.length := Nat.mul_le_mul (by omega) h7
          rw [e, digV_cons]; omega
        simp only
        have hwr : IntKind.wrap .i64 (((0 : Nat) : Int) - ((digV 0 r : Nat) : Int)) = -((digV 0 r : Nat) : Int) := by rw [IntKind.wrap_i64]; omega
        rw [hwr]
        refine .inl ⟨-((digV 0 r : Nat) : Int), by unfold E18; omega, ?_, rfl⟩
        rw [itoa_neg' (by omega), show (-((digV 0 r : Nat) : Int)).natAbs = digV 0 r by omega, hdv]
        exact hd1
      · rw [if_neg hA]
        refine .inr ⟨hno fun m hm h1 e => hA (by rw [e]; exact (decDigits_all m).1), rfl⟩
  · have e0 : (decide (0 < (w.length : Int)) && (((w.getD 0 0).toNat : Int) == 45)) = false := by
      simp only [Bool.and_eq_false_iff, beq_eq_false_iff_ne, decide_eq_false_iff_not]
      by_cases h : 0 < w.length
      · right
        intro h2
        exact hneg ⟨h, UInt8.toNat_inj.1 (by show _ = 45; omega)⟩
      · left; omega
    rw [e0, cond_false]
    have hno : (∀ m : Nat, m < E18 → w ≠ Lib.decDigits m) → ∀ n : Int, n.natAbs < E18 → w ≠ Lib.itoa n := by
      intro h n hn e
      by_cases hn0 : n < 0
      · rw [itoa_neg' hn0] at e
        exact hneg ⟨by rw [e]; simp, by rw [e]; simp⟩
      · rw [itoa_nn hn0] at e
        exact h n.natAbs hn e
    by_cases hbad : w = [] ∨ 18 < w.length ∨ (w.getD 0 0 = 48 ∧ 1 < w.length)
    · have e1 : ((((w.length : Int) == 0) || decide (18 < (IntKind.wrap .i64 ((w.length : Int) - 0)))) || ((((w.getD 0 0).toNat : Int) == 48) && decide (1 < (w.length : Int)))) = true := by
        rw [IntKind.wrap_i64]
        rcases hbad with h | h | h
        · subst h; simp
        · simp; left; right; omega
        · rw [h.1]; simp; right; omega
      rw [e1, cond_true]
      refine .inr ⟨hno fun m hm e => ?_, rfl⟩
      obtain ⟨d1, d2, d3, d4⟩ := decDigits_all m
      rcases hbad with h | h | h
      · rw [h] at e; exact d3 e.symm
      · rw [e] at h; have := (decDigits_len18 m).2 hm; omega
      · rw [e] at h
        by_cases hm0 : 1 ≤ m
        · exact d4 hm0 h.1
        · obtain rfl : m = 0 := by omega
          rw [Lib.decDigits_one (by decide)] at h
          simp at h
    · have hb1 : w ≠ [] := fun h => hbad (.inl h)
      have hb2 : w.length ≤ 18 := by
        by_cases h : w.length ≤ 18
        · exact h
        · exact absurd (.inr (.inl (by omega))) hbad
      have hrp : 0 < w.length := List.length_pos_iff.2 hb1
      have hb3 : w.getD 0 0 ≠ 48 ∨ w.length = 1 := by
        by_cases h : w.getD 0 0 = 48
        · right
          by_cases h1 : 1 < w.length
          · exact absurd (.inr (.inr ⟨h, h1⟩)) hbad
          · omega
        · exact .inl h
      have e1 : ((((w.length : Int) == 0) || decide (18 < (IntKind.wrap .i64 ((w.length : Int) - 0)))) || ((((w.getD 0 0).toNat : Int) == 48) && decide (1 < (w.length : Int)))) = false := by
        rw [IntKind.wrap_i64]
        simp only [Bool.or_eq_false_iff, Bool.and_eq_false_iff, beq_eq_false_iff_ne, decide_eq_false_iff_not]
        refine ⟨⟨by omega, by omega⟩, ?_⟩
        rcases hb3 with h | h
        · left
          intro h2
          exact h (UInt8.toNat_inj.1 (by show _ = 48; omega))
        · right; omega
      rw [e1, cond_false]
      have hpow : (0 + 1) * 10 ^ (w.length - 0) ≤ E18 := by
        have : 10 ^ (w.length - 0) ≤ 10 ^ 18 := Nat.pow_le_pow_right (by decide) (by omega)
        have h6 : (10 : Nat) ^ 18 = 1000000000000000000 := by decide
        unfold E18; omega
      have hL := digit_loop w (spec_l01Number_b2 w) (fun i s => rfl) (w.length - 0) 0 0 (by omega) hpow
      rw [List.drop_zero] at hL
      rw [show (0 : Int) = ((0 : Nat) : Int) from rfl, hL]
      by_cases hA : allDig w
      · rw [if_pos hA]
        have hlt := digV_lt w 0 hA
        have hp2 : 10 ^ w.length ≤ 10 ^ 18 := Nat.pow_le_pow_right (by decide) hb2
        have h6 : (10 : Nat) ^ 18 = 1000000000000000000 := by decide
        have hdv := dec_of_digV w.length w rfl hA hb1 hb3
        refine .inl ⟨((digV 0 w : Nat) : Int), by unfold E18; omega, ?_, rfl⟩
        rw [itoa_pos, hdv]
      · rw [if_neg hA]
        refine .inr ⟨hno fun m hm e => hA (by rw [e]; exact (decDigits_all m).1), rfl⟩
theorem number_eq (w : List UInt8) (hw : w.length ≤ 1048576) : readDecL w = spec_l01Number w := (readDec_spec w).unique (l01Number_spec w hw)
end Go.Ab

namespace Go.Ab
open Go Go.Proofs
theorem strconv_FormatInt_DD : DOk Tryz.prog (DD []) := DD_nil _
def strconv_FormatInt (a0 : Int) (a1 : Int) : (List UInt8) := Go.Lib.itoa a0
theorem strconv_FormatInt_den (a0 : Int) (a1 : Int) (hp0 : a1 = 10) (hp1 : -9223372036854775808 ≤ a0) (hp2 : a0 ≤ 9223372036854775807) : Den Tryz.prog 71 [.int .i64 a0, .int .i64 a1] (.str (strconv_FormatInt a0 a1)) := by
  subst hp0
  refine Den.plain ⟨_, Tryz.func71, rfl, rfl⟩ (by simp [NoOwnL, NoOwn]) ?_
  intro w M vs hI hr
  simp only [RepL] at hr
  obtain ⟨u0, us0, f0, g0, rfl, h0e, h0, u1, us1, f1, g1, rfl, h1e, h1, rfl, _⟩ := hr
  have e0 := h0.val_int
  have e1 := h1.val_int
  subst e0 e1
  refine (Any.strconv_FormatInt_10 Tryz.laysM173 a0 hp1 hp2 w hI.1.1).mono ?_
  rintro e w' ⟨rfl, k, os, rfl⟩
  exact ⟨_, rfl, grow_drewN w k os, fun M' => rep_str _ (itoa_len hp1 hp2)⟩
def D_strconv_FormatInt : DF
  | [x0, x1] => some (.str (strconv_FormatInt (rdI x0) (rdI x1)), false, [wI .i64 x0, wI .i64 x1, (rdI x1) = 10, -9223372036854775808 ≤ (rdI x0), (rdI x0) ≤ 9223372036854775807])
  | _ => none
theorem D_strconv_FormatInt_ok : OkD Tryz.prog 71 D_strconv_FormatInt := by
  intro xs r z ob h ho
  unfold D_strconv_FormatInt at h
  split at h
  · simp only [Option.some.injEq, Prod.mk.injEq] at h
    obtain ⟨rfl, rfl, rfl⟩ := h
    obtain ⟨h0, h1, hp0, hp1, hp2, _⟩ := ho
    exact Den.sim (strconv_FormatInt_den _ _ hp0 hp1 hp2) (simOL_cons (wI_sim h0).1 <| simOL_cons (wI_sim h1).1 <| trivial) (noIdL_cons (wI_sim h0).2 <| noIdL_cons (wI_sim h1).2 <| rfl) rfl
  · cases h
end Go.Ab

namespace Go.Ab
open Go Go.Proofs
def impl_Decimal (a0 : Int) : (List UInt8) :=
  (strconv_FormatInt a0 10)
namespace N33
theorem DD : DOk Tryz.prog (Go.Ab.DD [(71, dP D_strconv_FormatInt)]) := DD_cons D_strconv_FormatInt_ok.e <| DD_nil _
theorem dn : type_of% (@D_strconv_FormatInt.eq_1) := by and_intros <;> intros <;> rfl
theorem den (a0 : Int) (hp0 : -9223372036854775808 ≤ a0) (hp1 : a0 ≤ 9223372036854775807) : Den Tryz.prog 33 [.int .i64 a0] (.str (impl_Decimal a0)) := by
  generalize hR : impl_Decimal a0 = r
  unfold impl_Decimal at hR
  refine di Tryz.func33 Tryz.ntmps33 Tryz.results33 ?_
  intro c hL hc hk
  clear hL
  simp only [pars, Nat.zero_add]
  iterate 2 refine rS ?_
  refine AWP.ret ?_
  subst hR
  exact es
end N33
def D_impl_Decimal : DF
  | [x0] => some (.str (impl_Decimal (rdI x0)), false, [wI .i64 x0, -9223372036854775808 ≤ (rdI x0), (rdI x0) ≤ 9223372036854775807])
  | _ => none
theorem D_impl_Decimal_ok : OkD Tryz.prog 33 D_impl_Decimal := by unfold D_impl_Decimal; exact dk N33.den
end Go.Ab

namespace Go.Ab
open Go Go.Proofs
theorem itoa_len2 (n : Int) : (Go.Lib.itoa n).length ≤ n.natAbs + 2 := by
  unfold Go.Lib.itoa
  split
  · have := decDigits_len n.natAbs
    simp only [List.length_cons]
    omega
  · have := decDigits_len n.toNat
    omega
theorem impl_Decimal_eq (n : Int) : impl_Decimal n = Go.Lib.itoa n := rfl
theorem impl_Decimal_len (n : Int) : (impl_Decimal n).length ≤ n.natAbs + 2 := itoa_len2 n
end Go.Ab

namespace Go.Ab
open Go Go.Proofs
theorem itoa_len20 (n : Int) (h1 : -9223372036854775808 ≤ n) (h2 : n ≤ 9223372036854775807) : (Lib.itoa n).length ≤ 20 := by
  have h3 : (Lib.decDigits n.natAbs).length ≤ 19 := by
    by_cases h : n.natAbs < 10
    · have := (decDigits_len18 n.natAbs).2 (by omega); omega
    · rw [decDigits_snoc _ h, List.length_append, List.length_singleton]
      have := (decDigits_len18 (n.natAbs / 10)).2 (by omega); omega
  by_cases h : n < 0
  · rw [itoa_neg' h, List.length_cons]; omega
  · rw [itoa_nn h]; omega
theorem dec_len20 (n : Int) (h1 : -9223372036854775808 ≤ n) (h2 : n ≤ 9223372036854775807) : (impl_Decimal n).length ≤ 20 := itoa_len20 n h1 h2
theorem dec_len20w (n : Int) : (impl_Decimal (IntKind.wrap .i64 n)).length ≤ 20 := dec_len20 _ (by rw [IntKind.wrap_i64]; omega) (by rw [IntKind.wrap_i64]; omega)
theorem tmod_rng (n : Int) : -10 < n.tmod 10 ∧ n.tmod 10 < 10 := ⟨by have := Int.lt_tmod_of_pos n (b := 10) (by omega); omega, Int.tmod_lt_of_pos n (by omega)⟩
theorem join_len (s : List UInt8) : ∀ (xs : List (List UInt8)) (m : Nat), (∀ x ∈ xs, x.length ≤ m) → (Lib.join xs s).length ≤ xs.length * (m + s.length)
  | [], m, _ => by simp [Lib.join_nil]
  | x :: r, m, h => by
    rw [Lib.join_cons, List.length_append]
    have h1 := h x (by simp)
    have h2 : ∀ r : List (List UInt8), (∀ x ∈ r, x.length ≤ m) → (Lib.joinTail s r).length ≤ r.length * (m + s.length) := by
      intro r
      induction r with
      | nil => intro _; simp [Lib.joinTail]
      | cons y r ih =>
        intro h
        have h3 := ih (fun z hz => h z (by simp [hz]))
        have h4 := h y (by simp)
        unfold Lib.joinTail at h3 ⊢
        simp only [List.map_cons, List.flatten_cons, List.length_append, List.length_cons]
        rw [Nat.add_mul]
        omega
    have h3 := h2 r (fun z hz => h z (by simp [hz]))
    rw [List.length_cons, Nat.add_mul]
    omega
theorem getD_le {l : List Int} (h : ∀ v ∈ l, v ≤ 9) (i : Nat) : l.getD i default ≤ 9 := by
  rw [List.getD_eq_getElem?_getD]
  cases hg : l[i]? with
  | none => show (0 : Int) ≤ 9; omega
  | some x => have := h x (List.mem_of_getElem? hg); simpa only [Option.getD_some]
theorem getD_rng {l : List Int} (h : ∀ v ∈ l, 1 ≤ v ∧ v ≤ 9) (i : Nat) : 0 ≤ l.getD i default ∧ l.getD i default ≤ 9 := by
  rw [List.getD_eq_getElem?_getD]
  cases hg : l[i]? with
  | none => show (0 : Int) ≤ 0 ∧ (0 : Int) ≤ 9; omega
  | some x => have := h x (List.mem_of_getElem? hg); simp only [Option.getD_some]; omega
end Go.Ab

namespace Go.Ab
open Go
theorem app2_get (s : List Int) (a b : Int) (i : Nat) (hi : i < s.length + 2) : (bif i.blt s.length then [AV.int .i64 (s.getD i default)] else borrowL (elt [[AV.int .i64 a], [AV.int .i64 b]] (i - s.length))) = [AV.int .i64 ((s ++ [a, b]).getD i default)] := by
  by_cases h : i < s.length
  · have : i.blt s.length = true := by rw [Nat.blt_eq]; exact h
    rw [this]
    simp [List.getD_eq_getElem?_getD, List.getElem?_append_left h]
  · have : i.blt s.length = false := by rw [← Bool.not_eq_true, Nat.blt_eq]; exact h
    rw [this]
    rcases (show i = s.length ∨ i = s.length + 1 by omega) with h1 | h1
    · subst h1
      simp [elt, borrowL, borrow, List.getD_eq_getElem?_getD]
    · subst h1
      simp [elt, borrowL, borrow, List.getD_eq_getElem?_getD]
theorem app1_get (s : List Int) (a : Int) (i : Nat) (hi : i < s.length + 1) : (bif i.blt s.length then [AV.int .i64 (s.getD i default)] else borrowL (elt [[AV.int .i64 a]] (i - s.length))) = [AV.int .i64 ((s ++ [a]).getD i default)] := by
  by_cases h : i < s.length
  · have : i.blt s.length = true := by rw [Nat.blt_eq]; exact h
    rw [this]
    simp [List.getD_eq_getElem?_getD, List.getElem?_append_left h]
  · have : i.blt s.length = false := by rw [← Bool.not_eq_true, Nat.blt_eq]; exact h
    rw [this]
    have h1 : i = s.length := by omega
    subst h1
    simp [elt, borrowL, borrow, List.getD_eq_getElem?_getD]
theorem app11_get (s : List Int) (a b : Int) (i : Nat) (hi : i < s.length + 1 + 1) : (bif i.blt (s.length + 1) then bif i.blt s.length then [AV.int .i64 (s.getD i default)] else borrowL (elt [[AV.int .i64 a]] (i - s.length)) else borrowL (elt [[AV.int .i64 b]] (i - (s.length + 1)))) = [AV.int .i64 ((s ++ [a] ++ [b]).getD i default)] := by
  by_cases h : i < s.length + 1
  · have : i.blt (s.length + 1) = true := by rw [Nat.blt_eq]; exact h
    rw [this, cond_true]
    refine (app1_get s a i h).trans ?_
    rw [List.getD_eq_getElem?_getD, List.getD_eq_getElem?_getD, List.getElem?_append_left (l₁ := s ++ [a]) (l₂ := [b]) (by simpa using h)]
  · have : i.blt (s.length + 1) = false := by rw [← Bool.not_eq_true, Nat.blt_eq]; exact h
    rw [this]
    have h1 : i = s.length + 1 := by omega
    subst h1
    simp [elt, borrowL, borrow, List.getD_eq_getElem?_getD]
theorem app2_pure (s : List Int) (a b : Int) (i : Nat) (hi : i < s.length + 2) : (i.blt s.length || pureL (borrowL (elt [[AV.int .i64 a], [AV.int .i64 b]] (i - s.length)))) = true := by
  by_cases h : i < s.length
  · have : i.blt s.length = true := by rw [Nat.blt_eq]; exact h
    rw [this]; rfl
  · rcases (show i - s.length = 0 ∨ i - s.length = 1 by omega) with h1 | h1 <;> rw [h1] <;> simp [elt, borrowL, borrow, pureL, pureV]
end Go.Ab
