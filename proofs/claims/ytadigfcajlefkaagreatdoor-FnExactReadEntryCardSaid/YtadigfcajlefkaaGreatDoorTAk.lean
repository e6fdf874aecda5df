/- A part of a proof: walks of functions and lemmas of our own. No conditions. -/
import Derived.Lib.ParseIntBTie
import Derived.Lib.ItoaNum
import Derived.Lib.Strings
set_option linter.unusedSectionVars false
set_option linter.unusedVariables false
set_option linter.unusedSimpArgs false
namespace Go.Ab
open Go
def allDig (l : List UInt8) : Prop := ∀ b ∈ l, 48 ≤ b.toNat ∧ b.toNat ≤ 57
instance (l : List UInt8) : Decidable (allDig l) := by unfold allDig; infer_instance
def digV (n : Nat) (l : List UInt8) : Nat := l.foldl (fun k b => 10 * k + (b.toNat - 48)) n
theorem digV_nil (n : Nat) : digV n [] = n := List.foldl_nil
theorem digV_cons (n : Nat) (c : UInt8) (l : List UInt8) : digV n (c :: l) = digV (10 * n + (c.toNat - 48)) l := List.foldl_cons ..
theorem digV_snoc (b : UInt8) (l : List UInt8) (n : Nat) : digV n (l ++ [b]) = 10 * digV n l + (b.toNat - 48) := by
  unfold digV
  rw [List.foldl_append, List.foldl_cons, List.foldl_nil]
theorem digV_lt (l : List UInt8) : ∀ (n : Nat), allDig l → digV n l < (n + 1) * 10 ^ l.length := by
  induction l with
  | nil => intro n _; rw [digV_nil, List.length_nil, Nat.pow_zero]; omega
  | cons c l ih =>
    intro n h
    have hc := h c (by simp)
    have h1 := ih (10 * n + (c.toNat - 48)) (fun b hb => h b (by simp [hb]))
    rw [digV_cons, List.length_cons, Nat.pow_succ]
    have h2 : (10 * n + (c.toNat - 48) + 1) * 10 ^ l.length ≤ ((n + 1) * 10) * 10 ^ l.length := Nat.mul_le_mul_right _ (by omega)
    have h3 : ((n + 1) * 10) * 10 ^ l.length = (n + 1) * (10 ^ l.length * 10) := by rw [Nat.mul_assoc, Nat.mul_comm 10]
    omega
theorem digV_ge (l : List UInt8) : ∀ (n : Nat), n * 10 ^ l.length ≤ digV n l := by
  induction l with
  | nil => intro n; rw [digV_nil, List.length_nil, Nat.pow_zero]; omega
  | cons c l ih =>
    intro n
    have h1 := ih (10 * n + (c.toNat - 48))
    rw [digV_cons, List.length_cons, Nat.pow_succ]
    have h2 : (n * 10) * 10 ^ l.length ≤ (10 * n + (c.toNat - 48)) * 10 ^ l.length := Nat.mul_le_mul_right _ (by omega)
    have h3 : (n * 10) * 10 ^ l.length = n * (10 ^ l.length * 10) := by rw [Nat.mul_assoc, Nat.mul_comm 10]
    omega
theorem u8_of {b : UInt8} (h1 : 48 ≤ b.toNat) (h2 : b.toNat ≤ 57) : UInt8.ofNat (48 + (b.toNat - 48)) = b := by
  apply UInt8.toNat_inj.1
  rw [UInt8.toNat_ofNat']
  omega
theorem decDigits_snoc (m : Nat) (h : ¬ m < 10) : Lib.decDigits m = Lib.decDigits (m / 10) ++ [UInt8.ofNat (48 + m % 10)] := by
  rw [Lib.decDigits, dif_neg h]
theorem dec_of_digV : ∀ (n : Nat) (l : List UInt8), l.length = n → allDig l → l ≠ [] → (l.getD 0 0 ≠ 48 ∨ l.length = 1) → Lib.decDigits (digV 0 l) = l := by
  intro n
  induction n using Nat.strongRecOn with
  | ind n ih =>
    intro l hl hd hne hh
    rcases List.eq_nil_or_concat l with rfl | ⟨r, b, he⟩
    · exact absurd rfl hne
    · rw [List.concat_eq_append] at he
      subst he
      have hb := hd b (by simp)
      have hdr : allDig r := fun c hc => hd c (by simp [hc])
      rw [digV_snoc]
      by_cases hr : r = []
      · subst hr
        simp only [digV_nil, Nat.mul_zero, Nat.zero_add, List.nil_append]
        rw [Lib.decDigits_one (by omega), u8_of hb.1 hb.2]
      · obtain ⟨c, t, rfl⟩ := List.exists_cons_of_ne_nil hr
        have hc := hdr c (by simp)
        have hne48 : c ≠ 48 := by
          rcases hh with h | h
          · simpa using h
          · simp at h
        have hc1 : 49 ≤ c.toNat := by
          have : c.toNat ≠ 48 := fun e => hne48 (UInt8.toNat_inj.1 (by rw [e]; rfl))
          omega
        have hpos : 1 ≤ digV 0 (c :: t) := by
          have h1 := digV_ge t (10 * 0 + (c.toNat - 48))
          have h2 : 1 ≤ 10 ^ t.length := Nat.one_le_pow _ _ (by decide)
          have h3 : 1 * 1 ≤ (10 * 0 + (c.toNat - 48)) * 10 ^ t.length := Nat.mul_le_mul (by omega) h2
          rw [digV_cons]
          omega
        have hI := ih (c :: t).length (by simp at hl ⊢; omega) (c :: t) rfl hdr (by simp) (.inl (by simpa using hne48))
        rw [decDigits_snoc _ (by omega), show (10 * digV 0 (c :: t) + (b.toNat - 48)) / 10 = digV 0 (c :: t) by omega, hI, show (10 * digV 0 (c :: t) + (b.toNat - 48)) % 10 = b.toNat - 48 by omega, u8_of hb.1 hb.2]
theorem u8_dig (d : Nat) (h : d < 10) : (UInt8.ofNat (48 + d)).toNat = 48 + d := by
  rw [UInt8.toNat_ofNat']; omega
theorem decDigits_all (m : Nat) : allDig (Lib.decDigits m) ∧ digV 0 (Lib.decDigits m) = m ∧ Lib.decDigits m ≠ [] ∧ (1 ≤ m → (Lib.decDigits m).getD 0 0 ≠ 48) := by
  induction m using Nat.strongRecOn with
  | ind m ih =>
    by_cases h : m < 10
    · rw [Lib.decDigits_one h]
      refine ⟨fun b hb => ?_, ?_, by simp, fun h1 => ?_⟩
      · simp only [List.mem_singleton] at hb
        subst hb
        rw [u8_dig m h]; omega
      · rw [digV_cons, digV_nil, u8_dig m h]; omega
      · intro e
        have e2 : (UInt8.ofNat (48 + m)).toNat = 48 := by
          have : (UInt8.ofNat (48 + m)) = 48 := by simpa using e
          rw [this]; rfl
        rw [u8_dig m h] at e2
        omega
    · obtain ⟨i1, i2, i3, i4⟩ := ih (m / 10) (by omega)
      rw [decDigits_snoc m h]
      refine ⟨fun b hb => ?_, ?_, by simp, fun _ => ?_⟩
      · rcases List.mem_append.1 hb with hb | hb
        · exact i1 b hb
        · simp only [List.mem_singleton] at hb
          subst hb
          rw [u8_dig _ (by omega)]; omega
      · rw [digV_snoc, i2, u8_dig _ (by omega)]; omega
      · obtain ⟨c, t, e⟩ := List.exists_cons_of_ne_nil i3
        have := i4 (by omega)
        rw [e] at this ⊢
        simpa using this
theorem decDigits_len18 (m : Nat) : (Lib.decDigits m).length ≤ 18 ↔ m < 1000000000000000000 := by
  obtain ⟨h1, h2, h3, h4⟩ := decDigits_all m
  constructor
  · intro h
    have := digV_lt (Lib.decDigits m) 0 h1
    rw [h2] at this
    have h5 : 10 ^ (Lib.decDigits m).length ≤ 10 ^ 18 := Nat.pow_le_pow_right (by decide) h
    have h6 : (10 : Nat) ^ 18 = 1000000000000000000 := by decide
    omega
  · intro h
    by_cases hl : (Lib.decDigits m).length ≤ 18
    · exact hl
    · exfalso
      obtain ⟨c, t, e⟩ := List.exists_cons_of_ne_nil h3
      have hm : 1 ≤ m := by
        by_cases h0 : m = 0
        · subst h0; rw [Lib.decDigits_one (by decide)] at hl; simp at hl
        · omega
      have h48 := h4 hm
      rw [e] at h48 h1 h2 hl
      have hc := h1 c (by simp)
      have hc1 : 49 ≤ c.toNat := by
        have : c.toNat ≠ 48 := fun e2 => h48 (by
          have : c = 48 := UInt8.toNat_inj.1 (by rw [e2]; rfl)
          simp [this])
        omega
      have h5 := digV_ge t (10 * 0 + (c.toNat - 48))
      have h6 : digV 0 (c :: t) = digV (10 * 0 + (c.toNat - 48)) t := digV_cons ..
      have h7 : 10 ^ 18 ≤ 10 ^ t.length := Nat.pow_le_pow_right (by decide) (by simp at hl; omega)
      have h8 : (10 : Nat) ^ 18 = 1000000000000000000 := by decide
      have h9 : 1 * 10 ^ t.length ≤ (10 * 0 + (c.toNat - 48)) * 10 ^ t.length := Nat.mul_le_mul_right _ (by omega)
      omega
theorem parseUintM_dig (M : Nat) (l : List UInt8) : ∀ (n : Nat), allDig l → digV n l ≤ M → M < 18446744073709551616 → Lib.parseUintM M n l = .ok (digV n l) := by
  induction l with
  | nil => intro n _ _ _; rw [digV_nil, Lib.parseUintM]
  | cons c l ih =>
    intro n h hM h64
    have hc := h c (by simp)
    have h1 := digV_ge l (10 * n + (c.toNat - 48))
    have h2 : 1 ≤ 10 ^ l.length := Nat.one_le_pow _ _ (by decide)
    have h3 : (10 * n + (c.toNat - 48)) * 1 ≤ (10 * n + (c.toNat - 48)) * 10 ^ l.length := Nat.mul_le_mul_left _ h2
    rw [digV_cons] at hM ⊢
    rw [Lib.parseUintM, if_pos hc, if_neg (by omega), if_neg (by omega), Nat.mul_comm n 10]
    exact ih _ (fun b hb => h b (by simp [hb])) hM h64
end Go.Ab
