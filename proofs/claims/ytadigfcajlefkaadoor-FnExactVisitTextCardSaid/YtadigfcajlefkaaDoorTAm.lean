/- A part of a proof: walks of functions and lemmas of our own. No conditions. -/
import Derived.Shelf.Strings.Builder1
import Derived.Shelf.Strings.Builder2
import Derived.Shelf.Strings.BuilderF
import Derived.Shelf.Strconv.Itoa0
import Derived.Shelf.Strconv.Itoa1
import Derived.Shelf.LaysM
import Derived.Shelf.Strconv.Itoa2
import Derived.Shelf.Strconv.Itoa3
import Derived.Shelf.Strconv.Itoa4
import Derived.Shelf.Strings.Prefix
import Derived.Shelf.Bits.Mul64
import Derived.Shelf.Strings.Repeat
import Derived.Test.YtadigfcajlefkaaDoorProg
import Derived.Test.YtadigfcajlefkaaDoorTAl
import Derived.Below
import Derived.Test.YtadigfcajlefkaaDoorTAj
import Derived.Test.YtadigfcajlefkaaDoorTAk
import Derived.Test.YtadigfcajlefkaaDoorTAi
import Derived.Test.YtadigfcajlefkaaDoorRows
set_option linter.unusedSectionVars false
set_option linter.unusedVariables false
set_option linter.unusedSimpArgs false
namespace Go.Proofs
open Go.Shelf
def Tryd.laysM173_ren : Go.Shelf.Ren := ⟨fun | 173 => 27 | 246 => 34 | 283 => 44 | 284 => 45 | 285 => 46 | 286 => 47 | 129 => 57 | 317 => 56 | 318 => 58 | 319 => 59 | 320 => 60 | 337 => 68 | 338 => 69 | n => n, fun | 2 => 2 | 3 => 3 | 9 => 9 | 4 => 4 | 171 => 57 | 0 => 0 | 53 => 58 | 37 => 50 | 5 => 5 | 173 => 61 | 212 => 80 | 51 => 81 | 20 => 20 | 213 => 82 | 46 => 64 | 232 => 94 | 233 => 95 | n => n, fun | 17 => 0 | 18 => 1 | 19 => 2 | n => n⟩
theorem Tryd.laysM173 : Go.Proofs.LaysM.n173 Tryd.prog Tryd.laysM173_ren := {
  mixed := by kernel_rfl
  f129 := Tryd.func57.trans (congrArg some (by kernel_rfl))
  f173 := Tryd.func27.trans (congrArg some (by kernel_rfl))
  f246 := Tryd.func34.trans (congrArg some (by kernel_rfl))
  f283 := Tryd.func44.trans (congrArg some (by kernel_rfl))
  f284 := Tryd.func45.trans (congrArg some (by kernel_rfl))
  f285 := Tryd.func46.trans (congrArg some (by kernel_rfl))
  f286 := Tryd.func47.trans (congrArg some (by kernel_rfl))
  f317 := Tryd.func56.trans (congrArg some (by kernel_rfl))
  f318 := Tryd.func58.trans (congrArg some (by kernel_rfl))
  f319 := Tryd.func59.trans (congrArg some (by kernel_rfl))
  f320 := Tryd.func60.trans (congrArg some (by kernel_rfl))
  f337 := Tryd.func68.trans (congrArg some (by kernel_rfl))
  f338 := Tryd.func69.trans (congrArg some (by kernel_rfl))
  t0 := Tryd.underlying0
  a0 := Tryd.isAgg0
  z0 := Tryd.sizeOf0
  v0 := Tryd.zeroValue0
  t2 := Tryd.underlying2
  a2 := Tryd.isAgg2
  z2 := Tryd.sizeOf2
  v2 := Tryd.zeroValue2
  t3 := Tryd.underlying3
  a3 := Tryd.isAgg3
  z3 := Tryd.sizeOf3
  v3 := Tryd.zeroValue3
  t4 := Tryd.underlying4
  a4 := Tryd.isAgg4
  z4 := Tryd.sizeOf4
  v4 := Tryd.zeroValue4
  t5 := Tryd.underlying5
  a5 := Tryd.isAgg5
  z5 := Tryd.sizeOf5
  v5 := Tryd.zeroValue5
  t9 := Tryd.underlying9
  a9 := Tryd.isAgg9
  z9 := Tryd.sizeOf9
  v9 := Tryd.zeroValue9
  t20 := Tryd.underlying20
  a20 := Tryd.isAgg20
  z20 := Tryd.sizeOf20
  v20 := Tryd.zeroValue20
  t37 := Tryd.underlying50
  a37 := Tryd.isAgg50
  z37 := Tryd.sizeOf50
  v37 := Tryd.zeroValue50
  t46 := Tryd.underlying64
  a46 := Tryd.isAgg64
  z46 := Tryd.sizeOf64
  v46 := Tryd.zeroValue64
  t51 := Tryd.underlying81
  a51 := Tryd.isAgg81
  z51 := Tryd.sizeOf81
  v51 := Tryd.zeroValue81
  t53 := Tryd.underlying58
  a53 := Tryd.isAgg58
  z53 := Tryd.sizeOf58
  v53 := Tryd.zeroValue58
  t171 := Tryd.underlying57
  a171 := Tryd.isAgg57
  z171 := Tryd.sizeOf57
  v171 := Tryd.zeroValue57
  t173 := Tryd.underlying61
  a173 := Tryd.isAgg61
  z173 := Tryd.sizeOf61
  v173 := Tryd.zeroValue61
  t212 := Tryd.underlying80
  a212 := Tryd.isAgg80
  z212 := Tryd.sizeOf80
  v212 := Tryd.zeroValue80
  t213 := Tryd.underlying82
  a213 := Tryd.isAgg82
  z213 := Tryd.sizeOf82
  t232 := Tryd.underlying94
  a232 := Tryd.isAgg94
  z232 := Tryd.sizeOf94
  v232 := Tryd.zeroValue94
  t233 := Tryd.underlying95
  a233 := Tryd.isAgg95
  z233 := Tryd.sizeOf95
  v233 := Tryd.zeroValue95
  g17 := by kernel_rfl
  g18 := by kernel_rfl
  g19 := by kernel_rfl
  i0 := by kernel_rfl
  i2 := by kernel_rfl
  i3 := by kernel_rfl
  i4 := by kernel_rfl
  i5 := by kernel_rfl
  i9 := by kernel_rfl
  i20 := by kernel_rfl
  i37 := by kernel_rfl
  i46 := by kernel_rfl
  i51 := by kernel_rfl
  i53 := by kernel_rfl
  i171 := by kernel_rfl
  i173 := by kernel_rfl
  i212 := by kernel_rfl
  i232 := by kernel_rfl
  i233 := by kernel_rfl
  m17 := by kernel_rfl
  m18 := by kernel_rfl
  m19 := by kernel_rfl }
def Tryd.lays105_ren : Go.Shelf.Ren := ⟨fun | 105 => 43 | 212 => 50 | 99 => 51 | 165 => 52 | 166 => 53 | 170 => 54 | 169 => 55 | 263 => 63 | 264 => 64 | 206 => 65 | 240 => 66 | 241 => 67 | 276 => 70 | 277 => 71 | n => n, fun | 9 => 9 | 3 => 3 | 4 => 4 | 20 => 20 | 0 => 0 | 46 => 64 | 109 => 65 | 5 => 5 | 72 => 70 | 76 => 74 | 51 => 81 | 146 => 85 | 53 => 58 | 148 => 87 | 70 => 68 | 37 => 50 | 75 => 73 | 127 => 89 | 164 => 91 | 80 => 77 | n => n, fun | n => n⟩
theorem Tryd.lays105 : Go.Proofs.Lays.n105 Tryd.prog Tryd.lays105_ren := {
  mixed := by kernel_rfl
  f99 := Tryd.func51.trans (congrArg some (by kernel_rfl))
  f105 := Tryd.func43.trans (congrArg some (by kernel_rfl))
  f165 := Tryd.func52.trans (congrArg some (by kernel_rfl))
  f166 := Tryd.func53.trans (congrArg some (by kernel_rfl))
  f169 := Tryd.func55.trans (congrArg some (by kernel_rfl))
  f170 := Tryd.func54.trans (congrArg some (by kernel_rfl))
  f206 := Tryd.func65.trans (congrArg some (by kernel_rfl))
  f212 := Tryd.func50.trans (congrArg some (by kernel_rfl))
  f240 := Tryd.func66.trans (congrArg some (by kernel_rfl))
  f241 := Tryd.func67.trans (congrArg some (by kernel_rfl))
  f263 := Tryd.func63.trans (congrArg some (by kernel_rfl))
  f264 := Tryd.func64.trans (congrArg some (by kernel_rfl))
  f276 := Tryd.func70.trans (congrArg some (by kernel_rfl))
  f277 := Tryd.func71.trans (congrArg some (by kernel_rfl))
  t0 := Tryd.underlying0
  a0 := Tryd.isAgg0
  z0 := Tryd.sizeOf0
  v0 := Tryd.zeroValue0
  t3 := Tryd.underlying3
  a3 := Tryd.isAgg3
  z3 := Tryd.sizeOf3
  v3 := Tryd.zeroValue3
  t4 := Tryd.underlying4
  a4 := Tryd.isAgg4
  z4 := Tryd.sizeOf4
  v4 := Tryd.zeroValue4
  t5 := Tryd.underlying5
  a5 := Tryd.isAgg5
  z5 := Tryd.sizeOf5
  v5 := Tryd.zeroValue5
  t9 := Tryd.underlying9
  a9 := Tryd.isAgg9
  z9 := Tryd.sizeOf9
  v9 := Tryd.zeroValue9
  t20 := Tryd.underlying20
  a20 := Tryd.isAgg20
  z20 := Tryd.sizeOf20
  v20 := Tryd.zeroValue20
  t37 := Tryd.underlying50
  a37 := Tryd.isAgg50
  z37 := Tryd.sizeOf50
  v37 := Tryd.zeroValue50
  t46 := Tryd.underlying64
  a46 := Tryd.isAgg64
  z46 := Tryd.sizeOf64
  v46 := Tryd.zeroValue64
  t51 := Tryd.underlying81
  a51 := Tryd.isAgg81
  z51 := Tryd.sizeOf81
  v51 := Tryd.zeroValue81
  t53 := Tryd.underlying58
  a53 := Tryd.isAgg58
  z53 := Tryd.sizeOf58
  v53 := Tryd.zeroValue58
  t70 := Tryd.underlying68
  a70 := Tryd.isAgg68
  z70 := Tryd.sizeOf68
  v70 := Tryd.zeroValue68
  t72 := Tryd.underlying70
  a72 := Tryd.isAgg70
  z72 := Tryd.sizeOf70
  v72 := Tryd.zeroValue70
  t75 := Tryd.underlying73
  a75 := Tryd.isAgg73
  z75 := Tryd.sizeOf73
  v75 := Tryd.zeroValue73
  t76 := Tryd.underlying74
  a76 := Tryd.isAgg74
  z76 := Tryd.sizeOf74
  v76 := Tryd.zeroValue74
  t109 := Tryd.underlying65
  a109 := Tryd.isAgg65
  z109 := Tryd.sizeOf65
  v109 := Tryd.zeroValue65
  t127 := Tryd.underlying89
  a127 := Tryd.isAgg89
  z127 := Tryd.sizeOf89
  v127 := Tryd.zeroValue89
  t146 := Tryd.underlying85
  a146 := Tryd.isAgg85
  z146 := Tryd.sizeOf85
  v146 := Tryd.zeroValue85
  t148 := Tryd.underlying87
  a148 := Tryd.isAgg87
  z148 := Tryd.sizeOf87
  v148 := Tryd.zeroValue87
  t164 := Tryd.underlying91
  a164 := Tryd.isAgg91
  z164 := Tryd.sizeOf91
  v164 := Tryd.zeroValue91 }
theorem Tryd.Builder_Extra_105 : Builder.Extra Tryd.prog Tryd.lays105_ren := {
  sizeBuilder := by kernel_rfl
  liesBuilder := by kernel_rfl
  t5 := Tryd.underlying5
  a5 := Tryd.isAgg5
  z5 := Tryd.sizeOf5
  v5 := Tryd.zeroValue5
  infoByte := by kernel_rfl
  cellsByte := by kernel_rfl
  sizeByte := by kernel_rfl
  neB5 := by decide }
end Go.Proofs

namespace Go.Ab
open Go Go.Proofs
theorem grow_drewN (w : World) (k : Nat) (os : Array Obj) : Grow w (Go.Sort.grow (w.drewN k) os) := by
  refine ⟨rfl, rfl, rfl, ?_, fun i hi => ?_⟩
  · show w.heap.size ≤ (w.heap ++ os).size
    simp
  · show (w.heap ++ os)[i]? = w.heap[i]?
    rw [Array.getElem?_append_left hi]
open Go.RowKit in
theorem below_grow {w w' : World} (h : Below w.heap.size w w') : Grow w w' := ⟨h.os, h.tape, h.output, h.size, fun k hk => h.block k hk⟩
theorem decDigits_len (u : Nat) : (Go.Lib.decDigits u).length ≤ u / 2 + 1 := by
  induction u using Nat.strongRecOn with
  | ind u ih =>
    rw [Go.Lib.decDigits]
    split
    · simp
    · have := ih (u / 10) (by omega)
      simp only [List.length_append, List.length_cons, List.length_nil]
      omega
theorem itoa_len {n : Int} (h1 : -9223372036854775808 ≤ n) (h2 : n ≤ 9223372036854775807) : (Go.Lib.itoa n).length ≤ maxLen := by
  unfold Go.Lib.itoa maxLen
  split
  · have := decDigits_len n.natAbs
    simp only [List.length_cons]
    omega
  · have := decDigits_len n.toNat
    omega
theorem repeatL_len (l : List UInt8) (c : Nat) : (Go.Lib.repeatL l c).length = l.length * c := by
  rw [Go.Lib.repeatL_length, Nat.mul_comm]
end Go.Ab

namespace Go.Ab
open Go Go.Proofs
theorem strconv_FormatInt_DD : DOk Tryd.prog (DD []) := DD_nil _
def strconv_FormatInt (a0 : Int) (a1 : Int) : (List UInt8) := Go.Lib.itoa a0
theorem strconv_FormatInt_den (a0 : Int) (a1 : Int) (hp0 : a1 = 10) (hp1 : -9223372036854775808 ≤ a0) (hp2 : a0 ≤ 9223372036854775807) : Den Tryd.prog 27 [.int .i64 a0, .int .i64 a1] (.str (strconv_FormatInt a0 a1)) := by
  subst hp0
  refine Den.plain ⟨_, Tryd.func27, rfl, rfl⟩ (by simp [NoOwnL, NoOwn]) ?_
  intro w M vs hI hr
  simp only [RepL] at hr
  obtain ⟨u0, us0, f0, g0, rfl, h0e, h0, u1, us1, f1, g1, rfl, h1e, h1, rfl, _⟩ := hr
  have e0 := h0.val_int
  have e1 := h1.val_int
  subst e0 e1
  refine (Any.strconv_FormatInt_10 Tryd.laysM173 a0 hp1 hp2 w hI).mono ?_
  rintro e w' ⟨rfl, k, os, rfl⟩
  exact ⟨_, rfl, grow_drewN w k os, fun M' => rep_str _ (itoa_len hp1 hp2)⟩
def D_strconv_FormatInt : DF
  | [x0, x1] => some (.str (strconv_FormatInt (rdI x0) (rdI x1)), false, [wI .i64 x0, wI .i64 x1, (rdI x1) = 10, -9223372036854775808 ≤ (rdI x0), (rdI x0) ≤ 9223372036854775807])
  | _ => none
theorem D_strconv_FormatInt_ok : OkD Tryd.prog 27 D_strconv_FormatInt := by
  intro xs r z ob h ho
  unfold D_strconv_FormatInt at h
  split at h
  · simp only [Option.some.injEq, Prod.mk.injEq] at h
    obtain ⟨rfl, rfl, rfl⟩ := h
    obtain ⟨h0, h1, hp0, hp1, hp2, _⟩ := ho
    exact Den.sim (strconv_FormatInt_den _ _ hp0 hp1 hp2) (simOL_cons (wI_sim h0).1 <| simOL_cons (wI_sim h1).1 <| trivial) (noIdL_cons (wI_sim h0).2 <| noIdL_cons (wI_sim h1).2 <| rfl) rfl
  · cases h
end Go.Ab

namespace Go.Ab
open Go Go.Proofs
theorem impl_Decimal_DD : DOk Tryd.prog (DD [(27, dP D_strconv_FormatInt)]) := DD_cons D_strconv_FormatInt_ok.e <| DD_nil _
def impl_Decimal (a0 : Int) : (List UInt8) :=
  (strconv_FormatInt a0 10)
theorem impl_Decimal_den (a0 : Int) (hp0 : -9223372036854775808 ≤ a0) (hp1 : a0 ≤ 9223372036854775807) : Den Tryd.prog 15 [.int .i64 a0] (.str (impl_Decimal a0)) := by
  generalize hR : impl_Decimal a0 = r
  unfold impl_Decimal at hR
  refine den_intro G_ok Tryd.func15 (by kernel_rfl) rfl Tryd.ntmps15 (by rw [Tryd.results15]) (by simp) rfl ?_
  intro c hL hc hk
  clear hL
  simp only [pars, Nat.zero_add]
  refine AWP.seq ?_
  refine AWP.regS G_ok impl_Decimal_DD hc (by kernel_rfl) (fun K hK => ?_); simp only [ea, gv, sv, D_strconv_FormatInt, reduceCtorEq, reduceIte, Nat.reduceBEq, Nat.reduceAdd, Nat.reduceEqDiff, Nat.reduceLT, Nat.reduceLeDiff, Nat.reduceMul, Nat.reduceSub, BEq.rfl, beq_self_eq_true, Int.reduceToNat]
  (refine hK _ ?_)
  clear hK K
  refine AWP.seq ?_
  refine AWP.regS G_ok impl_Decimal_DD hc (by kernel_rfl) (fun K hK => ?_); simp only [ea, gv, sv, D_strconv_FormatInt, reduceCtorEq, reduceIte, Nat.reduceBEq, Nat.reduceAdd, Nat.reduceEqDiff, Nat.reduceLT, Nat.reduceLeDiff, Nat.reduceMul, Nat.reduceSub, BEq.rfl, beq_self_eq_true, Int.reduceToNat]
  (refine ⟨by (trivial), hK _ ?_⟩)
  clear hK K
  refine AWP.ret ?_
  subst hR
  (simp only [en, si, ea, gv, sv, hk, reduceCtorEq, reduceIte, Nat.reduceBEq, Nat.reduceAdd, Nat.reduceEqDiff, Nat.reduceLT, Nat.reduceLeDiff, Nat.reduceMul, Nat.reduceSub, BEq.rfl, beq_self_eq_true, Int.reduceToNat]; done)
def D_impl_Decimal : DF
  | [x0] => some (.str (impl_Decimal (rdI x0)), false, [wI .i64 x0, -9223372036854775808 ≤ (rdI x0), (rdI x0) ≤ 9223372036854775807])
  | _ => none
theorem D_impl_Decimal_ok : OkD Tryd.prog 15 D_impl_Decimal := by
  intro xs r z ob h ho
  unfold D_impl_Decimal at h
  split at h
  · simp only [Option.some.injEq, Prod.mk.injEq] at h
    obtain ⟨rfl, rfl, rfl⟩ := h
    obtain ⟨h0, hp0, hp1, _⟩ := ho
    exact Den.sim (impl_Decimal_den _ hp0 hp1) (simOL_cons (wI_sim h0).1 <| trivial) (noIdL_cons (wI_sim h0).2 <| rfl) rfl
  · cases h
end Go.Ab

namespace Go.Ab
open Go Go.Proofs
theorem itoa_len2 (n : Int) : (Go.Lib.itoa n).length ≤ n.natAbs + 2 := by
  unfold Go.Lib.itoa
  split
  · have := decDigits_len n.natAbs
    simp only [List.length_cons]
    omega
  · have := decDigits_len n.toNat
    omega
theorem impl_Decimal_eq (n : Int) : impl_Decimal n = Go.Lib.itoa n := rfl
theorem impl_Decimal_len (n : Int) : (impl_Decimal n).length ≤ n.natAbs + 2 := itoa_len2 n
end Go.Ab

namespace Go.Ab
open Go Go.Proofs
def revDec (m : Nat) : List Int := if h : m = 0 then [] else (48 + (m % 10 : Nat) : Int) :: revDec (m / 10)
termination_by m
decreasing_by omega
theorem revDec_zero : revDec 0 = [] := by rw [revDec]; simp
theorem revDec_pos {m : Nat} (h : m ≠ 0) : revDec m = (48 + (m % 10 : Nat) : Int) :: revDec (m / 10) := by rw [revDec]; simp [h]
theorem decDigits_rev : ∀ (m : Nat), m ≠ 0 → (revDec m).reverse.map (fun z => UInt8.ofNat z.toNat) = Go.Lib.decDigits m := by
  intro m
  induction m using Nat.strongRecOn with
  | ind m ih =>
    intro h
    rw [revDec_pos h, Go.Lib.decDigits]
    have e3 : UInt8.ofNat (48 + ((m % 10 : Nat) : Int)).toNat = UInt8.ofNat (48 + m % 10) := by congr 1
    split
    · rename_i h10
      have e : m / 10 = 0 := by omega
      have e2 : m % 10 = m := Nat.mod_eq_of_lt h10
      rw [e2] at e3 ⊢
      simp only [e, revDec_zero, List.reverse_cons, List.reverse_nil, List.nil_append, List.map_cons, List.map_nil]
      rw [e3]
    · rw [← ih (m / 10) (by omega) (by omega)]
      simp only [List.reverse_cons, List.map_append, List.map_cons, List.map_nil, e3]
theorem tdiv_abs (x : Int) : (x.tdiv 10).natAbs = x.natAbs / 10 := by
  rcases tdiv10 x with ⟨h, e⟩ | ⟨h, e⟩ <;> rw [e] <;> omega
theorem tmod10 (x : Int) : x.tmod 10 = x - 10 * x.tdiv 10 := Int.tmod_def x 10
theorem dec_b1 (a0 : Int) (m : Int) (ds : List Int) (h1 : -1000000000000 ≤ m) (h2 : m ≤ 1000000000000) (h : m ≠ 0) :
    spec_l01Dec_b1 a0 (m, ds) = .ok (m.tdiv 10, ds ++ [48 + ((m.natAbs % 10 : Nat) : Int)]) := by
  have e1 := tmod10 m
  have e2 := tdiv10 m
  have hn : (m != 0) = true := by simpa using h
  unfold spec_l01Dec_b1
  simp only [hn, cond_true]
  have w1 : IntKind.wrap .i64 (m.tdiv 10) = m.tdiv 10 := by rw [IntKind.wrap_i64]; omega
  rw [w1]
  by_cases hm : m.tmod 10 < 0
  · simp only [hm, decide_true, cond_true]
    have w2 : IntKind.wrap .u8 (IntKind.wrap .i64 (48 + (IntKind.wrap .i64 (0 - (m.tmod 10))))) = 48 + ((m.natAbs % 10 : Nat) : Int) := by
      simp only [IntKind.wrap_i64, IntKind.wrap_u8]
      omega
    rw [w2]
  · simp only [hm, decide_false, cond_false]
    have w2 : IntKind.wrap .u8 (IntKind.wrap .i64 (48 + (m.tmod 10))) = 48 + ((m.natAbs % 10 : Nat) : Int) := by
      simp only [IntKind.wrap_i64, IntKind.wrap_u8]
      omega
    rw [w2]
theorem dec_loop1 (a0 : Int) : ∀ (k : Nat) (m : Int) (ds : List Int), -1000000000000 ≤ m → m ≤ 1000000000000 → m.natAbs < k →
    loopW (spec_l01Dec_b1 a0) k (m, ds) = .error (.inr (0, ds ++ revDec m.natAbs))
  | 0, m, ds, _, _, h => by omega
  | k + 1, m, ds, h1, h2, h => by
    by_cases hm : m = 0
    · subst hm
      simp [loopW, spec_l01Dec_b1, revDec_zero]
    · have e2 := tdiv10 m
      simp only [loopW, dec_b1 a0 m ds h1 h2 hm]
      rw [dec_loop1 a0 k (m.tdiv 10) _ (by omega) (by omega) (by omega), tdiv_abs, List.append_assoc, List.singleton_append, ← revDec_pos (by omega)]
theorem revDec_len : ∀ (m : Nat), (revDec m).length ≤ m := by
  intro m
  induction m using Nat.strongRecOn with
  | ind m ih =>
    by_cases h : m = 0
    · subst h; simp [revDec_zero]
    · rw [revDec_pos h]
      have := ih (m / 10) (by omega)
      simp only [List.length_cons]
      omega
theorem take_rev {α : Type} (L : List α) (d : α) (k : Nat) (h : k < L.length) : L.getD k d :: (L.take k).reverse = (L.take (k + 1)).reverse := by
  rw [List.take_add_one, List.reverse_append]
  simp [List.getD, List.getElem?_eq_getElem h]
theorem dec_loop2 (a0 : Int) (s1 : Int × List Int) : ∀ (f k : Nat) (out : List Int), k < f → k ≤ s1.2.length + 1 → k ≤ 1000000000001 →
    loopW (spec_l01Dec_b2 a0 s1) f ((k : Int) - 1, out) = .error (.inr (-1, out ++ ((s1.2 ++ [45]).take k).reverse))
  | 0, k, out, h, _, _ => by omega
  | f + 1, 0, out, _, _, _ => by simp [loopW, spec_l01Dec_b2]
  | f + 1, k + 1, out, h, hk, hb => by
    have e1 : IntKind.wrap .i64 (((k + 1 : Nat) : Int) - 1 - 1) = (k : Int) - 1 := by rw [IntKind.wrap_i64]; omega
    have e2 : (((k + 1 : Nat) : Int) - 1).toNat = k := by omega
    have e3 : decide (0 ≤ ((k + 1 : Nat) : Int) - 1) = true := by simp
    simp only [loopW, spec_l01Dec_b2, e3, cond_true, e1, e2]
    rw [dec_loop2 a0 s1 f k _ (by omega) (by omega) (by omega), List.append_assoc, List.singleton_append, take_rev _ _ _ (by simp; omega)]
theorem dec_loop3 (a0 : Int) (s1 : Int × List Int) : ∀ (f k : Nat) (out : List Int), k < f → k ≤ s1.2.length → k ≤ 1000000000001 →
    loopW (spec_l01Dec_b3 a0 s1) f ((k : Int) - 1, out) = .error (.inr (-1, out ++ (s1.2.take k).reverse))
  | 0, k, out, h, _, _ => by omega
  | f + 1, 0, out, _, _, _ => by simp [loopW, spec_l01Dec_b3]
  | f + 1, k + 1, out, h, hk, hb => by
    have e1 : IntKind.wrap .i64 (((k + 1 : Nat) : Int) - 1 - 1) = (k : Int) - 1 := by rw [IntKind.wrap_i64]; omega
    have e2 : (((k + 1 : Nat) : Int) - 1).toNat = k := by omega
    have e3 : decide (0 ≤ ((k + 1 : Nat) : Int) - 1) = true := by simp
    simp only [loopW, spec_l01Dec_b3, e3, cond_true, e1, e2]
    rw [dec_loop3 a0 s1 f k _ (by omega) (by omega) (by omega), List.append_assoc, List.singleton_append, take_rev _ _ _ (by omega)]
theorem spec_l01Dec_eq (n : Int) (h1 : -1000000000000 ≤ n) (h2 : n ≤ 1000000000000) : spec_l01Dec n = Go.Lib.itoa n := by
  unfold spec_l01Dec Go.Lib.itoa
  by_cases h0 : n = 0
  · subst h0
    simp [Go.Lib.decDigits]
  have hn : (n == 0) = false := by simpa using h0
  rw [hn, cond_false, dec_loop1 n _ n [] h1 h2 (by omega)]
  have hl := revDec_len n.natAbs
  have hr := decDigits_rev n.natAbs (by omega)
  simp only [List.nil_append]
  by_cases hneg : n < 0
  · have e1 : IntKind.wrap .i64 (((revDec n.natAbs).length + 1 : Int) - 1) = ((((revDec n.natAbs).length + 1 : Nat)) : Int) - 1 := by rw [IntKind.wrap_i64]; omega
    simp only [hneg, decide_true, cond_true, e1, if_true]
    rw [dec_loop2 n _ _ _ _ (by omega) (by simp) (by omega)]
    simp only [List.nil_append]
    rw [List.take_of_length_le (by simp), List.reverse_append, List.map_append, hr]
    rfl
  · have e1 : IntKind.wrap .i64 (((revDec n.natAbs).length : Int) - 1) = (((revDec n.natAbs).length : Nat) : Int) - 1 := by rw [IntKind.wrap_i64]; omega
    simp only [hneg, decide_false, cond_false, e1, if_false]
    rw [dec_loop3 n _ _ _ _ (by omega) (by simp) (by omega)]
    simp only [List.nil_append]
    rw [List.take_of_length_le (by simp), hr]
    congr 1
    omega
theorem spec_l01Dec_len (n : Int) (h1 : -1000000000000 ≤ n) (h2 : n ≤ 1000000000000) : (spec_l01Dec n).length ≤ n.natAbs + 2 := by
  rw [spec_l01Dec_eq n h1 h2]
  exact itoa_len2 n
end Go.Ab

namespace Go.Ab
open Go Go.Proofs
theorem spec_l30Text_DD : DOk Tryd.prog (DD [(23, dP D_spec_l01Dec)]) := DD_cons D_spec_l01Dec_ok.e <| DD_nil _
def spec_l30Text (a0 : Visit) : (List UInt8) :=
  ((((spec_l01Dec a0.Aid) ++ [32]) ++ (spec_l01Dec a0.Every)) ++ [32]) ++ (spec_l01Dec a0.Last)
theorem spec_l30Text_den (a0 : Visit) (hp0 : 1 ≤ a0.Aid) (hp1 : a0.Aid ≤ 9999) (hp2 : 1 ≤ a0.Every) (hp3 : a0.Every ≤ 3650) (hp4 : 0 ≤ a0.Last) (hp5 : a0.Last ≤ 99999) : Den Tryd.prog 13 [.ep (eVisit a0)] (.str (spec_l30Text a0)) := by
  generalize hR : spec_l30Text a0 = r
  unfold spec_l30Text at hR
  refine den_intro G_ok Tryd.func13 (by kernel_rfl) rfl Tryd.ntmps13 (by rw [Tryd.results13]) (by simp) rfl ?_
  intro c hL hc hk
  clear hL
  simp only [pars, Nat.zero_add]
  refine AWP.seq ?_
  refine AWP.regS G_ok spec_l30Text_DD hc (by kernel_rfl) (fun K hK => ?_); simp only [ea, gv, sv, D_spec_l01Dec, reduceCtorEq, reduceIte, Nat.reduceBEq, Nat.reduceAdd, Nat.reduceEqDiff, Nat.reduceLT, Nat.reduceLeDiff, Nat.reduceMul, Nat.reduceSub, BEq.rfl, beq_self_eq_true, Int.reduceToNat]
  (refine hK _ ?_)
  clear hK K
  refine AWP.seq ?_
  refine AWP.regD mixed G_ok spec_l30Text_DD hc 19 (by kernel_rfl) (by kernel_rfl) (fun K hK => ?_); simp only [ea, gv, sv, D_spec_l01Dec, reduceCtorEq, reduceIte, Nat.reduceBEq, Nat.reduceAdd, Nat.reduceEqDiff, Nat.reduceLT, Nat.reduceLeDiff, Nat.reduceMul, Nat.reduceSub, BEq.rfl, beq_self_eq_true, Int.reduceToNat]
  (refine ⟨by ((have l1 := spec_l01Dec_len a0.Aid (by omega) (by omega); have l2 := spec_l01Dec_len a0.Every (by omega) (by omega); have l3 := spec_l01Dec_len a0.Last (by omega) (by omega); (try simp only [List.length_append, List.length_cons, List.length_nil]); omega)), hK _ ?_⟩)
  clear hK K
  refine AWP.ret ?_
  subst hR
  (simp only [en, si, ea, gv, sv, hk, reduceCtorEq, reduceIte, Nat.reduceBEq, Nat.reduceAdd, Nat.reduceEqDiff, Nat.reduceLT, Nat.reduceLeDiff, Nat.reduceMul, Nat.reduceSub, BEq.rfl, beq_self_eq_true, Int.reduceToNat]; done)
def D_spec_l30Text : DF
  | [x0] => some (.str (spec_l30Text (rdP dVisit x0)), false, [wP eVisit dVisit x0, 1 ≤ (rdP dVisit x0).Aid, (rdP dVisit x0).Aid ≤ 9999, 1 ≤ (rdP dVisit x0).Every, (rdP dVisit x0).Every ≤ 3650, 0 ≤ (rdP dVisit x0).Last, (rdP dVisit x0).Last ≤ 99999])
  | _ => none
theorem D_spec_l30Text_ok : OkD Tryd.prog 13 D_spec_l30Text := by
  intro xs r z ob h ho
  unfold D_spec_l30Text at h
  split at h
  · simp only [Option.some.injEq, Prod.mk.injEq] at h
    obtain ⟨rfl, rfl, rfl⟩ := h
    obtain ⟨h0, hp0, hp1, hp2, hp3, hp4, hp5, _⟩ := ho
    exact Den.sim (spec_l30Text_den _ hp0 hp1 hp2 hp3 hp4 hp5) (simOL_cons (wP_sim h0).1 <| trivial) (noIdL_cons (wP_sim h0).2 <| rfl) rfl
  · cases h
end Go.Ab

namespace Go.Ab
open Go Go.Proofs
theorem spec_l30One_rng (v : Visit) (h : spec_l30One v = true) : 1 ≤ v.Aid ∧ v.Aid ≤ 9999 ∧ 1 ≤ v.Every ∧ v.Every ≤ 3650 ∧ 0 ≤ v.Last ∧ v.Last ≤ 99999 := by
  simp only [spec_l30One, spec_l20Number, spec_l00In, spec_l04Day, Bool.and_eq_true, decide_eq_true_eq] at h
  omega
end Go.Ab

namespace Go.Ab
open Go Go.Proofs
theorem spec_VisitText_DD : DOk Tryd.prog (DD [(12, dP D_spec_l30One), (13, dP D_spec_l30Text)]) := DD_cons D_spec_l30One_ok.e <| DD_cons D_spec_l30Text_ok.e <| DD_nil _
def spec_VisitText (a0 : Visit) : (List UInt8) :=
  (bif (!(spec_l30One a0)) then [] else (spec_l30Text a0))
theorem spec_VisitText_den (a0 : Visit)  : Den Tryd.prog 5 [.agg (eVisit a0)] (.str (spec_VisitText a0)) := by
  generalize hR : spec_VisitText a0 = r
  unfold spec_VisitText at hR
  refine den_intro G_ok Tryd.func5 (by kernel_rfl) rfl Tryd.ntmps5 (by rw [Tryd.results5]) (by simp) rfl ?_
  intro c hL hc hk
  clear hL
  simp only [pars, Nat.zero_add]
  refine AWP.seq ?_
  refine AWP.regS G_ok spec_VisitText_DD hc (by kernel_rfl) (fun K hK => ?_); simp only [ea, gv, sv, D_spec_l30One, D_spec_l30Text, reduceCtorEq, reduceIte, Nat.reduceBEq, Nat.reduceAdd, Nat.reduceEqDiff, Nat.reduceLT, Nat.reduceLeDiff, Nat.reduceMul, Nat.reduceSub, BEq.rfl, beq_self_eq_true, Int.reduceToNat]
  (refine hK _ ?_)
  clear hK K
  refine AWP.seq ?_
  refine AWP.seq ?_
  refine AWP.regS G_ok spec_VisitText_DD hc (by kernel_rfl) (fun K hK => ?_); simp only [ea, gv, sv, D_spec_l30One, D_spec_l30Text, reduceCtorEq, reduceIte, Nat.reduceBEq, Nat.reduceAdd, Nat.reduceEqDiff, Nat.reduceLT, Nat.reduceLeDiff, Nat.reduceMul, Nat.reduceSub, BEq.rfl, beq_self_eq_true, Int.reduceToNat]
  (refine hK _ ?_)
  clear hK K
  refine AWP.cond rfl (fun hb => ?_) (fun hb => ?_)
  · (simp only [hb, cond_true] at hR)
    refine AWP.seq ?_
    refine AWP.regS G_ok spec_VisitText_DD hc (by kernel_rfl) (fun K hK => ?_); simp only [ea, gv, sv, D_spec_l30One, D_spec_l30Text, reduceCtorEq, reduceIte, Nat.reduceBEq, Nat.reduceAdd, Nat.reduceEqDiff, Nat.reduceLT, Nat.reduceLeDiff, Nat.reduceMul, Nat.reduceSub, BEq.rfl, beq_self_eq_true, Int.reduceToNat]
    (refine hK _ ?_)
    clear hK K
    refine AWP.ret ?_
    subst hR
    (simp only [en, si, ea, gv, sv, hk, reduceCtorEq, reduceIte, Nat.reduceBEq, Nat.reduceAdd, Nat.reduceEqDiff, Nat.reduceLT, Nat.reduceLeDiff, Nat.reduceMul, Nat.reduceSub, BEq.rfl, beq_self_eq_true, Int.reduceToNat]; done)
  · (simp only [hb, cond_false] at hR)
    refine AWP.skip ?_
    refine AWP.seq ?_
    refine AWP.regS G_ok spec_VisitText_DD hc (by kernel_rfl) (fun K hK => ?_); simp only [ea, gv, sv, D_spec_l30One, D_spec_l30Text, reduceCtorEq, reduceIte, Nat.reduceBEq, Nat.reduceAdd, Nat.reduceEqDiff, Nat.reduceLT, Nat.reduceLeDiff, Nat.reduceMul, Nat.reduceSub, BEq.rfl, beq_self_eq_true, Int.reduceToNat]
    (refine ⟨by ((have h9 := spec_l30One_rng a0 (by simpa using hb); omega)), hK _ ?_⟩)
    clear hK K
    refine AWP.ret ?_
    subst hR
    (simp only [en, si, ea, gv, sv, hk, reduceCtorEq, reduceIte, Nat.reduceBEq, Nat.reduceAdd, Nat.reduceEqDiff, Nat.reduceLT, Nat.reduceLeDiff, Nat.reduceMul, Nat.reduceSub, BEq.rfl, beq_self_eq_true, Int.reduceToNat]; done)
def D_spec_VisitText : DF
  | [x0] => some (.str (spec_VisitText (rdG dVisit x0)), false, [wG eVisit dVisit x0])
  | _ => none
theorem D_spec_VisitText_ok : OkD Tryd.prog 5 D_spec_VisitText := by
  intro xs r z ob h ho
  unfold D_spec_VisitText at h
  split at h
  · simp only [Option.some.injEq, Prod.mk.injEq] at h
    obtain ⟨rfl, rfl, rfl⟩ := h
    obtain ⟨h0, _⟩ := ho
    exact Den.sim (spec_VisitText_den _ ) (simOL_cons (wG_sim h0).1 <| trivial) (noIdL_cons (wG_sim h0).2 <| rfl) rfl
  · cases h
end Go.Ab

namespace Go.Ab
open Go Go.Proofs
theorem laws_toVisit_DD : DOk Tryd.prog (DD []) := DD_nil _
def laws_toVisit (a0 : Visit) : Visit :=
  { Aid := a0.Aid, Every := a0.Every, Last := a0.Last : Visit }
theorem laws_toVisit_den (a0 : Visit)  : Den Tryd.prog 6 [.agg (eVisit a0)] (.agg (eVisit (laws_toVisit a0))) := by
  generalize hR : laws_toVisit a0 = r
  unfold laws_toVisit at hR
  refine den_intro G_ok Tryd.func6 (by kernel_rfl) rfl Tryd.ntmps6 (by rw [Tryd.results6]) (by simp) rfl ?_
  intro c hL hc hk
  clear hL
  simp only [pars, Nat.zero_add]
  refine AWP.seq ?_
  refine AWP.regS G_ok laws_toVisit_DD hc (by kernel_rfl) (fun K hK => ?_); simp only [ea, gv, sv, reduceCtorEq, reduceIte, Nat.reduceBEq, Nat.reduceAdd, Nat.reduceEqDiff, Nat.reduceLT, Nat.reduceLeDiff, Nat.reduceMul, Nat.reduceSub, BEq.rfl, beq_self_eq_true, Int.reduceToNat]
  (refine hK _ ?_)
  clear hK K
  refine AWP.seq ?_
  refine AWP.regS G_ok laws_toVisit_DD hc (by kernel_rfl) (fun K hK => ?_); simp only [ea, gv, sv, reduceCtorEq, reduceIte, Nat.reduceBEq, Nat.reduceAdd, Nat.reduceEqDiff, Nat.reduceLT, Nat.reduceLeDiff, Nat.reduceMul, Nat.reduceSub, BEq.rfl, beq_self_eq_true, Int.reduceToNat]
  (refine hK _ ?_)
  clear hK K
  refine AWP.seq ?_
  refine AWP.regS G_ok laws_toVisit_DD hc (by kernel_rfl) (fun K hK => ?_); simp only [ea, gv, sv, reduceCtorEq, reduceIte, Nat.reduceBEq, Nat.reduceAdd, Nat.reduceEqDiff, Nat.reduceLT, Nat.reduceLeDiff, Nat.reduceMul, Nat.reduceSub, BEq.rfl, beq_self_eq_true, Int.reduceToNat]
  (refine hK _ ?_)
  clear hK K
  refine AWP.seq ?_
  refine AWP.regS G_ok laws_toVisit_DD hc (by kernel_rfl) (fun K hK => ?_); simp only [ea, gv, sv, reduceCtorEq, reduceIte, Nat.reduceBEq, Nat.reduceAdd, Nat.reduceEqDiff, Nat.reduceLT, Nat.reduceLeDiff, Nat.reduceMul, Nat.reduceSub, BEq.rfl, beq_self_eq_true, Int.reduceToNat]
  (refine hK _ ?_)
  clear hK K
  refine AWP.seq ?_
  refine AWP.regS G_ok laws_toVisit_DD hc (by kernel_rfl) (fun K hK => ?_); simp only [ea, gv, sv, reduceCtorEq, reduceIte, Nat.reduceBEq, Nat.reduceAdd, Nat.reduceEqDiff, Nat.reduceLT, Nat.reduceLeDiff, Nat.reduceMul, Nat.reduceSub, BEq.rfl, beq_self_eq_true, Int.reduceToNat]
  (refine hK _ ?_)
  clear hK K
  refine AWP.seq ?_
  refine AWP.regS G_ok laws_toVisit_DD hc (by kernel_rfl) (fun K hK => ?_); simp only [ea, gv, sv, reduceCtorEq, reduceIte, Nat.reduceBEq, Nat.reduceAdd, Nat.reduceEqDiff, Nat.reduceLT, Nat.reduceLeDiff, Nat.reduceMul, Nat.reduceSub, BEq.rfl, beq_self_eq_true, Int.reduceToNat]
  (refine hK _ ?_)
  clear hK K
  refine AWP.ret ?_
  subst hR
  (simp only [en, si, ea, gv, sv, hk, reduceCtorEq, reduceIte, Nat.reduceBEq, Nat.reduceAdd, Nat.reduceEqDiff, Nat.reduceLT, Nat.reduceLeDiff, Nat.reduceMul, Nat.reduceSub, BEq.rfl, beq_self_eq_true, Int.reduceToNat]; done)
def D_laws_toVisit : DF
  | [x0] => some (.agg (eVisit (laws_toVisit (rdG dVisit x0))), false, [wG eVisit dVisit x0])
  | _ => none
theorem D_laws_toVisit_ok : OkD Tryd.prog 6 D_laws_toVisit := by
  intro xs r z ob h ho
  unfold D_laws_toVisit at h
  split at h
  · simp only [Option.some.injEq, Prod.mk.injEq] at h
    obtain ⟨rfl, rfl, rfl⟩ := h
    obtain ⟨h0, _⟩ := ho
    exact Den.sim (laws_toVisit_den _ ) (simOL_cons (wG_sim h0).1 <| trivial) (noIdL_cons (wG_sim h0).2 <| rfl) rfl
  · cases h
end Go.Ab

namespace Go.Ab
open Go Go.Proofs
theorem impl_within_DD : DOk Tryd.prog (DD []) := DD_nil _
def impl_within (a0 : Int) (a1 : Int) (a2 : Int) : Bool :=
  (decide (a1 ≤ a0) && decide (a0 ≤ a2))
theorem impl_within_den (a0 : Int) (a1 : Int) (a2 : Int)  : Den Tryd.prog 25 [.int .i64 a0, .int .i64 a1, .int .i64 a2] (.bool (impl_within a0 a1 a2)) := by
  generalize hR : impl_within a0 a1 a2 = r
  unfold impl_within at hR
  refine den_intro G_ok Tryd.func25 (by kernel_rfl) rfl Tryd.ntmps25 (by rw [Tryd.results25]) (by simp) rfl ?_
  intro c hL hc hk
  clear hL
  simp only [pars, Nat.zero_add]
  refine AWP.seq ?_
  refine AWP.regS G_ok impl_within_DD hc (by kernel_rfl) (fun K hK => ?_); simp only [ea, gv, sv, reduceCtorEq, reduceIte, Nat.reduceBEq, Nat.reduceAdd, Nat.reduceEqDiff, Nat.reduceLT, Nat.reduceLeDiff, Nat.reduceMul, Nat.reduceSub, BEq.rfl, beq_self_eq_true, Int.reduceToNat]
  (refine hK _ ?_)
  clear hK K
  refine AWP.seq ?_
  refine AWP.regS G_ok impl_within_DD hc (by kernel_rfl) (fun K hK => ?_); simp only [ea, gv, sv, reduceCtorEq, reduceIte, Nat.reduceBEq, Nat.reduceAdd, Nat.reduceEqDiff, Nat.reduceLT, Nat.reduceLeDiff, Nat.reduceMul, Nat.reduceSub, BEq.rfl, beq_self_eq_true, Int.reduceToNat]
  (refine hK _ ?_)
  clear hK K
  refine AWP.ret ?_
  subst hR
  (simp only [en, si, ea, gv, sv, hk, reduceCtorEq, reduceIte, Nat.reduceBEq, Nat.reduceAdd, Nat.reduceEqDiff, Nat.reduceLT, Nat.reduceLeDiff, Nat.reduceMul, Nat.reduceSub, BEq.rfl, beq_self_eq_true, Int.reduceToNat]; done)
def D_impl_within : DF
  | [x0, x1, x2] => some (.bool (impl_within (rdI x0) (rdI x1) (rdI x2)), false, [wI .i64 x0, wI .i64 x1, wI .i64 x2])
  | _ => none
theorem D_impl_within_ok : OkD Tryd.prog 25 D_impl_within := by
  intro xs r z ob h ho
  unfold D_impl_within at h
  split at h
  · simp only [Option.some.injEq, Prod.mk.injEq] at h
    obtain ⟨rfl, rfl, rfl⟩ := h
    obtain ⟨h0, h1, h2, _⟩ := ho
    exact Den.sim (impl_within_den _ _ _ ) (simOL_cons (wI_sim h0).1 <| simOL_cons (wI_sim h1).1 <| simOL_cons (wI_sim h2).1 <| trivial) (noIdL_cons (wI_sim h0).2 <| noIdL_cons (wI_sim h1).2 <| noIdL_cons (wI_sim h2).2 <| rfl) rfl
  · cases h
end Go.Ab

namespace Go.Ab
open Go Go.Proofs
theorem impl_isNumber_DD : DOk Tryd.prog (DD [(25, dP D_impl_within)]) := DD_cons D_impl_within_ok.e <| DD_nil _
def impl_isNumber (a0 : Int) : Bool :=
  (impl_within a0 1 9999)
theorem impl_isNumber_den (a0 : Int)  : Den Tryd.prog 24 [.int .i64 a0] (.bool (impl_isNumber a0)) := by
  generalize hR : impl_isNumber a0 = r
  unfold impl_isNumber at hR
  refine den_intro G_ok Tryd.func24 (by kernel_rfl) rfl Tryd.ntmps24 (by rw [Tryd.results24]) (by simp) rfl ?_
  intro c hL hc hk
  clear hL
  simp only [pars, Nat.zero_add]
  refine AWP.seq ?_
  refine AWP.regS G_ok impl_isNumber_DD hc (by kernel_rfl) (fun K hK => ?_); simp only [ea, gv, sv, D_impl_within, reduceCtorEq, reduceIte, Nat.reduceBEq, Nat.reduceAdd, Nat.reduceEqDiff, Nat.reduceLT, Nat.reduceLeDiff, Nat.reduceMul, Nat.reduceSub, BEq.rfl, beq_self_eq_true, Int.reduceToNat]
  (refine hK _ ?_)
  clear hK K
  refine AWP.seq ?_
  refine AWP.regS G_ok impl_isNumber_DD hc (by kernel_rfl) (fun K hK => ?_); simp only [ea, gv, sv, D_impl_within, reduceCtorEq, reduceIte, Nat.reduceBEq, Nat.reduceAdd, Nat.reduceEqDiff, Nat.reduceLT, Nat.reduceLeDiff, Nat.reduceMul, Nat.reduceSub, BEq.rfl, beq_self_eq_true, Int.reduceToNat]
  (refine hK _ ?_)
  clear hK K
  refine AWP.ret ?_
  subst hR
  (simp only [en, si, ea, gv, sv, hk, reduceCtorEq, reduceIte, Nat.reduceBEq, Nat.reduceAdd, Nat.reduceEqDiff, Nat.reduceLT, Nat.reduceLeDiff, Nat.reduceMul, Nat.reduceSub, BEq.rfl, beq_self_eq_true, Int.reduceToNat]; done)
def D_impl_isNumber : DF
  | [x0] => some (.bool (impl_isNumber (rdI x0)), false, [wI .i64 x0])
  | _ => none
theorem D_impl_isNumber_ok : OkD Tryd.prog 24 D_impl_isNumber := by
  intro xs r z ob h ho
  unfold D_impl_isNumber at h
  split at h
  · simp only [Option.some.injEq, Prod.mk.injEq] at h
    obtain ⟨rfl, rfl, rfl⟩ := h
    obtain ⟨h0, _⟩ := ho
    exact Den.sim (impl_isNumber_den _ ) (simOL_cons (wI_sim h0).1 <| trivial) (noIdL_cons (wI_sim h0).2 <| rfl) rfl
  · cases h
end Go.Ab

namespace Go.Ab
open Go Go.Proofs
theorem impl_isDay_DD : DOk Tryd.prog (DD [(25, dP D_impl_within)]) := DD_cons D_impl_within_ok.e <| DD_nil _
def impl_isDay (a0 : Int) : Bool :=
  (impl_within a0 0 99999)
theorem impl_isDay_den (a0 : Int)  : Den Tryd.prog 26 [.int .i64 a0] (.bool (impl_isDay a0)) := by
  generalize hR : impl_isDay a0 = r
  unfold impl_isDay at hR
  refine den_intro G_ok Tryd.func26 (by kernel_rfl) rfl Tryd.ntmps26 (by rw [Tryd.results26]) (by simp) rfl ?_
  intro c hL hc hk
  clear hL
  simp only [pars, Nat.zero_add]
  refine AWP.seq ?_
  refine AWP.regS G_ok impl_isDay_DD hc (by kernel_rfl) (fun K hK => ?_); simp only [ea, gv, sv, D_impl_within, reduceCtorEq, reduceIte, Nat.reduceBEq, Nat.reduceAdd, Nat.reduceEqDiff, Nat.reduceLT, Nat.reduceLeDiff, Nat.reduceMul, Nat.reduceSub, BEq.rfl, beq_self_eq_true, Int.reduceToNat]
  (refine hK _ ?_)
  clear hK K
  refine AWP.seq ?_
  refine AWP.regS G_ok impl_isDay_DD hc (by kernel_rfl) (fun K hK => ?_); simp only [ea, gv, sv, D_impl_within, reduceCtorEq, reduceIte, Nat.reduceBEq, Nat.reduceAdd, Nat.reduceEqDiff, Nat.reduceLT, Nat.reduceLeDiff, Nat.reduceMul, Nat.reduceSub, BEq.rfl, beq_self_eq_true, Int.reduceToNat]
  (refine hK _ ?_)
  clear hK K
  refine AWP.ret ?_
  subst hR
  (simp only [en, si, ea, gv, sv, hk, reduceCtorEq, reduceIte, Nat.reduceBEq, Nat.reduceAdd, Nat.reduceEqDiff, Nat.reduceLT, Nat.reduceLeDiff, Nat.reduceMul, Nat.reduceSub, BEq.rfl, beq_self_eq_true, Int.reduceToNat]; done)
def D_impl_isDay : DF
  | [x0] => some (.bool (impl_isDay (rdI x0)), false, [wI .i64 x0])
  | _ => none
theorem D_impl_isDay_ok : OkD Tryd.prog 26 D_impl_isDay := by
  intro xs r z ob h ho
  unfold D_impl_isDay at h
  split at h
  · simp only [Option.some.injEq, Prod.mk.injEq] at h
    obtain ⟨rfl, rfl, rfl⟩ := h
    obtain ⟨h0, _⟩ := ho
    exact Den.sim (impl_isDay_den _ ) (simOL_cons (wI_sim h0).1 <| trivial) (noIdL_cons (wI_sim h0).2 <| rfl) rfl
  · cases h
end Go.Ab

namespace Go.Ab
open Go Go.Proofs
theorem impl_isVisit_DD : DOk Tryd.prog (DD [(24, dP D_impl_isNumber), (25, dP D_impl_within), (26, dP D_impl_isDay)]) := DD_cons D_impl_isNumber_ok.e <| DD_cons D_impl_within_ok.e <| DD_cons D_impl_isDay_ok.e <| DD_nil _
def impl_isVisit (a0 : Visit) : Bool :=
  (((impl_isNumber a0.Aid) && (impl_within a0.Every 1 3650)) && (impl_isDay a0.Last))
theorem impl_isVisit_den (a0 : Visit)  : Den Tryd.prog 14 [.agg (eVisit a0)] (.bool (impl_isVisit a0)) := by
  generalize hR : impl_isVisit a0 = r
  unfold impl_isVisit at hR
  refine den_intro G_ok Tryd.func14 (by kernel_rfl) rfl Tryd.ntmps14 (by rw [Tryd.results14]) (by simp) rfl ?_
  intro c hL hc hk
  clear hL
  simp only [pars, Nat.zero_add]
  refine AWP.seq ?_
  refine AWP.regS G_ok impl_isVisit_DD hc (by kernel_rfl) (fun K hK => ?_); simp only [ea, gv, sv, D_impl_isNumber, D_impl_within, D_impl_isDay, reduceCtorEq, reduceIte, Nat.reduceBEq, Nat.reduceAdd, Nat.reduceEqDiff, Nat.reduceLT, Nat.reduceLeDiff, Nat.reduceMul, Nat.reduceSub, BEq.rfl, beq_self_eq_true, Int.reduceToNat]
  (refine hK _ ?_)
  clear hK K
  refine AWP.seq ?_
  refine AWP.regS G_ok impl_isVisit_DD hc (by kernel_rfl) (fun K hK => ?_); simp only [ea, gv, sv, D_impl_isNumber, D_impl_within, D_impl_isDay, reduceCtorEq, reduceIte, Nat.reduceBEq, Nat.reduceAdd, Nat.reduceEqDiff, Nat.reduceLT, Nat.reduceLeDiff, Nat.reduceMul, Nat.reduceSub, BEq.rfl, beq_self_eq_true, Int.reduceToNat]
  (refine hK _ ?_)
  clear hK K
  refine AWP.ret ?_
  subst hR
  (simp only [en, si, ea, gv, sv, hk, reduceCtorEq, reduceIte, Nat.reduceBEq, Nat.reduceAdd, Nat.reduceEqDiff, Nat.reduceLT, Nat.reduceLeDiff, Nat.reduceMul, Nat.reduceSub, BEq.rfl, beq_self_eq_true, Int.reduceToNat]; done)
def D_impl_isVisit : DF
  | [x0] => some (.bool (impl_isVisit (rdG dVisit x0)), false, [wG eVisit dVisit x0])
  | _ => none
theorem D_impl_isVisit_ok : OkD Tryd.prog 14 D_impl_isVisit := by
  intro xs r z ob h ho
  unfold D_impl_isVisit at h
  split at h
  · simp only [Option.some.injEq, Prod.mk.injEq] at h
    obtain ⟨rfl, rfl, rfl⟩ := h
    obtain ⟨h0, _⟩ := ho
    exact Den.sim (impl_isVisit_den _ ) (simOL_cons (wG_sim h0).1 <| trivial) (noIdL_cons (wG_sim h0).2 <| rfl) rfl
  · cases h
end Go.Ab

namespace Go.Ab
open Go Go.Proofs
theorem impl_isVisit_rng (v : Visit) (h : impl_isVisit v = true) : 1 ≤ v.Aid ∧ v.Aid ≤ 9999 ∧ 1 ≤ v.Every ∧ v.Every ≤ 3650 ∧ 0 ≤ v.Last ∧ v.Last ≤ 99999 := by
  simp only [impl_isVisit, impl_isNumber, impl_isDay, impl_within, Bool.and_eq_true, decide_eq_true_eq] at h
  obtain ⟨⟨⟨h1, h2⟩, h3, h4⟩, h5, h6⟩ := h
  exact ⟨h1, h2, h3, h4, h5, h6⟩
end Go.Ab

namespace Go.Ab
open Go Go.Proofs
theorem impl_VisitText_DD : DOk Tryd.prog (DD [(14, dP D_impl_isVisit), (15, dP D_impl_Decimal)]) := DD_cons D_impl_isVisit_ok.e <| DD_cons D_impl_Decimal_ok.e <| DD_nil _
def impl_VisitText (a0 : Visit) : (List UInt8) :=
  (bif (!(impl_isVisit a0)) then [] else ((((impl_Decimal a0.Aid) ++ [32]) ++ (impl_Decimal a0.Every)) ++ [32]) ++ (impl_Decimal a0.Last))
theorem impl_VisitText_den (a0 : Visit)  : Den Tryd.prog 7 [.agg (eVisit a0)] (.str (impl_VisitText a0)) := by
  generalize hR : impl_VisitText a0 = r
  unfold impl_VisitText at hR
  refine den_intro G_ok Tryd.func7 (by kernel_rfl) rfl Tryd.ntmps7 (by rw [Tryd.results7]) (by simp) rfl ?_
  intro c hL hc hk
  clear hL
  simp only [pars, Nat.zero_add]
  refine AWP.seq ?_
  refine AWP.regS G_ok impl_VisitText_DD hc (by kernel_rfl) (fun K hK => ?_); simp only [ea, gv, sv, D_impl_isVisit, D_impl_Decimal, reduceCtorEq, reduceIte, Nat.reduceBEq, Nat.reduceAdd, Nat.reduceEqDiff, Nat.reduceLT, Nat.reduceLeDiff, Nat.reduceMul, Nat.reduceSub, BEq.rfl, beq_self_eq_true, Int.reduceToNat]
  (refine hK _ ?_)
  clear hK K
  refine AWP.seq ?_
  refine AWP.seq ?_
  refine AWP.regS G_ok impl_VisitText_DD hc (by kernel_rfl) (fun K hK => ?_); simp only [ea, gv, sv, D_impl_isVisit, D_impl_Decimal, reduceCtorEq, reduceIte, Nat.reduceBEq, Nat.reduceAdd, Nat.reduceEqDiff, Nat.reduceLT, Nat.reduceLeDiff, Nat.reduceMul, Nat.reduceSub, BEq.rfl, beq_self_eq_true, Int.reduceToNat]
  (refine hK _ ?_)
  clear hK K
  refine AWP.cond rfl (fun hb => ?_) (fun hb => ?_)
  · (simp only [hb, cond_true] at hR)
    refine AWP.seq ?_
    refine AWP.regS G_ok impl_VisitText_DD hc (by kernel_rfl) (fun K hK => ?_); simp only [ea, gv, sv, D_impl_isVisit, D_impl_Decimal, reduceCtorEq, reduceIte, Nat.reduceBEq, Nat.reduceAdd, Nat.reduceEqDiff, Nat.reduceLT, Nat.reduceLeDiff, Nat.reduceMul, Nat.reduceSub, BEq.rfl, beq_self_eq_true, Int.reduceToNat]
    (refine hK _ ?_)
    clear hK K
    refine AWP.ret ?_
    subst hR
    (simp only [en, si, ea, gv, sv, hk, reduceCtorEq, reduceIte, Nat.reduceBEq, Nat.reduceAdd, Nat.reduceEqDiff, Nat.reduceLT, Nat.reduceLeDiff, Nat.reduceMul, Nat.reduceSub, BEq.rfl, beq_self_eq_true, Int.reduceToNat]; done)
  · (simp only [hb, cond_false] at hR)
    refine AWP.skip ?_
    refine AWP.seq ?_
    refine AWP.regD mixed G_ok impl_VisitText_DD hc 13 (by kernel_rfl) (by kernel_rfl) (fun K hK => ?_); simp only [ea, gv, sv, D_impl_isVisit, D_impl_Decimal, reduceCtorEq, reduceIte, Nat.reduceBEq, Nat.reduceAdd, Nat.reduceEqDiff, Nat.reduceLT, Nat.reduceLeDiff, Nat.reduceMul, Nat.reduceSub, BEq.rfl, beq_self_eq_true, Int.reduceToNat]
    (refine ⟨by ((have h9 := impl_isVisit_rng a0 (by simpa using hb); have l1 := impl_Decimal_len a0.Aid; have l2 := impl_Decimal_len a0.Every; have l3 := impl_Decimal_len a0.Last; simp only [List.length_append, List.length_cons, List.length_nil]; omega)), hK _ ?_⟩)
    clear hK K
    refine AWP.ret ?_
    subst hR
    (simp only [en, si, ea, gv, sv, hk, reduceCtorEq, reduceIte, Nat.reduceBEq, Nat.reduceAdd, Nat.reduceEqDiff, Nat.reduceLT, Nat.reduceLeDiff, Nat.reduceMul, Nat.reduceSub, BEq.rfl, beq_self_eq_true, Int.reduceToNat]; done)
def D_impl_VisitText : DF
  | [x0] => some (.str (impl_VisitText (rdG dVisit x0)), false, [wG eVisit dVisit x0])
  | _ => none
theorem D_impl_VisitText_ok : OkD Tryd.prog 7 D_impl_VisitText := by
  intro xs r z ob h ho
  unfold D_impl_VisitText at h
  split at h
  · simp only [Option.some.injEq, Prod.mk.injEq] at h
    obtain ⟨rfl, rfl, rfl⟩ := h
    obtain ⟨h0, _⟩ := ho
    exact Den.sim (impl_VisitText_den _ ) (simOL_cons (wG_sim h0).1 <| trivial) (noIdL_cons (wG_sim h0).2 <| rfl) rfl
  · cases h
end Go.Ab

namespace Go.Ab
open Go Go.Proofs
theorem laws_FnExactVisitText_DD : DOk Tryd.prog (DD [(5, dP D_spec_VisitText), (6, dP D_laws_toVisit), (7, dP D_impl_VisitText)]) := DD_cons D_spec_VisitText_ok.e <| DD_cons D_laws_toVisit_ok.e <| DD_cons D_impl_VisitText_ok.e <| DD_nil _
def laws_FnExactVisitText (a0 : Visit) : Bool :=
  (bif ((impl_VisitText (laws_toVisit a0)) != (spec_VisitText (laws_toVisit a0))) then false else true)
theorem laws_FnExactVisitText_den (a0 : Visit)  : Den Tryd.prog 3 [.agg (eVisit a0)] (.bool (laws_FnExactVisitText a0)) := by
  generalize hR : laws_FnExactVisitText a0 = r
  unfold laws_FnExactVisitText at hR
  refine den_intro G_ok Tryd.func3 (by kernel_rfl) rfl Tryd.ntmps3 (by rw [Tryd.results3]) (by simp) rfl ?_
  intro c hL hc hk
  clear hL
  simp only [pars, Nat.zero_add]
  refine AWP.seq ?_
  refine AWP.regS G_ok laws_FnExactVisitText_DD hc (by kernel_rfl) (fun K hK => ?_); simp only [ea, gv, sv, D_spec_VisitText, D_laws_toVisit, D_impl_VisitText, reduceCtorEq, reduceIte, Nat.reduceBEq, Nat.reduceAdd, Nat.reduceEqDiff, Nat.reduceLT, Nat.reduceLeDiff, Nat.reduceMul, Nat.reduceSub, BEq.rfl, beq_self_eq_true, Int.reduceToNat]
  (refine hK _ ?_)
  clear hK K
  refine AWP.seq ?_
  refine AWP.regS G_ok laws_FnExactVisitText_DD hc (by kernel_rfl) (fun K hK => ?_); simp only [ea, gv, sv, D_spec_VisitText, D_laws_toVisit, D_impl_VisitText, reduceCtorEq, reduceIte, Nat.reduceBEq, Nat.reduceAdd, Nat.reduceEqDiff, Nat.reduceLT, Nat.reduceLeDiff, Nat.reduceMul, Nat.reduceSub, BEq.rfl, beq_self_eq_true, Int.reduceToNat]
  (refine hK _ ?_)
  clear hK K
  refine AWP.seq ?_
  refine AWP.regS G_ok laws_FnExactVisitText_DD hc (by kernel_rfl) (fun K hK => ?_); simp only [ea, gv, sv, D_spec_VisitText, D_laws_toVisit, D_impl_VisitText, reduceCtorEq, reduceIte, Nat.reduceBEq, Nat.reduceAdd, Nat.reduceEqDiff, Nat.reduceLT, Nat.reduceLeDiff, Nat.reduceMul, Nat.reduceSub, BEq.rfl, beq_self_eq_true, Int.reduceToNat]
  (refine hK _ ?_)
  clear hK K
  refine AWP.seq ?_
  refine AWP.seq ?_
  refine AWP.regS G_ok laws_FnExactVisitText_DD hc (by kernel_rfl) (fun K hK => ?_); simp only [ea, gv, sv, D_spec_VisitText, D_laws_toVisit, D_impl_VisitText, reduceCtorEq, reduceIte, Nat.reduceBEq, Nat.reduceAdd, Nat.reduceEqDiff, Nat.reduceLT, Nat.reduceLeDiff, Nat.reduceMul, Nat.reduceSub, BEq.rfl, beq_self_eq_true, Int.reduceToNat]
  (refine hK _ ?_)
  clear hK K
  refine AWP.cond rfl (fun hb => ?_) (fun hb => ?_)
  · (simp only [hb, cond_true] at hR)
    refine AWP.seq ?_
    refine AWP.regS G_ok laws_FnExactVisitText_DD hc (by kernel_rfl) (fun K hK => ?_); simp only [ea, gv, sv, D_spec_VisitText, D_laws_toVisit, D_impl_VisitText, reduceCtorEq, reduceIte, Nat.reduceBEq, Nat.reduceAdd, Nat.reduceEqDiff, Nat.reduceLT, Nat.reduceLeDiff, Nat.reduceMul, Nat.reduceSub, BEq.rfl, beq_self_eq_true, Int.reduceToNat]
    (refine hK _ ?_)
    clear hK K
    refine AWP.ret ?_
    subst hR
    (simp only [en, si, ea, gv, sv, hk, reduceCtorEq, reduceIte, Nat.reduceBEq, Nat.reduceAdd, Nat.reduceEqDiff, Nat.reduceLT, Nat.reduceLeDiff, Nat.reduceMul, Nat.reduceSub, BEq.rfl, beq_self_eq_true, Int.reduceToNat]; done)
  · (simp only [hb, cond_false] at hR)
    refine AWP.skip ?_
    refine AWP.seq ?_
    refine AWP.regS G_ok laws_FnExactVisitText_DD hc (by kernel_rfl) (fun K hK => ?_); simp only [ea, gv, sv, D_spec_VisitText, D_laws_toVisit, D_impl_VisitText, reduceCtorEq, reduceIte, Nat.reduceBEq, Nat.reduceAdd, Nat.reduceEqDiff, Nat.reduceLT, Nat.reduceLeDiff, Nat.reduceMul, Nat.reduceSub, BEq.rfl, beq_self_eq_true, Int.reduceToNat]
    (refine hK _ ?_)
    clear hK K
    refine AWP.ret ?_
    subst hR
    (simp only [en, si, ea, gv, sv, hk, reduceCtorEq, reduceIte, Nat.reduceBEq, Nat.reduceAdd, Nat.reduceEqDiff, Nat.reduceLT, Nat.reduceLeDiff, Nat.reduceMul, Nat.reduceSub, BEq.rfl, beq_self_eq_true, Int.reduceToNat]; done)
def D_laws_FnExactVisitText : DF
  | [x0] => some (.bool (laws_FnExactVisitText (rdG dVisit x0)), false, [wG eVisit dVisit x0])
  | _ => none
theorem D_laws_FnExactVisitText_ok : OkD Tryd.prog 3 D_laws_FnExactVisitText := by
  intro xs r z ob h ho
  unfold D_laws_FnExactVisitText at h
  split at h
  · simp only [Option.some.injEq, Prod.mk.injEq] at h
    obtain ⟨rfl, rfl, rfl⟩ := h
    obtain ⟨h0, _⟩ := ho
    exact Den.sim (laws_FnExactVisitText_den _ ) (simOL_cons (wG_sim h0).1 <| trivial) (noIdL_cons (wG_sim h0).2 <| rfl) rfl
  · cases h
end Go.Ab

namespace Go.Ab
open Go Go.Proofs
theorem visitText_eq (v : Visit) : impl_VisitText v = spec_VisitText v := by
  unfold impl_VisitText spec_VisitText
  have h : impl_isVisit v = spec_l30One v := by
    apply Bool.eq_iff_iff.2
    simp only [impl_isVisit, impl_isNumber, impl_isDay, impl_within, spec_l30One, spec_l20Number, spec_l00In, spec_l04Day, Bool.and_eq_true, decide_eq_true_eq]
  rw [h]
  cases h1 : spec_l30One v with
  | false => rfl
  | true =>
    have hr := spec_l30One_rng v h1
    simp only [Bool.not_true, cond_false]
    unfold spec_l30Text
    rw [spec_l01Dec_eq _ (by omega) (by omega), spec_l01Dec_eq _ (by omega) (by omega), spec_l01Dec_eq _ (by omega) (by omega)]
    rfl
theorem law_VisitText (a0 : Visit) : laws_FnExactVisitText a0 = true := by
  unfold laws_FnExactVisitText
  rw [visitText_eq]
  simp
end Go.Ab

namespace Go.Ab
open Go Go.Proofs Go.Deep Go.ChangeShapes Go.WideShapes Go.ChangeAt Go.RowKit
set_option maxRecDepth 100000
theorem rdT23 : Rd Tryd.prog 23 eVisit := by
  intro H enc W base sp hd fuel cs x h
  obtain ⟨hl, hf⟩ := rd_fields Tryd.underlying23 h
  have e0 : Tryd.prog.cellsOf 23 = 3 := by kernel_rfl
  rw [e0] at hl
  obtain ⟨n0, y0, g0⟩ := hf 0 _ rfl
  have c0 : Tryd.prog.cellsOf 2 = 1 := by kernel_rfl
  obtain ⟨v0, r0, o0⟩ := (rd_int (k := .i64) Tryd.underlying2) g0
  replace r0 : RepL W (fun _ => False) ([.int .i64 v0]) noMap ((cs.drop 0).take (Tryd.prog.cellsOf 2)) [] := r0
  replace o0 : ∀ u ∈ (cs.drop 0).take (Tryd.prog.cellsOf 2), u.oneCell' = true := o0
  rw [c0] at r0 o0
  obtain ⟨n1, y1, g1⟩ := hf 1 _ rfl
  have c1 : Tryd.prog.cellsOf 2 = 1 := by kernel_rfl
  obtain ⟨v1, r1, o1⟩ := (rd_int (k := .i64) Tryd.underlying2) g1
  replace r1 : RepL W (fun _ => False) ([.int .i64 v1]) noMap ((cs.drop 1).take (Tryd.prog.cellsOf 2)) [] := r1
  replace o1 : ∀ u ∈ (cs.drop 1).take (Tryd.prog.cellsOf 2), u.oneCell' = true := o1
  rw [c1] at r1 o1
  obtain ⟨n2, y2, g2⟩ := hf 2 _ rfl
  have c2 : Tryd.prog.cellsOf 2 = 1 := by kernel_rfl
  obtain ⟨v2, r2, o2⟩ := (rd_int (k := .i64) Tryd.underlying2) g2
  replace r2 : RepL W (fun _ => False) ([.int .i64 v2]) noMap ((cs.drop 2).take (Tryd.prog.cellsOf 2)) [] := r2
  replace o2 : ∀ u ∈ (cs.drop 2).take (Tryd.prog.cellsOf 2), u.oneCell' = true := o2
  rw [c2] at r2 o2
  refine ⟨⟨v0, v1, v2⟩, ?_, ?_⟩
  · exact split_rep (o := 0) (k := 1) r0 (split_rep (o := 1) (k := 1) r1 (split_rep (o := 2) (k := 1) r2 (end_rep (o := 3) (by omega))))
  · exact split_one (o := 0) (k := 1) o0 (split_one (o := 1) (k := 1) o1 (split_one (o := 2) (k := 1) o2 (end_one (o := 3) (by omega))))
theorem rdT29 : Rd Tryd.prog 29 eEntry := by
  intro H enc W base sp hd fuel cs x h
  obtain ⟨hl, hf⟩ := rd_fields Tryd.underlying29 h
  have e0 : Tryd.prog.cellsOf 29 = 3 := by kernel_rfl
  rw [e0] at hl
  obtain ⟨n0, y0, g0⟩ := hf 0 _ rfl
  have c0 : Tryd.prog.cellsOf 2 = 1 := by kernel_rfl
  obtain ⟨v0, r0, o0⟩ := (rd_int (k := .i64) Tryd.underlying2) g0
  replace r0 : RepL W (fun _ => False) ([.int .i64 v0]) noMap ((cs.drop 0).take (Tryd.prog.cellsOf 2)) [] := r0
  replace o0 : ∀ u ∈ (cs.drop 0).take (Tryd.prog.cellsOf 2), u.oneCell' = true := o0
  rw [c0] at r0 o0
  obtain ⟨n1, y1, g1⟩ := hf 1 _ rfl
  have c1 : Tryd.prog.cellsOf 9 = 1 := by kernel_rfl
  obtain ⟨v1, r1, o1⟩ := (rd_str Tryd.underlying9) g1
  replace r1 : RepL W (fun _ => False) ([.str v1]) noMap ((cs.drop 1).take (Tryd.prog.cellsOf 9)) [] := r1
  replace o1 : ∀ u ∈ (cs.drop 1).take (Tryd.prog.cellsOf 9), u.oneCell' = true := o1
  rw [c1] at r1 o1
  obtain ⟨n2, y2, g2⟩ := hf 2 _ rfl
  have c2 : Tryd.prog.cellsOf 2 = 1 := by kernel_rfl
  obtain ⟨v2, r2, o2⟩ := (rd_int (k := .i64) Tryd.underlying2) g2
  replace r2 : RepL W (fun _ => False) ([.int .i64 v2]) noMap ((cs.drop 2).take (Tryd.prog.cellsOf 2)) [] := r2
  replace o2 : ∀ u ∈ (cs.drop 2).take (Tryd.prog.cellsOf 2), u.oneCell' = true := o2
  rw [c2] at r2 o2
  refine ⟨⟨v0, v1, v2⟩, ?_, ?_⟩
  · exact split_rep (o := 0) (k := 1) r0 (split_rep (o := 1) (k := 1) r1 (split_rep (o := 2) (k := 1) r2 (end_rep (o := 3) (by omega))))
  · exact split_one (o := 0) (k := 1) o0 (split_one (o := 1) (k := 1) o1 (split_one (o := 2) (k := 1) o2 (end_one (o := 3) (by omega))))
end Go.Ab
