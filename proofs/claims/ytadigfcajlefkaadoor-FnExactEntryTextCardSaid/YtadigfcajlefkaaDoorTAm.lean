/- A part of a proof: walks of functions and lemmas of our own. No conditions. -/
import Derived.Shelf.Strings.Builder1
import Derived.Shelf.Strings.Builder2
import Derived.Shelf.Strings.BuilderF
import Derived.Shelf.Strconv.Itoa0
import Derived.Shelf.Strconv.Itoa1
import Derived.Shelf.LaysM
import Derived.Shelf.Strconv.Itoa2
import Derived.Shelf.Strconv.Itoa3
import Derived.Shelf.Strconv.Itoa4
import Derived.Shelf.Strings.Prefix
import Derived.Shelf.Bits.Mul64
import Derived.Shelf.Strings.Repeat
import Derived.Test.YtadigfcajlefkaaDoorProg
import Derived.Test.YtadigfcajlefkaaDoorTAl
import Derived.Below
import Derived.Test.YtadigfcajlefkaaDoorTAj
import Derived.Test.YtadigfcajlefkaaDoorTAk
import Derived.Test.YtadigfcajlefkaaDoorTAh
import Derived.Test.YtadigfcajlefkaaDoorTAi
import Derived.Test.YtadigfcajlefkaaDoorRows
set_option linter.unusedSectionVars false
set_option linter.unusedVariables false
set_option linter.unusedSimpArgs false
namespace Go.Proofs
open Go.Shelf
def Tryd.laysM173_ren : Go.Shelf.Ren := ⟨fun | 173 => 27 | 246 => 34 | 283 => 44 | 284 => 45 | 285 => 46 | 286 => 47 | 129 => 57 | 317 => 56 | 318 => 58 | 319 => 59 | 320 => 60 | 337 => 68 | 338 => 69 | n => n, fun | 2 => 2 | 3 => 3 | 9 => 9 | 4 => 4 | 171 => 57 | 0 => 0 | 53 => 58 | 37 => 50 | 5 => 5 | 173 => 61 | 212 => 80 | 51 => 81 | 20 => 20 | 213 => 82 | 46 => 64 | 232 => 94 | 233 => 95 | n => n, fun | 17 => 0 | 18 => 1 | 19 => 2 | n => n⟩
theorem Tryd.laysM173 : Go.Proofs.LaysM.n173 Tryd.prog Tryd.laysM173_ren := {
  mixed := by kernel_rfl
  f129 := Tryd.func57.trans (congrArg some (by kernel_rfl))
  f173 := Tryd.func27.trans (congrArg some (by kernel_rfl))
  f246 := Tryd.func34.trans (congrArg some (by kernel_rfl))
  f283 := Tryd.func44.trans (congrArg some (by kernel_rfl))
  f284 := Tryd.func45.trans (congrArg some (by kernel_rfl))
  f285 := Tryd.func46.trans (congrArg some (by kernel_rfl))
  f286 := Tryd.func47.trans (congrArg some (by kernel_rfl))
  f317 := Tryd.func56.trans (congrArg some (by kernel_rfl))
  f318 := Tryd.func58.trans (congrArg some (by kernel_rfl))
  f319 := Tryd.func59.trans (congrArg some (by kernel_rfl))
  f320 := Tryd.func60.trans (congrArg some (by kernel_rfl))
  f337 := Tryd.func68.trans (congrArg some (by kernel_rfl))
  f338 := Tryd.func69.trans (congrArg some (by kernel_rfl))
  t0 := Tryd.underlying0
  a0 := Tryd.isAgg0
  z0 := Tryd.sizeOf0
  v0 := Tryd.zeroValue0
  t2 := Tryd.underlying2
  a2 := Tryd.isAgg2
  z2 := Tryd.sizeOf2
  v2 := Tryd.zeroValue2
  t3 := Tryd.underlying3
  a3 := Tryd.isAgg3
  z3 := Tryd.sizeOf3
  v3 := Tryd.zeroValue3
  t4 := Tryd.underlying4
  a4 := Tryd.isAgg4
  z4 := Tryd.sizeOf4
  v4 := Tryd.zeroValue4
  t5 := Tryd.underlying5
  a5 := Tryd.isAgg5
  z5 := Tryd.sizeOf5
  v5 := Tryd.zeroValue5
  t9 := Tryd.underlying9
  a9 := Tryd.isAgg9
  z9 := Tryd.sizeOf9
  v9 := Tryd.zeroValue9
  t20 := Tryd.underlying20
  a20 := Tryd.isAgg20
  z20 := Tryd.sizeOf20
  v20 := Tryd.zeroValue20
  t37 := Tryd.underlying50
  a37 := Tryd.isAgg50
  z37 := Tryd.sizeOf50
  v37 := Tryd.zeroValue50
  t46 := Tryd.underlying64
  a46 := Tryd.isAgg64
  z46 := Tryd.sizeOf64
  v46 := Tryd.zeroValue64
  t51 := Tryd.underlying81
  a51 := Tryd.isAgg81
  z51 := Tryd.sizeOf81
  v51 := Tryd.zeroValue81
  t53 := Tryd.underlying58
  a53 := Tryd.isAgg58
  z53 := Tryd.sizeOf58
  v53 := Tryd.zeroValue58
  t171 := Tryd.underlying57
  a171 := Tryd.isAgg57
  z171 := Tryd.sizeOf57
  v171 := Tryd.zeroValue57
  t173 := Tryd.underlying61
  a173 := Tryd.isAgg61
  z173 := Tryd.sizeOf61
  v173 := Tryd.zeroValue61
  t212 := Tryd.underlying80
  a212 := Tryd.isAgg80
  z212 := Tryd.sizeOf80
  v212 := Tryd.zeroValue80
  t213 := Tryd.underlying82
  a213 := Tryd.isAgg82
  z213 := Tryd.sizeOf82
  t232 := Tryd.underlying94
  a232 := Tryd.isAgg94
  z232 := Tryd.sizeOf94
  v232 := Tryd.zeroValue94
  t233 := Tryd.underlying95
  a233 := Tryd.isAgg95
  z233 := Tryd.sizeOf95
  v233 := Tryd.zeroValue95
  g17 := by kernel_rfl
  g18 := by kernel_rfl
  g19 := by kernel_rfl
  i0 := by kernel_rfl
  i2 := by kernel_rfl
  i3 := by kernel_rfl
  i4 := by kernel_rfl
  i5 := by kernel_rfl
  i9 := by kernel_rfl
  i20 := by kernel_rfl
  i37 := by kernel_rfl
  i46 := by kernel_rfl
  i51 := by kernel_rfl
  i53 := by kernel_rfl
  i171 := by kernel_rfl
  i173 := by kernel_rfl
  i212 := by kernel_rfl
  i232 := by kernel_rfl
  i233 := by kernel_rfl
  m17 := by kernel_rfl
  m18 := by kernel_rfl
  m19 := by kernel_rfl }
def Tryd.lays105_ren : Go.Shelf.Ren := ⟨fun | 105 => 43 | 212 => 50 | 99 => 51 | 165 => 52 | 166 => 53 | 170 => 54 | 169 => 55 | 263 => 63 | 264 => 64 | 206 => 65 | 240 => 66 | 241 => 67 | 276 => 70 | 277 => 71 | n => n, fun | 9 => 9 | 3 => 3 | 4 => 4 | 20 => 20 | 0 => 0 | 46 => 64 | 109 => 65 | 5 => 5 | 72 => 70 | 76 => 74 | 51 => 81 | 146 => 85 | 53 => 58 | 148 => 87 | 70 => 68 | 37 => 50 | 75 => 73 | 127 => 89 | 164 => 91 | 80 => 77 | n => n, fun | n => n⟩
theorem Tryd.lays105 : Go.Proofs.Lays.n105 Tryd.prog Tryd.lays105_ren := {
  mixed := by kernel_rfl
  f99 := Tryd.func51.trans (congrArg some (by kernel_rfl))
  f105 := Tryd.func43.trans (congrArg some (by kernel_rfl))
  f165 := Tryd.func52.trans (congrArg some (by kernel_rfl))
  f166 := Tryd.func53.trans (congrArg some (by kernel_rfl))
  f169 := Tryd.func55.trans (congrArg some (by kernel_rfl))
  f170 := Tryd.func54.trans (congrArg some (by kernel_rfl))
  f206 := Tryd.func65.trans (congrArg some (by kernel_rfl))
  f212 := Tryd.func50.trans (congrArg some (by kernel_rfl))
  f240 := Tryd.func66.trans (congrArg some (by kernel_rfl))
  f241 := Tryd.func67.trans (congrArg some (by kernel_rfl))
  f263 := Tryd.func63.trans (congrArg some (by kernel_rfl))
  f264 := Tryd.func64.trans (congrArg some (by kernel_rfl))
  f276 := Tryd.func70.trans (congrArg some (by kernel_rfl))
  f277 := Tryd.func71.trans (congrArg some (by kernel_rfl))
  t0 := Tryd.underlying0
  a0 := Tryd.isAgg0
  z0 := Tryd.sizeOf0
  v0 := Tryd.zeroValue0
  t3 := Tryd.underlying3
  a3 := Tryd.isAgg3
  z3 := Tryd.sizeOf3
  v3 := Tryd.zeroValue3
  t4 := Tryd.underlying4
  a4 := Tryd.isAgg4
  z4 := Tryd.sizeOf4
  v4 := Tryd.zeroValue4
  t5 := Tryd.underlying5
  a5 := Tryd.isAgg5
  z5 := Tryd.sizeOf5
  v5 := Tryd.zeroValue5
  t9 := Tryd.underlying9
  a9 := Tryd.isAgg9
  z9 := Tryd.sizeOf9
  v9 := Tryd.zeroValue9
  t20 := Tryd.underlying20
  a20 := Tryd.isAgg20
  z20 := Tryd.sizeOf20
  v20 := Tryd.zeroValue20
  t37 := Tryd.underlying50
  a37 := Tryd.isAgg50
  z37 := Tryd.sizeOf50
  v37 := Tryd.zeroValue50
  t46 := Tryd.underlying64
  a46 := Tryd.isAgg64
  z46 := Tryd.sizeOf64
  v46 := Tryd.zeroValue64
  t51 := Tryd.underlying81
  a51 := Tryd.isAgg81
  z51 := Tryd.sizeOf81
  v51 := Tryd.zeroValue81
  t53 := Tryd.underlying58
  a53 := Tryd.isAgg58
  z53 := Tryd.sizeOf58
  v53 := Tryd.zeroValue58
  t70 := Tryd.underlying68
  a70 := Tryd.isAgg68
  z70 := Tryd.sizeOf68
  v70 := Tryd.zeroValue68
  t72 := Tryd.underlying70
  a72 := Tryd.isAgg70
  z72 := Tryd.sizeOf70
  v72 := Tryd.zeroValue70
  t75 := Tryd.underlying73
  a75 := Tryd.isAgg73
  z75 := Tryd.sizeOf73
  v75 := Tryd.zeroValue73
  t76 := Tryd.underlying74
  a76 := Tryd.isAgg74
  z76 := Tryd.sizeOf74
  v76 := Tryd.zeroValue74
  t109 := Tryd.underlying65
  a109 := Tryd.isAgg65
  z109 := Tryd.sizeOf65
  v109 := Tryd.zeroValue65
  t127 := Tryd.underlying89
  a127 := Tryd.isAgg89
  z127 := Tryd.sizeOf89
  v127 := Tryd.zeroValue89
  t146 := Tryd.underlying85
  a146 := Tryd.isAgg85
  z146 := Tryd.sizeOf85
  v146 := Tryd.zeroValue85
  t148 := Tryd.underlying87
  a148 := Tryd.isAgg87
  z148 := Tryd.sizeOf87
  v148 := Tryd.zeroValue87
  t164 := Tryd.underlying91
  a164 := Tryd.isAgg91
  z164 := Tryd.sizeOf91
  v164 := Tryd.zeroValue91 }
theorem Tryd.Builder_Extra_105 : Builder.Extra Tryd.prog Tryd.lays105_ren := {
  sizeBuilder := by kernel_rfl
  liesBuilder := by kernel_rfl
  t5 := Tryd.underlying5
  a5 := Tryd.isAgg5
  z5 := Tryd.sizeOf5
  v5 := Tryd.zeroValue5
  infoByte := by kernel_rfl
  cellsByte := by kernel_rfl
  sizeByte := by kernel_rfl
  neB5 := by decide }
end Go.Proofs

namespace Go.Ab
open Go Go.Proofs
theorem grow_drewN (w : World) (k : Nat) (os : Array Obj) : Grow w (Go.Sort.grow (w.drewN k) os) := by
  refine ⟨rfl, rfl, rfl, ?_, fun i hi => ?_⟩
  · show w.heap.size ≤ (w.heap ++ os).size
    simp
  · show (w.heap ++ os)[i]? = w.heap[i]?
    rw [Array.getElem?_append_left hi]
open Go.RowKit in
theorem below_grow {w w' : World} (h : Below w.heap.size w w') : Grow w w' := ⟨h.os, h.tape, h.output, h.size, fun k hk => h.block k hk⟩
theorem decDigits_len (u : Nat) : (Go.Lib.decDigits u).length ≤ u / 2 + 1 := by
  induction u using Nat.strongRecOn with
  | ind u ih =>
    rw [Go.Lib.decDigits]
    split
    · simp
    · have := ih (u / 10) (by omega)
      simp only [List.length_append, List.length_cons, List.length_nil]
      omega
theorem itoa_len {n : Int} (h1 : -9223372036854775808 ≤ n) (h2 : n ≤ 9223372036854775807) : (Go.Lib.itoa n).length ≤ maxLen := by
  unfold Go.Lib.itoa maxLen
  split
  · have := decDigits_len n.natAbs
    simp only [List.length_cons]
    omega
  · have := decDigits_len n.toNat
    omega
theorem repeatL_len (l : List UInt8) (c : Nat) : (Go.Lib.repeatL l c).length = l.length * c := by
  rw [Go.Lib.repeatL_length, Nat.mul_comm]
end Go.Ab

namespace Go.Ab
open Go Go.Proofs
theorem strconv_FormatInt_DD : DOk Tryd.prog (DD []) := DD_nil _
def strconv_FormatInt (a0 : Int) (a1 : Int) : (List UInt8) := Go.Lib.itoa a0
theorem strconv_FormatInt_den (a0 : Int) (a1 : Int) (hp0 : a1 = 10) (hp1 : -9223372036854775808 ≤ a0) (hp2 : a0 ≤ 9223372036854775807) : Den Tryd.prog 27 [.int .i64 a0, .int .i64 a1] (.str (strconv_FormatInt a0 a1)) := by
  subst hp0
  refine Den.plain ⟨_, Tryd.func27, rfl, rfl⟩ (by simp [NoOwnL, NoOwn]) ?_
  intro w M vs hI hr
  simp only [RepL] at hr
  obtain ⟨u0, us0, f0, g0, rfl, h0e, h0, u1, us1, f1, g1, rfl, h1e, h1, rfl, _⟩ := hr
  have e0 := h0.val_int
  have e1 := h1.val_int
  subst e0 e1
  refine (Any.strconv_FormatInt_10 Tryd.laysM173 a0 hp1 hp2 w hI).mono ?_
  rintro e w' ⟨rfl, k, os, rfl⟩
  exact ⟨_, rfl, grow_drewN w k os, fun M' => rep_str _ (itoa_len hp1 hp2)⟩
def D_strconv_FormatInt : DF
  | [x0, x1] => some (.str (strconv_FormatInt (rdI x0) (rdI x1)), false, [wI .i64 x0, wI .i64 x1, (rdI x1) = 10, -9223372036854775808 ≤ (rdI x0), (rdI x0) ≤ 9223372036854775807])
  | _ => none
theorem D_strconv_FormatInt_ok : OkD Tryd.prog 27 D_strconv_FormatInt := by
  intro xs r z ob h ho
  unfold D_strconv_FormatInt at h
  split at h
  · simp only [Option.some.injEq, Prod.mk.injEq] at h
    obtain ⟨rfl, rfl, rfl⟩ := h
    obtain ⟨h0, h1, hp0, hp1, hp2, _⟩ := ho
    exact Den.sim (strconv_FormatInt_den _ _ hp0 hp1 hp2) (simOL_cons (wI_sim h0).1 <| simOL_cons (wI_sim h1).1 <| trivial) (noIdL_cons (wI_sim h0).2 <| noIdL_cons (wI_sim h1).2 <| rfl) rfl
  · cases h
end Go.Ab

namespace Go.Ab
open Go Go.Proofs
theorem impl_Decimal_DD : DOk Tryd.prog (DD [(27, dP D_strconv_FormatInt)]) := DD_cons D_strconv_FormatInt_ok.e <| DD_nil _
def impl_Decimal (a0 : Int) : (List UInt8) :=
  (strconv_FormatInt a0 10)
theorem impl_Decimal_den (a0 : Int) (hp0 : -9223372036854775808 ≤ a0) (hp1 : a0 ≤ 9223372036854775807) : Den Tryd.prog 15 [.int .i64 a0] (.str (impl_Decimal a0)) := by
  generalize hR : impl_Decimal a0 = r
  unfold impl_Decimal at hR
  refine den_intro G_ok Tryd.func15 (by kernel_rfl) rfl Tryd.ntmps15 (by rw [Tryd.results15]) (by simp) rfl ?_
  intro c hL hc hk
  clear hL
  simp only [pars, Nat.zero_add]
  refine AWP.seq ?_
  refine AWP.regS G_ok impl_Decimal_DD hc (by kernel_rfl) (fun K hK => ?_); simp only [ea, gv, sv, D_strconv_FormatInt, reduceCtorEq, reduceIte, Nat.reduceBEq, Nat.reduceAdd, Nat.reduceEqDiff, Nat.reduceLT, Nat.reduceLeDiff, Nat.reduceMul, Nat.reduceSub, BEq.rfl, beq_self_eq_true, Int.reduceToNat]
  (refine hK _ ?_)
  clear hK K
  refine AWP.seq ?_
  refine AWP.regS G_ok impl_Decimal_DD hc (by kernel_rfl) (fun K hK => ?_); simp only [ea, gv, sv, D_strconv_FormatInt, reduceCtorEq, reduceIte, Nat.reduceBEq, Nat.reduceAdd, Nat.reduceEqDiff, Nat.reduceLT, Nat.reduceLeDiff, Nat.reduceMul, Nat.reduceSub, BEq.rfl, beq_self_eq_true, Int.reduceToNat]
  (refine ⟨by (trivial), hK _ ?_⟩)
  clear hK K
  refine AWP.ret ?_
  subst hR
  (simp only [en, si, ea, gv, sv, hk, reduceCtorEq, reduceIte, Nat.reduceBEq, Nat.reduceAdd, Nat.reduceEqDiff, Nat.reduceLT, Nat.reduceLeDiff, Nat.reduceMul, Nat.reduceSub, BEq.rfl, beq_self_eq_true, Int.reduceToNat]; done)
def D_impl_Decimal : DF
  | [x0] => some (.str (impl_Decimal (rdI x0)), false, [wI .i64 x0, -9223372036854775808 ≤ (rdI x0), (rdI x0) ≤ 9223372036854775807])
  | _ => none
theorem D_impl_Decimal_ok : OkD Tryd.prog 15 D_impl_Decimal := by
  intro xs r z ob h ho
  unfold D_impl_Decimal at h
  split at h
  · simp only [Option.some.injEq, Prod.mk.injEq] at h
    obtain ⟨rfl, rfl, rfl⟩ := h
    obtain ⟨h0, hp0, hp1, _⟩ := ho
    exact Den.sim (impl_Decimal_den _ hp0 hp1) (simOL_cons (wI_sim h0).1 <| trivial) (noIdL_cons (wI_sim h0).2 <| rfl) rfl
  · cases h
end Go.Ab

namespace Go.Ab
open Go Go.Proofs
theorem impl_within_DD : DOk Tryd.prog (DD []) := DD_nil _
def impl_within (a0 : Int) (a1 : Int) (a2 : Int) : Bool :=
  (decide (a1 ≤ a0) && decide (a0 ≤ a2))
theorem impl_within_den (a0 : Int) (a1 : Int) (a2 : Int)  : Den Tryd.prog 25 [.int .i64 a0, .int .i64 a1, .int .i64 a2] (.bool (impl_within a0 a1 a2)) := by
  generalize hR : impl_within a0 a1 a2 = r
  unfold impl_within at hR
  refine den_intro G_ok Tryd.func25 (by kernel_rfl) rfl Tryd.ntmps25 (by rw [Tryd.results25]) (by simp) rfl ?_
  intro c hL hc hk
  clear hL
  simp only [pars, Nat.zero_add]
  refine AWP.seq ?_
  refine AWP.regS G_ok impl_within_DD hc (by kernel_rfl) (fun K hK => ?_); simp only [ea, gv, sv, reduceCtorEq, reduceIte, Nat.reduceBEq, Nat.reduceAdd, Nat.reduceEqDiff, Nat.reduceLT, Nat.reduceLeDiff, Nat.reduceMul, Nat.reduceSub, BEq.rfl, beq_self_eq_true, Int.reduceToNat]
  (refine hK _ ?_)
  clear hK K
  refine AWP.seq ?_
  refine AWP.regS G_ok impl_within_DD hc (by kernel_rfl) (fun K hK => ?_); simp only [ea, gv, sv, reduceCtorEq, reduceIte, Nat.reduceBEq, Nat.reduceAdd, Nat.reduceEqDiff, Nat.reduceLT, Nat.reduceLeDiff, Nat.reduceMul, Nat.reduceSub, BEq.rfl, beq_self_eq_true, Int.reduceToNat]
  (refine hK _ ?_)
  clear hK K
  refine AWP.ret ?_
  subst hR
  (simp only [en, si, ea, gv, sv, hk, reduceCtorEq, reduceIte, Nat.reduceBEq, Nat.reduceAdd, Nat.reduceEqDiff, Nat.reduceLT, Nat.reduceLeDiff, Nat.reduceMul, Nat.reduceSub, BEq.rfl, beq_self_eq_true, Int.reduceToNat]; done)
def D_impl_within : DF
  | [x0, x1, x2] => some (.bool (impl_within (rdI x0) (rdI x1) (rdI x2)), false, [wI .i64 x0, wI .i64 x1, wI .i64 x2])
  | _ => none
theorem D_impl_within_ok : OkD Tryd.prog 25 D_impl_within := by
  intro xs r z ob h ho
  unfold D_impl_within at h
  split at h
  · simp only [Option.some.injEq, Prod.mk.injEq] at h
    obtain ⟨rfl, rfl, rfl⟩ := h
    obtain ⟨h0, h1, h2, _⟩ := ho
    exact Den.sim (impl_within_den _ _ _ ) (simOL_cons (wI_sim h0).1 <| simOL_cons (wI_sim h1).1 <| simOL_cons (wI_sim h2).1 <| trivial) (noIdL_cons (wI_sim h0).2 <| noIdL_cons (wI_sim h1).2 <| noIdL_cons (wI_sim h2).2 <| rfl) rfl
  · cases h
end Go.Ab

namespace Go.Ab
open Go Go.Proofs
theorem impl_isDay_DD : DOk Tryd.prog (DD [(25, dP D_impl_within)]) := DD_cons D_impl_within_ok.e <| DD_nil _
def impl_isDay (a0 : Int) : Bool :=
  (impl_within a0 0 99999)
theorem impl_isDay_den (a0 : Int)  : Den Tryd.prog 26 [.int .i64 a0] (.bool (impl_isDay a0)) := by
  generalize hR : impl_isDay a0 = r
  unfold impl_isDay at hR
  refine den_intro G_ok Tryd.func26 (by kernel_rfl) rfl Tryd.ntmps26 (by rw [Tryd.results26]) (by simp) rfl ?_
  intro c hL hc hk
  clear hL
  simp only [pars, Nat.zero_add]
  refine AWP.seq ?_
  refine AWP.regS G_ok impl_isDay_DD hc (by kernel_rfl) (fun K hK => ?_); simp only [ea, gv, sv, D_impl_within, reduceCtorEq, reduceIte, Nat.reduceBEq, Nat.reduceAdd, Nat.reduceEqDiff, Nat.reduceLT, Nat.reduceLeDiff, Nat.reduceMul, Nat.reduceSub, BEq.rfl, beq_self_eq_true, Int.reduceToNat]
  (refine hK _ ?_)
  clear hK K
  refine AWP.seq ?_
  refine AWP.regS G_ok impl_isDay_DD hc (by kernel_rfl) (fun K hK => ?_); simp only [ea, gv, sv, D_impl_within, reduceCtorEq, reduceIte, Nat.reduceBEq, Nat.reduceAdd, Nat.reduceEqDiff, Nat.reduceLT, Nat.reduceLeDiff, Nat.reduceMul, Nat.reduceSub, BEq.rfl, beq_self_eq_true, Int.reduceToNat]
  (refine hK _ ?_)
  clear hK K
  refine AWP.ret ?_
  subst hR
  (simp only [en, si, ea, gv, sv, hk, reduceCtorEq, reduceIte, Nat.reduceBEq, Nat.reduceAdd, Nat.reduceEqDiff, Nat.reduceLT, Nat.reduceLeDiff, Nat.reduceMul, Nat.reduceSub, BEq.rfl, beq_self_eq_true, Int.reduceToNat]; done)
def D_impl_isDay : DF
  | [x0] => some (.bool (impl_isDay (rdI x0)), false, [wI .i64 x0])
  | _ => none
theorem D_impl_isDay_ok : OkD Tryd.prog 26 D_impl_isDay := by
  intro xs r z ob h ho
  unfold D_impl_isDay at h
  split at h
  · simp only [Option.some.injEq, Prod.mk.injEq] at h
    obtain ⟨rfl, rfl, rfl⟩ := h
    obtain ⟨h0, _⟩ := ho
    exact Den.sim (impl_isDay_den _ ) (simOL_cons (wI_sim h0).1 <| trivial) (noIdL_cons (wI_sim h0).2 <| rfl) rfl
  · cases h
end Go.Ab

namespace Go.Ab
open Go Go.Proofs
theorem impl_isDigit_DD : DOk Tryd.prog (DD []) := DD_nil _
def impl_isDigit (a0 : Int) : Bool :=
  (decide (48 ≤ a0) && decide (a0 ≤ 57))
theorem impl_isDigit_den (a0 : Int)  : Den Tryd.prog 39 [.int .u8 a0] (.bool (impl_isDigit a0)) := by
  generalize hR : impl_isDigit a0 = r
  unfold impl_isDigit at hR
  refine den_intro G_ok Tryd.func39 (by kernel_rfl) rfl Tryd.ntmps39 (by rw [Tryd.results39]) (by simp) rfl ?_
  intro c hL hc hk
  clear hL
  simp only [pars, Nat.zero_add]
  refine AWP.seq ?_
  refine AWP.regS G_ok impl_isDigit_DD hc (by kernel_rfl) (fun K hK => ?_); simp only [ea, gv, sv, reduceCtorEq, reduceIte, Nat.reduceBEq, Nat.reduceAdd, Nat.reduceEqDiff, Nat.reduceLT, Nat.reduceLeDiff, Nat.reduceMul, Nat.reduceSub, BEq.rfl, beq_self_eq_true, Int.reduceToNat]
  (refine hK _ ?_)
  clear hK K
  refine AWP.seq ?_
  refine AWP.regS G_ok impl_isDigit_DD hc (by kernel_rfl) (fun K hK => ?_); simp only [ea, gv, sv, reduceCtorEq, reduceIte, Nat.reduceBEq, Nat.reduceAdd, Nat.reduceEqDiff, Nat.reduceLT, Nat.reduceLeDiff, Nat.reduceMul, Nat.reduceSub, BEq.rfl, beq_self_eq_true, Int.reduceToNat]
  (refine hK _ ?_)
  clear hK K
  refine AWP.ret ?_
  subst hR
  (simp only [en, si, ea, gv, sv, hk, reduceCtorEq, reduceIte, Nat.reduceBEq, Nat.reduceAdd, Nat.reduceEqDiff, Nat.reduceLT, Nat.reduceLeDiff, Nat.reduceMul, Nat.reduceSub, BEq.rfl, beq_self_eq_true, Int.reduceToNat]; done)
def D_impl_isDigit : DF
  | [x0] => some (.bool (impl_isDigit (rdI x0)), false, [wI .u8 x0])
  | _ => none
theorem D_impl_isDigit_ok : OkD Tryd.prog 39 D_impl_isDigit := by
  intro xs r z ob h ho
  unfold D_impl_isDigit at h
  split at h
  · simp only [Option.some.injEq, Prod.mk.injEq] at h
    obtain ⟨rfl, rfl, rfl⟩ := h
    obtain ⟨h0, _⟩ := ho
    exact Den.sim (impl_isDigit_den _ ) (simOL_cons (wI_sim h0).1 <| trivial) (noIdL_cons (wI_sim h0).2 <| rfl) rfl
  · cases h
end Go.Ab

namespace Go.Ab
open Go Go.Proofs
theorem impl_few_DD : DOk Tryd.prog (DD []) := DD_nil _
def impl_few (a0 : Int) (a1 : Int) : Bool :=
  decide (a0 ≤ a1)
theorem impl_few_den (a0 : Int) (a1 : Int)  : Den Tryd.prog 40 [.int .i64 a0, .int .i64 a1] (.bool (impl_few a0 a1)) := by
  generalize hR : impl_few a0 a1 = r
  unfold impl_few at hR
  refine den_intro G_ok Tryd.func40 (by kernel_rfl) rfl Tryd.ntmps40 (by rw [Tryd.results40]) (by simp) rfl ?_
  intro c hL hc hk
  clear hL
  simp only [pars, Nat.zero_add]
  refine AWP.seq ?_
  refine AWP.regS G_ok impl_few_DD hc (by kernel_rfl) (fun K hK => ?_); simp only [ea, gv, sv, reduceCtorEq, reduceIte, Nat.reduceBEq, Nat.reduceAdd, Nat.reduceEqDiff, Nat.reduceLT, Nat.reduceLeDiff, Nat.reduceMul, Nat.reduceSub, BEq.rfl, beq_self_eq_true, Int.reduceToNat]
  (refine hK _ ?_)
  clear hK K
  refine AWP.seq ?_
  refine AWP.regS G_ok impl_few_DD hc (by kernel_rfl) (fun K hK => ?_); simp only [ea, gv, sv, reduceCtorEq, reduceIte, Nat.reduceBEq, Nat.reduceAdd, Nat.reduceEqDiff, Nat.reduceLT, Nat.reduceLeDiff, Nat.reduceMul, Nat.reduceSub, BEq.rfl, beq_self_eq_true, Int.reduceToNat]
  (refine hK _ ?_)
  clear hK K
  refine AWP.ret ?_
  subst hR
  (simp only [en, si, ea, gv, sv, hk, reduceCtorEq, reduceIte, Nat.reduceBEq, Nat.reduceAdd, Nat.reduceEqDiff, Nat.reduceLT, Nat.reduceLeDiff, Nat.reduceMul, Nat.reduceSub, BEq.rfl, beq_self_eq_true, Int.reduceToNat]; done)
def D_impl_few : DF
  | [x0, x1] => some (.bool (impl_few (rdI x0) (rdI x1)), false, [wI .i64 x0, wI .i64 x1])
  | _ => none
theorem D_impl_few_ok : OkD Tryd.prog 40 D_impl_few := by
  intro xs r z ob h ho
  unfold D_impl_few at h
  split at h
  · simp only [Option.some.injEq, Prod.mk.injEq] at h
    obtain ⟨rfl, rfl, rfl⟩ := h
    obtain ⟨h0, h1, _⟩ := ho
    exact Den.sim (impl_few_den _ _ ) (simOL_cons (wI_sim h0).1 <| simOL_cons (wI_sim h1).1 <| trivial) (noIdL_cons (wI_sim h0).2 <| noIdL_cons (wI_sim h1).2 <| rfl) rfl
  · cases h
end Go.Ab

namespace Go.Ab
open Go Go.Proofs
theorem impl_IsName_DD : DOk Tryd.prog (DD [(39, dP D_impl_isDigit), (40, dP D_impl_few)]) := DD_cons D_impl_isDigit_ok.e <| DD_cons D_impl_few_ok.e <| DD_nil _
def impl_IsName_b1 (a0 : (List UInt8)) (i1 : Nat) (s1 : Unit) : Except (Bool) (Unit) :=
  (bif ((!(decide (97 ≤ ((a0.getD i1 0).toNat : Int)) && decide (((a0.getD i1 0).toNat : Int) ≤ 122))) && (((i1 : Int) == 0) || (!(impl_isDigit ((a0.getD i1 0).toNat : Int))))) then .error false else .ok ())
def impl_IsName (a0 : (List UInt8)) : Bool :=
  (match loopR (impl_IsName_b1 a0) (a0.length - 0) 0 () with | .error e => e | .ok s1 => ((a0 != []) && (impl_few (a0.length : Int) 10)))
theorem impl_IsName_den (a0 : (List UInt8))  : Den Tryd.prog 31 [.str a0] (.bool (impl_IsName a0)) := by
  generalize hR : impl_IsName a0 = r
  unfold impl_IsName at hR
  refine den_intro G_ok Tryd.func31 (by kernel_rfl) rfl Tryd.ntmps31 (by rw [Tryd.results31]) (by simp) rfl ?_
  intro c hL hc hk
  obtain ⟨hL0, _⟩ := hL
  have hw0 : a0.length < 9223372036854775808 := Nat.lt_succ_of_le hL0
  clear hL0
  simp only [pars, Nat.zero_add]
  refine AWP.seq ?_
  refine AWP.regS G_ok impl_IsName_DD hc (by kernel_rfl) (fun K hK => ?_); simp only [ea, gv, sv, D_impl_isDigit, D_impl_few, reduceCtorEq, reduceIte, Nat.reduceBEq, Nat.reduceAdd, Nat.reduceEqDiff, Nat.reduceLT, Nat.reduceLeDiff, Nat.reduceMul, Nat.reduceSub, BEq.rfl, beq_self_eq_true, Int.reduceToNat]
  (refine hK _ ?_)
  clear hK K
  refine AWP.seq ?_
  refine AWP.seq ?_
  refine AWP.regS G_ok impl_IsName_DD hc (by kernel_rfl) (fun K hK => ?_); simp only [ea, gv, sv, D_impl_isDigit, D_impl_few, reduceCtorEq, reduceIte, Nat.reduceBEq, Nat.reduceAdd, Nat.reduceEqDiff, Nat.reduceLT, Nat.reduceLeDiff, Nat.reduceMul, Nat.reduceSub, BEq.rfl, beq_self_eq_true, Int.reduceToNat]
  (refine hK _ ?_)
  clear hK K
  refine AWP.block ?_
  generalize hz1 : loopR (impl_IsName_b1 a0) (a0.length - 0) 0 () = z1 at hR
  refine AWP.range (impl_IsName_b1 a0) (fun i1 s1 => ⟨[(0, .str a0), (3, .int .i64 (i1 : Int))], []⟩) (fun i1 s1 => True) (a0.length) 0 () [] hz1 (by (omega)) (by (trivial)) (by (simp only [si, ea, gv, sv, hk, reduceCtorEq, reduceIte, Nat.reduceBEq, Nat.reduceAdd, Nat.reduceEqDiff, Nat.reduceLT, Nat.reduceLeDiff, Nat.reduceMul, Nat.reduceSub, BEq.rfl, beq_self_eq_true, Int.reduceToNat]; trivial)) ?_
  clear hz1
  intro i1 s1 hi1 hW1 hz1
  refine AWP.seq ?_
  refine AWP.seq ?_
  refine AWP.regS G_ok impl_IsName_DD hc (by kernel_rfl) (fun K hK => ?_); simp only [ea, gv, sv, D_impl_isDigit, D_impl_few, reduceCtorEq, reduceIte, Nat.reduceBEq, Nat.reduceAdd, Nat.reduceEqDiff, Nat.reduceLT, Nat.reduceLeDiff, Nat.reduceMul, Nat.reduceSub, BEq.rfl, beq_self_eq_true, Int.reduceToNat]
  (refine hK _ ?_)
  clear hK K
  refine AWP.cond rfl (fun hb => ?_) (fun hb => ?_)
  · have hlt1 : i1 < a0.length := by ((simp only [ob, ln, bdv, sv] at *; omega))
    rw [loopR_lt hlt1] at hz1; simp only [impl_IsName_b1] at hz1
    refine AWP.skip ?_
    refine AWP.seq ?_
    refine AWP.block ?_
    refine AWP.seq ?_
    refine AWP.regS G_ok impl_IsName_DD hc (by kernel_rfl) (fun K hK => ?_); simp only [ea, gv, sv, D_impl_isDigit, D_impl_few, reduceCtorEq, reduceIte, Nat.reduceBEq, Nat.reduceAdd, Nat.reduceEqDiff, Nat.reduceLT, Nat.reduceLeDiff, Nat.reduceMul, Nat.reduceSub, BEq.rfl, beq_self_eq_true, Int.reduceToNat]
    (refine ⟨by (omega), hK _ ?_⟩)
    clear hK K
    refine AWP.seq ?_
    refine AWP.regS G_ok impl_IsName_DD hc (by kernel_rfl) (fun K hK => ?_); simp only [ea, gv, sv, D_impl_isDigit, D_impl_few, reduceCtorEq, reduceIte, Nat.reduceBEq, Nat.reduceAdd, Nat.reduceEqDiff, Nat.reduceLT, Nat.reduceLeDiff, Nat.reduceMul, Nat.reduceSub, BEq.rfl, beq_self_eq_true, Int.reduceToNat]
    (refine ⟨by (omega), hK _ ?_⟩)
    clear hK K
    refine AWP.cond rfl (fun hb => ?_) (fun hb => ?_)
    · (simp only [hb, cond_true] at hz1)
      refine AWP.seq ?_
      refine AWP.regS G_ok impl_IsName_DD hc (by kernel_rfl) (fun K hK => ?_); simp only [ea, gv, sv, D_impl_isDigit, D_impl_few, reduceCtorEq, reduceIte, Nat.reduceBEq, Nat.reduceAdd, Nat.reduceEqDiff, Nat.reduceLT, Nat.reduceLeDiff, Nat.reduceMul, Nat.reduceSub, BEq.rfl, beq_self_eq_true, Int.reduceToNat]
      (refine hK _ ?_)
      clear hK K
      refine AWP.ret ?_
      subst hz1
      dsimp only at hR
      subst hR
      (simp only [en, si, ea, gv, sv, hk, reduceCtorEq, reduceIte, Nat.reduceBEq, Nat.reduceAdd, Nat.reduceEqDiff, Nat.reduceLT, Nat.reduceLeDiff, Nat.reduceMul, Nat.reduceSub, BEq.rfl, beq_self_eq_true, Int.reduceToNat]; done)
    · (simp only [hb, cond_false] at hz1)
      refine AWP.skip ?_
      refine AWP.regS G_ok impl_IsName_DD hc (by kernel_rfl) (fun K hK => ?_); simp only [ea, gv, sv, D_impl_isDigit, D_impl_few, reduceCtorEq, reduceIte, Nat.reduceBEq, Nat.reduceAdd, Nat.reduceEqDiff, Nat.reduceLT, Nat.reduceLeDiff, Nat.reduceMul, Nat.reduceSub, BEq.rfl, beq_self_eq_true, Int.reduceToNat]
      (refine hK _ ?_)
      clear hK K
      exact ⟨_, [], hlt1, by (trivial), hz1, by (simp only [si, ea, gv, sv, hk, reduceCtorEq, reduceIte, Nat.reduceBEq, Nat.reduceAdd, Nat.reduceEqDiff, Nat.reduceLT, Nat.reduceLeDiff, Nat.reduceMul, Nat.reduceSub, BEq.rfl, beq_self_eq_true, Int.reduceToNat]; (and_intros <;> first | trivial | (rw [IntKind.wrap_i64]; omega)))⟩
  · obtain rfl : i1 = a0.length := by ((simp only [ob, ln, bdv, sv] at *; omega))
    rw [loopR_ge (Nat.le_refl _)] at hz1; subst hz1; dsimp only at hR
    refine AWP.exit ?_; refine exitTo_here ?_
    refine AWP.seq ?_
    refine AWP.regS G_ok impl_IsName_DD hc (by kernel_rfl) (fun K hK => ?_); simp only [ea, gv, sv, D_impl_isDigit, D_impl_few, reduceCtorEq, reduceIte, Nat.reduceBEq, Nat.reduceAdd, Nat.reduceEqDiff, Nat.reduceLT, Nat.reduceLeDiff, Nat.reduceMul, Nat.reduceSub, BEq.rfl, beq_self_eq_true, Int.reduceToNat]
    (refine hK _ ?_)
    clear hK K
    refine AWP.ret ?_
    subst hR
    (simp only [en, si, ea, gv, sv, hk, reduceCtorEq, reduceIte, Nat.reduceBEq, Nat.reduceAdd, Nat.reduceEqDiff, Nat.reduceLT, Nat.reduceLeDiff, Nat.reduceMul, Nat.reduceSub, BEq.rfl, beq_self_eq_true, Int.reduceToNat]; done)
def D_impl_IsName : DF
  | [x0] => some (.bool (impl_IsName (rdS x0)), false, [wS x0])
  | _ => none
theorem D_impl_IsName_ok : OkD Tryd.prog 31 D_impl_IsName := by
  intro xs r z ob h ho
  unfold D_impl_IsName at h
  split at h
  · simp only [Option.some.injEq, Prod.mk.injEq] at h
    obtain ⟨rfl, rfl, rfl⟩ := h
    obtain ⟨h0, _⟩ := ho
    exact Den.sim (impl_IsName_den _ ) (simOL_cons (wS_sim h0).1 <| trivial) (noIdL_cons (wS_sim h0).2 <| rfl) rfl
  · cases h
end Go.Ab

namespace Go.Ab
open Go Go.Proofs
theorem impl_isEntry_DD : DOk Tryd.prog (DD [(25, dP D_impl_within), (26, dP D_impl_isDay), (31, dP D_impl_IsName)]) := DD_cons D_impl_within_ok.e <| DD_cons D_impl_isDay_ok.e <| DD_cons D_impl_IsName_ok.e <| DD_nil _
def impl_isEntry (a0 : Entry) : Bool :=
  ((((impl_isDay a0.Day) && (impl_IsName a0.Item)) && (impl_within a0.Amount (-1000) 1000)) && (a0.Amount != 0))
theorem impl_isEntry_den (a0 : Entry)  : Den Tryd.prog 18 [.agg (eEntry a0)] (.bool (impl_isEntry a0)) := by
  generalize hR : impl_isEntry a0 = r
  unfold impl_isEntry at hR
  refine den_intro G_ok Tryd.func18 (by kernel_rfl) rfl Tryd.ntmps18 (by rw [Tryd.results18]) (by simp) rfl ?_
  intro c hL hc hk
  obtain ⟨hL0, _⟩ := hL
  have hw0 : bwEntry a0 := Entry_lens a0 hL0
  clear hL0
  simp only [pars, Nat.zero_add]
  refine AWP.seq ?_
  refine AWP.regS G_ok impl_isEntry_DD hc (by kernel_rfl) (fun K hK => ?_); simp only [ea, gv, sv, D_impl_within, D_impl_isDay, D_impl_IsName, reduceCtorEq, reduceIte, Nat.reduceBEq, Nat.reduceAdd, Nat.reduceEqDiff, Nat.reduceLT, Nat.reduceLeDiff, Nat.reduceMul, Nat.reduceSub, BEq.rfl, beq_self_eq_true, Int.reduceToNat]
  (refine hK _ ?_)
  clear hK K
  refine AWP.seq ?_
  refine AWP.regS G_ok impl_isEntry_DD hc (by kernel_rfl) (fun K hK => ?_); simp only [ea, gv, sv, D_impl_within, D_impl_isDay, D_impl_IsName, reduceCtorEq, reduceIte, Nat.reduceBEq, Nat.reduceAdd, Nat.reduceEqDiff, Nat.reduceLT, Nat.reduceLeDiff, Nat.reduceMul, Nat.reduceSub, BEq.rfl, beq_self_eq_true, Int.reduceToNat]
  (refine hK _ ?_)
  clear hK K
  refine AWP.ret ?_
  subst hR
  (simp only [en, si, ea, gv, sv, hk, reduceCtorEq, reduceIte, Nat.reduceBEq, Nat.reduceAdd, Nat.reduceEqDiff, Nat.reduceLT, Nat.reduceLeDiff, Nat.reduceMul, Nat.reduceSub, BEq.rfl, beq_self_eq_true, Int.reduceToNat]; done)
def D_impl_isEntry : DF
  | [x0] => some (.bool (impl_isEntry (rdG dEntry x0)), false, [wG eEntry dEntry x0])
  | _ => none
theorem D_impl_isEntry_ok : OkD Tryd.prog 18 D_impl_isEntry := by
  intro xs r z ob h ho
  unfold D_impl_isEntry at h
  split at h
  · simp only [Option.some.injEq, Prod.mk.injEq] at h
    obtain ⟨rfl, rfl, rfl⟩ := h
    obtain ⟨h0, _⟩ := ho
    exact Den.sim (impl_isEntry_den _ ) (simOL_cons (wG_sim h0).1 <| trivial) (noIdL_cons (wG_sim h0).2 <| rfl) rfl
  · cases h
end Go.Ab

namespace Go.Ab
open Go Go.Proofs
theorem impl_isYear_DD : DOk Tryd.prog (DD [(25, dP D_impl_within)]) := DD_cons D_impl_within_ok.e <| DD_nil _
def impl_isYear (a0 : Int) : Bool :=
  (impl_within a0 2000 2273)
theorem impl_isYear_den (a0 : Int)  : Den Tryd.prog 62 [.int .i64 a0] (.bool (impl_isYear a0)) := by
  generalize hR : impl_isYear a0 = r
  unfold impl_isYear at hR
  refine den_intro G_ok Tryd.func62 (by kernel_rfl) rfl Tryd.ntmps62 (by rw [Tryd.results62]) (by simp) rfl ?_
  intro c hL hc hk
  clear hL
  simp only [pars, Nat.zero_add]
  refine AWP.seq ?_
  refine AWP.regS G_ok impl_isYear_DD hc (by kernel_rfl) (fun K hK => ?_); simp only [ea, gv, sv, D_impl_within, reduceCtorEq, reduceIte, Nat.reduceBEq, Nat.reduceAdd, Nat.reduceEqDiff, Nat.reduceLT, Nat.reduceLeDiff, Nat.reduceMul, Nat.reduceSub, BEq.rfl, beq_self_eq_true, Int.reduceToNat]
  (refine hK _ ?_)
  clear hK K
  refine AWP.seq ?_
  refine AWP.regS G_ok impl_isYear_DD hc (by kernel_rfl) (fun K hK => ?_); simp only [ea, gv, sv, D_impl_within, reduceCtorEq, reduceIte, Nat.reduceBEq, Nat.reduceAdd, Nat.reduceEqDiff, Nat.reduceLT, Nat.reduceLeDiff, Nat.reduceMul, Nat.reduceSub, BEq.rfl, beq_self_eq_true, Int.reduceToNat]
  (refine hK _ ?_)
  clear hK K
  refine AWP.ret ?_
  subst hR
  (simp only [en, si, ea, gv, sv, hk, reduceCtorEq, reduceIte, Nat.reduceBEq, Nat.reduceAdd, Nat.reduceEqDiff, Nat.reduceLT, Nat.reduceLeDiff, Nat.reduceMul, Nat.reduceSub, BEq.rfl, beq_self_eq_true, Int.reduceToNat]; done)
def D_impl_isYear : DF
  | [x0] => some (.bool (impl_isYear (rdI x0)), false, [wI .i64 x0])
  | _ => none
theorem D_impl_isYear_ok : OkD Tryd.prog 62 D_impl_isYear := by
  intro xs r z ob h ho
  unfold D_impl_isYear at h
  split at h
  · simp only [Option.some.injEq, Prod.mk.injEq] at h
    obtain ⟨rfl, rfl, rfl⟩ := h
    obtain ⟨h0, _⟩ := ho
    exact Den.sim (impl_isYear_den _ ) (simOL_cons (wI_sim h0).1 <| trivial) (noIdL_cons (wI_sim h0).2 <| rfl) rfl
  · cases h
end Go.Ab

namespace Go.Ab
open Go Go.Proofs
theorem impl_IsLeap_DD : DOk Tryd.prog (DD [(62, dP D_impl_isYear)]) := DD_cons D_impl_isYear_ok.e <| DD_nil _
def impl_IsLeap (a0 : Int) : Bool :=
  ((impl_isYear a0) && ((((a0.tmod 4) == 0) && ((a0.tmod 100) != 0)) || ((a0.tmod 400) == 0)))
theorem impl_IsLeap_den (a0 : Int)  : Den Tryd.prog 49 [.int .i64 a0] (.bool (impl_IsLeap a0)) := by
  generalize hR : impl_IsLeap a0 = r
  unfold impl_IsLeap at hR
  refine den_intro G_ok Tryd.func49 (by kernel_rfl) rfl Tryd.ntmps49 (by rw [Tryd.results49]) (by simp) rfl ?_
  intro c hL hc hk
  clear hL
  simp only [pars, Nat.zero_add]
  refine AWP.seq ?_
  refine AWP.regS G_ok impl_IsLeap_DD hc (by kernel_rfl) (fun K hK => ?_); simp only [ea, gv, sv, D_impl_isYear, reduceCtorEq, reduceIte, Nat.reduceBEq, Nat.reduceAdd, Nat.reduceEqDiff, Nat.reduceLT, Nat.reduceLeDiff, Nat.reduceMul, Nat.reduceSub, BEq.rfl, beq_self_eq_true, Int.reduceToNat]
  (refine hK _ ?_)
  clear hK K
  refine AWP.seq ?_
  refine AWP.regS G_ok impl_IsLeap_DD hc (by kernel_rfl) (fun K hK => ?_); simp only [ea, gv, sv, D_impl_isYear, reduceCtorEq, reduceIte, Nat.reduceBEq, Nat.reduceAdd, Nat.reduceEqDiff, Nat.reduceLT, Nat.reduceLeDiff, Nat.reduceMul, Nat.reduceSub, BEq.rfl, beq_self_eq_true, Int.reduceToNat]
  (refine ⟨by (omega), hK _ ?_⟩)
  clear hK K
  refine AWP.ret ?_
  subst hR
  (simp only [en, si, ea, gv, sv, hk, reduceCtorEq, reduceIte, Nat.reduceBEq, Nat.reduceAdd, Nat.reduceEqDiff, Nat.reduceLT, Nat.reduceLeDiff, Nat.reduceMul, Nat.reduceSub, BEq.rfl, beq_self_eq_true, Int.reduceToNat]; done)
def D_impl_IsLeap : DF
  | [x0] => some (.bool (impl_IsLeap (rdI x0)), false, [wI .i64 x0])
  | _ => none
theorem D_impl_IsLeap_ok : OkD Tryd.prog 49 D_impl_IsLeap := by
  intro xs r z ob h ho
  unfold D_impl_IsLeap at h
  split at h
  · simp only [Option.some.injEq, Prod.mk.injEq] at h
    obtain ⟨rfl, rfl, rfl⟩ := h
    obtain ⟨h0, _⟩ := ho
    exact Den.sim (impl_IsLeap_den _ ) (simOL_cons (wI_sim h0).1 <| trivial) (noIdL_cons (wI_sim h0).2 <| rfl) rfl
  · cases h
end Go.Ab

namespace Go.Ab
open Go Go.Proofs
theorem impl_yearDays_DD : DOk Tryd.prog (DD [(49, dP D_impl_IsLeap)]) := DD_cons D_impl_IsLeap_ok.e <| DD_nil _
def impl_yearDays (a0 : Int) : Int :=
  (bif (impl_IsLeap a0) then 366 else 365)
theorem impl_yearDays_den (a0 : Int)  : Den Tryd.prog 41 [.int .i64 a0] (.int .i64 (impl_yearDays a0)) := by
  generalize hR : impl_yearDays a0 = r
  unfold impl_yearDays at hR
  refine den_intro G_ok Tryd.func41 (by kernel_rfl) rfl Tryd.ntmps41 (by rw [Tryd.results41]) (by simp) rfl ?_
  intro c hL hc hk
  clear hL
  simp only [pars, Nat.zero_add]
  refine AWP.seq ?_
  refine AWP.regS G_ok impl_yearDays_DD hc (by kernel_rfl) (fun K hK => ?_); simp only [ea, gv, sv, D_impl_IsLeap, reduceCtorEq, reduceIte, Nat.reduceBEq, Nat.reduceAdd, Nat.reduceEqDiff, Nat.reduceLT, Nat.reduceLeDiff, Nat.reduceMul, Nat.reduceSub, BEq.rfl, beq_self_eq_true, Int.reduceToNat]
  (refine hK _ ?_)
  clear hK K
  refine AWP.seq ?_
  refine AWP.seq ?_
  refine AWP.regS G_ok impl_yearDays_DD hc (by kernel_rfl) (fun K hK => ?_); simp only [ea, gv, sv, D_impl_IsLeap, reduceCtorEq, reduceIte, Nat.reduceBEq, Nat.reduceAdd, Nat.reduceEqDiff, Nat.reduceLT, Nat.reduceLeDiff, Nat.reduceMul, Nat.reduceSub, BEq.rfl, beq_self_eq_true, Int.reduceToNat]
  (refine hK _ ?_)
  clear hK K
  refine AWP.cond rfl (fun hb => ?_) (fun hb => ?_)
  · (simp only [hb, cond_true] at hR)
    refine AWP.seq ?_
    refine AWP.regS G_ok impl_yearDays_DD hc (by kernel_rfl) (fun K hK => ?_); simp only [ea, gv, sv, D_impl_IsLeap, reduceCtorEq, reduceIte, Nat.reduceBEq, Nat.reduceAdd, Nat.reduceEqDiff, Nat.reduceLT, Nat.reduceLeDiff, Nat.reduceMul, Nat.reduceSub, BEq.rfl, beq_self_eq_true, Int.reduceToNat]
    (refine hK _ ?_)
    clear hK K
    refine AWP.ret ?_
    subst hR
    (simp only [en, si, ea, gv, sv, hk, reduceCtorEq, reduceIte, Nat.reduceBEq, Nat.reduceAdd, Nat.reduceEqDiff, Nat.reduceLT, Nat.reduceLeDiff, Nat.reduceMul, Nat.reduceSub, BEq.rfl, beq_self_eq_true, Int.reduceToNat]; done)
  · (simp only [hb, cond_false] at hR)
    refine AWP.skip ?_
    refine AWP.seq ?_
    refine AWP.regS G_ok impl_yearDays_DD hc (by kernel_rfl) (fun K hK => ?_); simp only [ea, gv, sv, D_impl_IsLeap, reduceCtorEq, reduceIte, Nat.reduceBEq, Nat.reduceAdd, Nat.reduceEqDiff, Nat.reduceLT, Nat.reduceLeDiff, Nat.reduceMul, Nat.reduceSub, BEq.rfl, beq_self_eq_true, Int.reduceToNat]
    (refine hK _ ?_)
    clear hK K
    refine AWP.ret ?_
    subst hR
    (simp only [en, si, ea, gv, sv, hk, reduceCtorEq, reduceIte, Nat.reduceBEq, Nat.reduceAdd, Nat.reduceEqDiff, Nat.reduceLT, Nat.reduceLeDiff, Nat.reduceMul, Nat.reduceSub, BEq.rfl, beq_self_eq_true, Int.reduceToNat]; done)
def D_impl_yearDays : DF
  | [x0] => some (.int .i64 (impl_yearDays (rdI x0)), false, [wI .i64 x0])
  | _ => none
theorem D_impl_yearDays_ok : OkD Tryd.prog 41 D_impl_yearDays := by
  intro xs r z ob h ho
  unfold D_impl_yearDays at h
  split at h
  · simp only [Option.some.injEq, Prod.mk.injEq] at h
    obtain ⟨rfl, rfl, rfl⟩ := h
    obtain ⟨h0, _⟩ := ho
    exact Den.sim (impl_yearDays_den _ ) (simOL_cons (wI_sim h0).1 <| trivial) (noIdL_cons (wI_sim h0).2 <| rfl) rfl
  · cases h
end Go.Ab

namespace Go.Ab
open Go Go.Proofs
theorem impl_monthDays_DD : DOk Tryd.prog (DD [(49, dP D_impl_IsLeap)]) := DD_cons D_impl_IsLeap_ok.e <| DD_nil _
def impl_monthDays (a0 : Int) (a1 : Int) : Int :=
  (bif ((a1 == 2) && (impl_IsLeap a0)) then 29 else ([31, 28, 31, 30, 31, 30, 31, 31, 30, 31, 30, 31] : List Int).getD ((IntKind.wrap .i64 (a1 - 1)).toNat) 0)
theorem impl_monthDays_den (a0 : Int) (a1 : Int) (hp0 : 1 ≤ a1) (hp1 : a1 ≤ 12) : Den Tryd.prog 42 [.int .i64 a0, .int .i64 a1] (.int .i64 (impl_monthDays a0 a1)) := by
  generalize hR : impl_monthDays a0 a1 = r
  unfold impl_monthDays at hR
  refine den_intro G_ok Tryd.func42 (by kernel_rfl) rfl Tryd.ntmps42 (by rw [Tryd.results42]) (by simp) rfl ?_
  intro c hL hc hk
  clear hL
  simp only [pars, Nat.zero_add]
  refine AWP.seq ?_
  refine AWP.regS G_ok impl_monthDays_DD hc (by kernel_rfl) (fun K hK => ?_); simp only [ea, gv, sv, D_impl_IsLeap, reduceCtorEq, reduceIte, Nat.reduceBEq, Nat.reduceAdd, Nat.reduceEqDiff, Nat.reduceLT, Nat.reduceLeDiff, Nat.reduceMul, Nat.reduceSub, BEq.rfl, beq_self_eq_true, Int.reduceToNat]
  (refine hK _ ?_)
  clear hK K
  refine AWP.seq ?_
  refine AWP.seq ?_
  refine AWP.regS G_ok impl_monthDays_DD hc (by kernel_rfl) (fun K hK => ?_); simp only [ea, gv, sv, D_impl_IsLeap, reduceCtorEq, reduceIte, Nat.reduceBEq, Nat.reduceAdd, Nat.reduceEqDiff, Nat.reduceLT, Nat.reduceLeDiff, Nat.reduceMul, Nat.reduceSub, BEq.rfl, beq_self_eq_true, Int.reduceToNat]
  (refine hK _ ?_)
  clear hK K
  refine AWP.cond rfl (fun hb => ?_) (fun hb => ?_)
  · (simp only [hb, cond_true] at hR)
    refine AWP.seq ?_
    refine AWP.regS G_ok impl_monthDays_DD hc (by kernel_rfl) (fun K hK => ?_); simp only [ea, gv, sv, D_impl_IsLeap, reduceCtorEq, reduceIte, Nat.reduceBEq, Nat.reduceAdd, Nat.reduceEqDiff, Nat.reduceLT, Nat.reduceLeDiff, Nat.reduceMul, Nat.reduceSub, BEq.rfl, beq_self_eq_true, Int.reduceToNat]
    (refine hK _ ?_)
    clear hK K
    refine AWP.ret ?_
    subst hR
    (simp only [en, si, ea, gv, sv, hk, reduceCtorEq, reduceIte, Nat.reduceBEq, Nat.reduceAdd, Nat.reduceEqDiff, Nat.reduceLT, Nat.reduceLeDiff, Nat.reduceMul, Nat.reduceSub, BEq.rfl, beq_self_eq_true, Int.reduceToNat]; done)
  · (simp only [hb, cond_false] at hR)
    refine AWP.skip ?_
    refine AWP.seq ?_
    refine AWP.regS G_ok impl_monthDays_DD hc (by kernel_rfl) (fun K hK => ?_); simp only [ea, gv, sv, D_impl_IsLeap, reduceCtorEq, reduceIte, Nat.reduceBEq, Nat.reduceAdd, Nat.reduceEqDiff, Nat.reduceLT, Nat.reduceLeDiff, Nat.reduceMul, Nat.reduceSub, BEq.rfl, beq_self_eq_true, Int.reduceToNat]
    (refine ⟨by ((simp only [ob, ln, bdv, sv] at *; omega)), hK _ ?_⟩)
    clear hK K
    refine AWP.ret ?_
    subst hR
    (simp only [en, si, ea, gv, sv, hk, reduceCtorEq, reduceIte, Nat.reduceBEq, Nat.reduceAdd, Nat.reduceEqDiff, Nat.reduceLT, Nat.reduceLeDiff, Nat.reduceMul, Nat.reduceSub, BEq.rfl, beq_self_eq_true, Int.reduceToNat]; done)
def D_impl_monthDays : DF
  | [x0, x1] => some (.int .i64 (impl_monthDays (rdI x0) (rdI x1)), false, [wI .i64 x0, wI .i64 x1, 1 ≤ (rdI x1), (rdI x1) ≤ 12])
  | _ => none
theorem D_impl_monthDays_ok : OkD Tryd.prog 42 D_impl_monthDays := by
  intro xs r z ob h ho
  unfold D_impl_monthDays at h
  split at h
  · simp only [Option.some.injEq, Prod.mk.injEq] at h
    obtain ⟨rfl, rfl, rfl⟩ := h
    obtain ⟨h0, h1, hp0, hp1, _⟩ := ho
    exact Den.sim (impl_monthDays_den _ _ hp0 hp1) (simOL_cons (wI_sim h0).1 <| simOL_cons (wI_sim h1).1 <| trivial) (noIdL_cons (wI_sim h0).2 <| noIdL_cons (wI_sim h1).2 <| rfl) rfl
  · cases h
end Go.Ab

namespace Go.Ab
open Go Go.Proofs
theorem impl_yearDays_eq (y : Int) : impl_yearDays y = 365 ∨ impl_yearDays y = 366 := by
  unfold impl_yearDays
  cases impl_IsLeap y <;> simp
end Go.Ab

namespace Go.Ab
open Go Go.Proofs
def restD (y m : Int) : Int := (bif impl_IsLeap y && decide (m ≤ 2) then 1 else 0) + ([365, 334, 306, 275, 245, 214, 184, 153, 122, 92, 61, 31] : List Int).getD (m - 1).toNat 0
theorem wrap_id {n : Int} (h1 : -9223372036854775808 ≤ n) (h2 : n ≤ 9223372036854775807) : IntKind.wrap .i64 n = n := by
  rw [IntKind.wrap_i64]; omega
theorem monthDays_at (y : Int) : impl_monthDays y 1 = 31 ∧ impl_monthDays y 2 = (bif impl_IsLeap y then 29 else 28) ∧ impl_monthDays y 3 = 31 ∧ impl_monthDays y 4 = 30 ∧ impl_monthDays y 5 = 31 ∧ impl_monthDays y 6 = 30
    ∧ impl_monthDays y 7 = 31 ∧ impl_monthDays y 8 = 31 ∧ impl_monthDays y 9 = 30 ∧ impl_monthDays y 10 = 31 ∧ impl_monthDays y 11 = 30 ∧ impl_monthDays y 12 = 31 := by
  simp [impl_monthDays, IntKind.wrap_i64]
theorem restD_one (y : Int) : restD y 1 = impl_yearDays y := by
  unfold impl_yearDays restD
  cases impl_IsLeap y <;> rfl
theorem month_cases {m : Int} (h1 : 1 ≤ m) (h2 : m ≤ 12) : m = 1 ∨ m = 2 ∨ m = 3 ∨ m = 4 ∨ m = 5 ∨ m = 6 ∨ m = 7 ∨ m = 8 ∨ m = 9 ∨ m = 10 ∨ m = 11 ∨ m = 12 := by omega
theorem restD_step (y m d : Int) (h1 : 1 ≤ m) (h2 : m ≤ 12) (h3 : d < restD y m) (h4 : impl_monthDays y m ≤ d) : m ≤ 11 ∧ d - impl_monthDays y m < restD y (m + 1) ∧ 28 ≤ impl_monthDays y m ∧ impl_monthDays y m ≤ 31 := by
  obtain ⟨e1, e2, e3, e4, e5, e6, e7, e8, e9, e10, e11, e12⟩ := monthDays_at y
  rcases month_cases h1 h2 with rfl | rfl | rfl | rfl | rfl | rfl | rfl | rfl | rfl | rfl | rfl | rfl <;>
    simp only [*] at h4 ⊢ <;> simp [restD] at h3 ⊢ <;> cases hl : impl_IsLeap y <;> simp_all <;> omega
end Go.Ab

namespace Go.Ab
open Go Go.Proofs
theorem impl_dateOf_DD : DOk Tryd.prog (DD [(41, dP D_impl_yearDays), (42, dP D_impl_monthDays)]) := DD_cons D_impl_yearDays_ok.e <| DD_cons D_impl_monthDays_ok.e <| DD_nil _
def impl_dateOf_b1 (a0 : Int) (s1 : Int × Int) : Except (Sum ((Int × Int × Int)) (Int × Int)) (Int × Int) :=
  (bif decide ((impl_yearDays s1.2) ≤ s1.1) then .ok (IntKind.wrap .i64 (s1.1 - (impl_yearDays s1.2)), IntKind.wrap .i64 (s1.2 + 1)) else .error (.inr (s1.1, s1.2)))
def impl_dateOf_b2 (a0 : Int) (s1 : Int × Int) (s2 : Int × Int) : Except (Sum ((Int × Int × Int)) (Int × Int)) (Int × Int) :=
  (bif decide ((impl_monthDays s1.2 s2.2) ≤ s2.1) then .ok (IntKind.wrap .i64 (s2.1 - (impl_monthDays s1.2 s2.2)), IntKind.wrap .i64 (s2.2 + 1)) else .error (.inr (s2.1, s2.2)))
def impl_dateOf (a0 : Int) : (Int × Int × Int) :=
  (match loopW (impl_dateOf_b1 a0) (((a0).toNat) + 1) (a0, 2000) with | .error (.inl e) => e | .error (.inr s1) => (match loopW (impl_dateOf_b2 a0 s1) (((s1.1).toNat) + 1) (s1.1, 1) with | .error (.inl e) => e | .error (.inr s2) => (s1.2, s2.2, IntKind.wrap .i64 (s2.1 + 1)) | .ok _ => default) | .ok _ => default)
theorem impl_dateOf_den (a0 : Int) (hp0 : 0 ≤ a0) (hp1 : a0 ≤ 99999) : Den Tryd.prog 32 [.int .i64 a0] (.tup [.int .i64 ((impl_dateOf a0).1), .int .i64 ((impl_dateOf a0).2.1), .int .i64 ((impl_dateOf a0).2.2)]) := by
  generalize hR : impl_dateOf a0 = r
  unfold impl_dateOf at hR
  refine den_intro G_ok Tryd.func32 (by kernel_rfl) rfl Tryd.ntmps32 (by rw [Tryd.results32]) (by simp) rfl ?_
  intro c hL hc hk
  clear hL
  simp only [pars, Nat.zero_add]
  refine AWP.seq ?_
  refine AWP.regS G_ok impl_dateOf_DD hc (by kernel_rfl) (fun K hK => ?_); simp only [ea, gv, sv, D_impl_yearDays, D_impl_monthDays, reduceCtorEq, reduceIte, Nat.reduceBEq, Nat.reduceAdd, Nat.reduceEqDiff, Nat.reduceLT, Nat.reduceLeDiff, Nat.reduceMul, Nat.reduceSub, BEq.rfl, beq_self_eq_true, Int.reduceToNat]
  (refine hK _ ?_)
  clear hK K
  refine AWP.seq ?_
  refine AWP.regS G_ok impl_dateOf_DD hc (by kernel_rfl) (fun K hK => ?_); simp only [ea, gv, sv, D_impl_yearDays, D_impl_monthDays, reduceCtorEq, reduceIte, Nat.reduceBEq, Nat.reduceAdd, Nat.reduceEqDiff, Nat.reduceLT, Nat.reduceLeDiff, Nat.reduceMul, Nat.reduceSub, BEq.rfl, beq_self_eq_true, Int.reduceToNat]
  (refine hK _ ?_)
  clear hK K
  refine AWP.seq ?_
  refine AWP.block ?_
  generalize hz1 : loopW (impl_dateOf_b1 a0) (((a0).toNat) + 1) (a0, 2000) = z1 at hR
  refine AWP.whileW (impl_dateOf_b1 a0) (fun s1 => ⟨[(0, .int .i64 s1.1), (5, .int .i64 s1.2), (6, .int .i64 1)], []⟩) (fun s1 => 0 ≤ s1.1 ∧ 2000 ≤ s1.2 ∧ s1.2 - 2000 + s1.1 ≤ a0) (fun s1 => (s1.1).toNat) (((a0).toNat) + 1) (a0, 2000) [] hz1 (by omega) (by ((and_intros <;> simp only [ln] <;> omega))) (by (simp only [si, ea, gv, sv, hk, reduceCtorEq, reduceIte, Nat.reduceBEq, Nat.reduceAdd, Nat.reduceEqDiff, Nat.reduceLT, Nat.reduceLeDiff, Nat.reduceMul, Nat.reduceSub, BEq.rfl, beq_self_eq_true, Int.reduceToNat]; trivial)) ?_
  clear hz1
  intro s1 k1 hW1 hm1 hz1
  simp only [impl_dateOf_b1] at hz1
  refine AWP.seq ?_
  refine AWP.seq ?_
  refine AWP.regS G_ok impl_dateOf_DD hc (by kernel_rfl) (fun K hK => ?_); simp only [ea, gv, sv, D_impl_yearDays, D_impl_monthDays, reduceCtorEq, reduceIte, Nat.reduceBEq, Nat.reduceAdd, Nat.reduceEqDiff, Nat.reduceLT, Nat.reduceLeDiff, Nat.reduceMul, Nat.reduceSub, BEq.rfl, beq_self_eq_true, Int.reduceToNat]
  (refine hK _ ?_)
  clear hK K
  refine AWP.cond rfl (fun hb => ?_) (fun hb => ?_)
  · (simp only [hb, cond_true] at hz1)
    refine AWP.skip ?_
    refine AWP.block ?_
    refine AWP.seq ?_
    refine AWP.regS G_ok impl_dateOf_DD hc (by kernel_rfl) (fun K hK => ?_); simp only [ea, gv, sv, D_impl_yearDays, D_impl_monthDays, reduceCtorEq, reduceIte, Nat.reduceBEq, Nat.reduceAdd, Nat.reduceEqDiff, Nat.reduceLT, Nat.reduceLeDiff, Nat.reduceMul, Nat.reduceSub, BEq.rfl, beq_self_eq_true, Int.reduceToNat]
    (refine hK _ ?_)
    clear hK K
    refine AWP.regS G_ok impl_dateOf_DD hc (by kernel_rfl) (fun K hK => ?_); simp only [ea, gv, sv, D_impl_yearDays, D_impl_monthDays, reduceCtorEq, reduceIte, Nat.reduceBEq, Nat.reduceAdd, Nat.reduceEqDiff, Nat.reduceLT, Nat.reduceLeDiff, Nat.reduceMul, Nat.reduceSub, BEq.rfl, beq_self_eq_true, Int.reduceToNat]
    (refine hK _ ?_)
    clear hK K
    exact ⟨_, [], by (have h9 := impl_yearDays_eq s1.2; simp only [ob, ln] at *; omega), by (have h9 := impl_yearDays_eq s1.2; simp only [ob, ln] at *; omega), hz1, by (simp only [si, ea, gv, sv, hk, reduceCtorEq, reduceIte, Nat.reduceBEq, Nat.reduceAdd, Nat.reduceEqDiff, Nat.reduceLT, Nat.reduceLeDiff, Nat.reduceMul, Nat.reduceSub, BEq.rfl, beq_self_eq_true, Int.reduceToNat]; trivial)⟩
  · (simp only [hb, cond_false] at hz1)
    refine AWP.exit ?_
    refine exitTo_here ?_
    subst hz1; dsimp only at hR
    refine AWP.seq ?_
    refine AWP.block ?_
    generalize hz2 : loopW (impl_dateOf_b2 a0 (s1.1, s1.2)) (((s1.1).toNat) + 1) (s1.1, 1) = z2 at hR
    refine AWP.whileW (impl_dateOf_b2 a0 (s1.1, s1.2)) (fun s2 => ⟨[(0, .int .i64 s2.1), (5, .int .i64 s1.2), (6, .int .i64 s2.2)], []⟩) (fun s2 => 0 ≤ s2.1 ∧ s2.1 ≤ 99999 ∧ 1 ≤ s2.2 ∧ s2.2 ≤ 12 ∧ s2.1 < restD s1.2 s2.2) (fun s2 => (s2.1).toNat) (((s1.1).toNat) + 1) (s1.1, 1) [] hz2 (by omega) (by (have h9 := impl_yearDays_eq s1.2; have h8 := restD_one s1.2; simp only [ob, ln] at *; omega)) (by (simp only [si, ea, gv, sv, hk, reduceCtorEq, reduceIte, Nat.reduceBEq, Nat.reduceAdd, Nat.reduceEqDiff, Nat.reduceLT, Nat.reduceLeDiff, Nat.reduceMul, Nat.reduceSub, BEq.rfl, beq_self_eq_true, Int.reduceToNat]; trivial)) ?_
    clear hz2
    intro s2 k2 hW2 hm2 hz2
    simp only [impl_dateOf_b2] at hz2
    refine AWP.seq ?_
    refine AWP.seq ?_
    refine AWP.regS G_ok impl_dateOf_DD hc (by kernel_rfl) (fun K hK => ?_); simp only [ea, gv, sv, D_impl_yearDays, D_impl_monthDays, reduceCtorEq, reduceIte, Nat.reduceBEq, Nat.reduceAdd, Nat.reduceEqDiff, Nat.reduceLT, Nat.reduceLeDiff, Nat.reduceMul, Nat.reduceSub, BEq.rfl, beq_self_eq_true, Int.reduceToNat]
    (refine ⟨by (omega), hK _ ?_⟩)
    clear hK K
    refine AWP.cond rfl (fun hb => ?_) (fun hb => ?_)
    · (simp only [hb, cond_true] at hz2)
      refine AWP.skip ?_
      refine AWP.block ?_
      refine AWP.seq ?_
      refine AWP.regS G_ok impl_dateOf_DD hc (by kernel_rfl) (fun K hK => ?_); simp only [ea, gv, sv, D_impl_yearDays, D_impl_monthDays, reduceCtorEq, reduceIte, Nat.reduceBEq, Nat.reduceAdd, Nat.reduceEqDiff, Nat.reduceLT, Nat.reduceLeDiff, Nat.reduceMul, Nat.reduceSub, BEq.rfl, beq_self_eq_true, Int.reduceToNat]
      (refine ⟨by (omega), hK _ ?_⟩)
      clear hK K
      refine AWP.regS G_ok impl_dateOf_DD hc (by kernel_rfl) (fun K hK => ?_); simp only [ea, gv, sv, D_impl_yearDays, D_impl_monthDays, reduceCtorEq, reduceIte, Nat.reduceBEq, Nat.reduceAdd, Nat.reduceEqDiff, Nat.reduceLT, Nat.reduceLeDiff, Nat.reduceMul, Nat.reduceSub, BEq.rfl, beq_self_eq_true, Int.reduceToNat]
      (refine hK _ ?_)
      clear hK K
      exact ⟨_, [], by (have hbq := of_decide_eq_true hb; have h9 := restD_step s1.2 s2.2 s2.1 (by omega) (by omega) (by omega) hbq; have e1 := wrap_id (n := s2.1 - impl_monthDays s1.2 s2.2) (by omega) (by omega); have e2 := wrap_id (n := s2.2 + 1) (by omega) (by omega); simp only [e1, e2]; omega), by (have hbq := of_decide_eq_true hb; have h9 := restD_step s1.2 s2.2 s2.1 (by omega) (by omega) (by omega) hbq; have e1 := wrap_id (n := s2.1 - impl_monthDays s1.2 s2.2) (by omega) (by omega); have e2 := wrap_id (n := s2.2 + 1) (by omega) (by omega); simp only [e1, e2]; omega), hz2, by (simp only [si, ea, gv, sv, hk, reduceCtorEq, reduceIte, Nat.reduceBEq, Nat.reduceAdd, Nat.reduceEqDiff, Nat.reduceLT, Nat.reduceLeDiff, Nat.reduceMul, Nat.reduceSub, BEq.rfl, beq_self_eq_true, Int.reduceToNat]; trivial)⟩
    · (simp only [hb, cond_false] at hz2)
      refine AWP.exit ?_
      refine exitTo_here ?_
      subst hz2; dsimp only at hR
      refine AWP.seq ?_
      refine AWP.regS G_ok impl_dateOf_DD hc (by kernel_rfl) (fun K hK => ?_); simp only [ea, gv, sv, D_impl_yearDays, D_impl_monthDays, reduceCtorEq, reduceIte, Nat.reduceBEq, Nat.reduceAdd, Nat.reduceEqDiff, Nat.reduceLT, Nat.reduceLeDiff, Nat.reduceMul, Nat.reduceSub, BEq.rfl, beq_self_eq_true, Int.reduceToNat]
      (refine hK _ ?_)
      clear hK K
      refine AWP.ret ?_
      subst hR
      (simp only [en, si, ea, gv, sv, hk, reduceCtorEq, reduceIte, Nat.reduceBEq, Nat.reduceAdd, Nat.reduceEqDiff, Nat.reduceLT, Nat.reduceLeDiff, Nat.reduceMul, Nat.reduceSub, BEq.rfl, beq_self_eq_true, Int.reduceToNat]; done)
def D_impl_dateOf : DF
  | [x0] => some (.tup [.int .i64 ((impl_dateOf (rdI x0)).1), .int .i64 ((impl_dateOf (rdI x0)).2.1), .int .i64 ((impl_dateOf (rdI x0)).2.2)], false, [wI .i64 x0, 0 ≤ (rdI x0), (rdI x0) ≤ 99999])
  | _ => none
theorem D_impl_dateOf_ok : OkD Tryd.prog 32 D_impl_dateOf := by
  intro xs r z ob h ho
  unfold D_impl_dateOf at h
  split at h
  · simp only [Option.some.injEq, Prod.mk.injEq] at h
    obtain ⟨rfl, rfl, rfl⟩ := h
    obtain ⟨h0, hp0, hp1, _⟩ := ho
    exact Den.sim (impl_dateOf_den _ hp0 hp1) (simOL_cons (wI_sim h0).1 <| trivial) (noIdL_cons (wI_sim h0).2 <| rfl) rfl
  · cases h
end Go.Ab

namespace Go.Ab
open Go Go.Proofs
theorem strings_Repeat_DD : DOk Tryd.prog (DD []) := DD_nil _
def strings_Repeat (a0 : (List UInt8)) (a1 : Int) : (List UInt8) := Go.Lib.repeatL a0 a1.toNat
theorem strings_Repeat_den (a0 : (List UInt8)) (a1 : Int) (hp0 : 0 ≤ a1) (hp1 : a1 ≤ 9223372036854775807) (hp2 : a0.length * a1.toNat ≤ 140737488355328) : Den Tryd.prog 43 [.str a0, .int .i64 a1] (.str (strings_Repeat a0 a1)) := by
  obtain ⟨c, rfl⟩ : ∃ c : Nat, a1 = c := ⟨a1.toNat, by omega⟩
  refine Den.plain ⟨_, Tryd.func43, rfl, rfl⟩ (by simp [NoOwnL, NoOwn]) ?_
  intro w M vs hI hr
  simp only [RepL] at hr
  obtain ⟨u0, us0, f0, g0, rfl, h0e, h0, u1, us1, f1, g1, rfl, h1e, h1, rfl, _⟩ := hr
  have e0 := h0.val_str
  have e1 := h1.val_int
  subst e0 e1
  have hsz : (⟨a0.toArray⟩ : ByteArray).size = a0.length := by simp [ByteArray.size]
  refine (Any.strings_Repeat Tryd.lays105 Tryd.Builder_Extra_105 ⟨a0.toArray⟩ c w (by omega) (by rw [hsz]; simpa using hp2)).mono ?_
  rintro e w' ⟨rfl, hB⟩
  exact ⟨_, rfl, below_grow hB, fun M' => rep_str _ (by unfold strings_Repeat; rw [repeatL_len]; simp only [Int.toNat_natCast] at hp2; unfold maxLen; show a0.length * c ≤ _; omega)⟩
def D_strings_Repeat : DF
  | [x0, x1] => some (.str (strings_Repeat (rdS x0) (rdI x1)), false, [wS x0, wI .i64 x1, 0 ≤ (rdI x1), (rdI x1) ≤ 9223372036854775807, (rdS x0).length * (rdI x1).toNat ≤ 140737488355328])
  | _ => none
theorem D_strings_Repeat_ok : OkD Tryd.prog 43 D_strings_Repeat := by
  intro xs r z ob h ho
  unfold D_strings_Repeat at h
  split at h
  · simp only [Option.some.injEq, Prod.mk.injEq] at h
    obtain ⟨rfl, rfl, rfl⟩ := h
    obtain ⟨h0, h1, hp0, hp1, hp2, _⟩ := ho
    exact Den.sim (strings_Repeat_den _ _ hp0 hp1 hp2) (simOL_cons (wS_sim h0).1 <| simOL_cons (wI_sim h1).1 <| trivial) (noIdL_cons (wS_sim h0).2 <| noIdL_cons (wI_sim h1).2 <| rfl) rfl
  · cases h
end Go.Ab

namespace Go.Ab
open Go Go.Proofs
theorem itoa_len2 (n : Int) : (Go.Lib.itoa n).length ≤ n.natAbs + 2 := by
  unfold Go.Lib.itoa
  split
  · have := decDigits_len n.natAbs
    simp only [List.length_cons]
    omega
  · have := decDigits_len n.toNat
    omega
theorem impl_Decimal_eq (n : Int) : impl_Decimal n = Go.Lib.itoa n := rfl
theorem impl_Decimal_len (n : Int) : (impl_Decimal n).length ≤ n.natAbs + 2 := itoa_len2 n
end Go.Ab

namespace Go.Ab
open Go Go.Proofs
theorem strings_Repeat_len (a : List UInt8) (c : Int) : (strings_Repeat a c).length = a.length * c.toNat := by
  unfold strings_Repeat
  rw [repeatL_len]
end Go.Ab

namespace Go.Ab
open Go Go.Proofs
theorem impl_padded_DD : DOk Tryd.prog (DD [(15, dP D_impl_Decimal), (43, dP D_strings_Repeat)]) := DD_cons D_impl_Decimal_ok.e <| DD_cons D_strings_Repeat_ok.e <| DD_nil _
def impl_padded (a0 : Int) (a1 : Int) : (List UInt8) :=
  (strings_Repeat [48] (if 0 < IntKind.wrap .i64 (a1 - ((impl_Decimal a0).length : Int)) then IntKind.wrap .i64 (a1 - ((impl_Decimal a0).length : Int)) else 0)) ++ (impl_Decimal a0)
theorem impl_padded_den (a0 : Int) (a1 : Int) (hp0 : -1000000000000 ≤ a0) (hp1 : a0 ≤ 1000000000000) (hp2 : 0 ≤ a1) (hp3 : a1 ≤ 2) : Den Tryd.prog 33 [.int .i64 a0, .int .i64 a1] (.str (impl_padded a0 a1)) := by
  generalize hR : impl_padded a0 a1 = r
  unfold impl_padded at hR
  refine den_intro G_ok Tryd.func33 (by kernel_rfl) rfl Tryd.ntmps33 (by rw [Tryd.results33]) (by simp) rfl ?_
  intro c hL hc hk
  clear hL
  simp only [pars, Nat.zero_add]
  have hl0 := impl_Decimal_len a0
  refine AWP.seq ?_
  refine AWP.regS G_ok impl_padded_DD hc (by kernel_rfl) (fun K hK => ?_); simp only [ea, gv, sv, D_impl_Decimal, D_strings_Repeat, reduceCtorEq, reduceIte, Nat.reduceBEq, Nat.reduceAdd, Nat.reduceEqDiff, Nat.reduceLT, Nat.reduceLeDiff, Nat.reduceMul, Nat.reduceSub, BEq.rfl, beq_self_eq_true, Int.reduceToNat]
  (refine hK _ ?_)
  clear hK K
  refine AWP.seq ?_
  refine AWP.regS G_ok impl_padded_DD hc (by kernel_rfl) (fun K hK => ?_); simp only [ea, gv, sv, D_impl_Decimal, D_strings_Repeat, reduceCtorEq, reduceIte, Nat.reduceBEq, Nat.reduceAdd, Nat.reduceEqDiff, Nat.reduceLT, Nat.reduceLeDiff, Nat.reduceMul, Nat.reduceSub, BEq.rfl, beq_self_eq_true, Int.reduceToNat]
  (refine ⟨by (omega), hK _ ?_⟩)
  clear hK K
  refine AWP.seq ?_
  refine AWP.regS G_ok impl_padded_DD hc (by kernel_rfl) (fun K hK => ?_); simp only [ea, gv, sv, D_impl_Decimal, D_strings_Repeat, reduceCtorEq, reduceIte, Nat.reduceBEq, Nat.reduceAdd, Nat.reduceEqDiff, Nat.reduceLT, Nat.reduceLeDiff, Nat.reduceMul, Nat.reduceSub, BEq.rfl, beq_self_eq_true, Int.reduceToNat]
  (refine ⟨by ((simp only [ob, ln, bdv, strings_Repeat_len, sv] at *; omega)), hK _ ?_⟩)
  clear hK K
  refine AWP.ret ?_
  subst hR
  (simp only [en, si, ea, gv, sv, hk, reduceCtorEq, reduceIte, Nat.reduceBEq, Nat.reduceAdd, Nat.reduceEqDiff, Nat.reduceLT, Nat.reduceLeDiff, Nat.reduceMul, Nat.reduceSub, BEq.rfl, beq_self_eq_true, Int.reduceToNat]; done)
def D_impl_padded : DF
  | [x0, x1] => some (.str (impl_padded (rdI x0) (rdI x1)), false, [wI .i64 x0, wI .i64 x1, -1000000000000 ≤ (rdI x0), (rdI x0) ≤ 1000000000000, 0 ≤ (rdI x1), (rdI x1) ≤ 2])
  | _ => none
theorem D_impl_padded_ok : OkD Tryd.prog 33 D_impl_padded := by
  intro xs r z ob h ho
  unfold D_impl_padded at h
  split at h
  · simp only [Option.some.injEq, Prod.mk.injEq] at h
    obtain ⟨rfl, rfl, rfl⟩ := h
    obtain ⟨h0, h1, hp0, hp1, hp2, hp3, _⟩ := ho
    exact Den.sim (impl_padded_den _ _ hp0 hp1 hp2 hp3) (simOL_cons (wI_sim h0).1 <| simOL_cons (wI_sim h1).1 <| trivial) (noIdL_cons (wI_sim h0).2 <| noIdL_cons (wI_sim h1).2 <| rfl) rfl
  · cases h
end Go.Ab

namespace Go.Ab
open Go Go.Proofs
theorem loopW_inv {ρ σ : Type} {body : σ → Except ρ σ} {I : σ → Prop} {Q : ρ → Prop} (hi : ∀ s, I s → match body s with | .error r => Q r | .ok t => I t) :
    ∀ (k : Nat) (s : σ), I s → match loopW body k s with | .error r => Q r | .ok t => I t
  | 0, s, h => by simpa [loopW] using h
  | k + 1, s, h => by
    have := hi s h
    simp only [loopW]
    cases hb : body s with
    | error r => simp only [hb] at this ⊢; exact this
    | ok t => simp only [hb] at this ⊢; exact loopW_inv hi k t this
theorem loopW_end {ρ σ : Type} {body : σ → Except ρ σ} {I : σ → Prop} {Q : ρ → Prop} {M : σ → Nat} (hi : ∀ s, I s → match body s with | .error r => Q r | .ok t => I t ∧ M t < M s) :
    ∀ (k : Nat) (s : σ), I s → M s < k → ∃ r, loopW body k s = .error r ∧ Q r
  | 0, s, h, hk => by omega
  | k + 1, s, h, hk => by
    have := hi s h
    simp only [loopW]
    cases hb : body s with
    | error r => simp only [hb] at this ⊢; exact ⟨r, rfl, this⟩
    | ok t => simp only [hb] at this ⊢; exact loopW_end hi k t this.1 (by omega)
end Go.Ab

namespace Go.Ab
open Go Go.Proofs
theorem spec_l03Leap_DD : DOk Tryd.prog (DD []) := DD_nil _
def spec_l03Leap (a0 : Int) : Bool :=
  ((((a0.tmod 4) == 0) && ((a0.tmod 100) != 0)) || ((a0.tmod 400) == 0))
theorem spec_l03Leap_den (a0 : Int)  : Den Tryd.prog 61 [.int .i64 a0] (.bool (spec_l03Leap a0)) := by
  generalize hR : spec_l03Leap a0 = r
  unfold spec_l03Leap at hR
  refine den_intro G_ok Tryd.func61 (by kernel_rfl) rfl Tryd.ntmps61 (by rw [Tryd.results61]) (by simp) rfl ?_
  intro c hL hc hk
  clear hL
  simp only [pars, Nat.zero_add]
  refine AWP.seq ?_
  refine AWP.regS G_ok spec_l03Leap_DD hc (by kernel_rfl) (fun K hK => ?_); simp only [ea, gv, sv, reduceCtorEq, reduceIte, Nat.reduceBEq, Nat.reduceAdd, Nat.reduceEqDiff, Nat.reduceLT, Nat.reduceLeDiff, Nat.reduceMul, Nat.reduceSub, BEq.rfl, beq_self_eq_true, Int.reduceToNat]
  (refine hK _ ?_)
  clear hK K
  refine AWP.seq ?_
  refine AWP.regS G_ok spec_l03Leap_DD hc (by kernel_rfl) (fun K hK => ?_); simp only [ea, gv, sv, reduceCtorEq, reduceIte, Nat.reduceBEq, Nat.reduceAdd, Nat.reduceEqDiff, Nat.reduceLT, Nat.reduceLeDiff, Nat.reduceMul, Nat.reduceSub, BEq.rfl, beq_self_eq_true, Int.reduceToNat]
  (refine ⟨by (omega), hK _ ?_⟩)
  clear hK K
  refine AWP.ret ?_
  subst hR
  (simp only [en, si, ea, gv, sv, hk, reduceCtorEq, reduceIte, Nat.reduceBEq, Nat.reduceAdd, Nat.reduceEqDiff, Nat.reduceLT, Nat.reduceLeDiff, Nat.reduceMul, Nat.reduceSub, BEq.rfl, beq_self_eq_true, Int.reduceToNat]; done)
def D_spec_l03Leap : DF
  | [x0] => some (.bool (spec_l03Leap (rdI x0)), false, [wI .i64 x0])
  | _ => none
theorem D_spec_l03Leap_ok : OkD Tryd.prog 61 D_spec_l03Leap := by
  intro xs r z ob h ho
  unfold D_spec_l03Leap at h
  split at h
  · simp only [Option.some.injEq, Prod.mk.injEq] at h
    obtain ⟨rfl, rfl, rfl⟩ := h
    obtain ⟨h0, _⟩ := ho
    exact Den.sim (spec_l03Leap_den _ ) (simOL_cons (wI_sim h0).1 <| trivial) (noIdL_cons (wI_sim h0).2 <| rfl) rfl
  · cases h
end Go.Ab

namespace Go.Ab
open Go Go.Proofs
theorem spec_l03Days_DD : DOk Tryd.prog (DD [(61, dP D_spec_l03Leap)]) := DD_cons D_spec_l03Leap_ok.e <| DD_nil _
def spec_l03Days (a0 : Int) (a1 : Int) : Int :=
  (bif (a1 == 2) then (bif (spec_l03Leap a0) then 29 else 28) else (bif (a1 == 4) then 30 else (bif (a1 == 6) then 30 else (bif (a1 == 9) then 30 else (bif (a1 == 11) then 30 else 31)))))
theorem spec_l03Days_den (a0 : Int) (a1 : Int)  : Den Tryd.prog 48 [.int .i64 a0, .int .i64 a1] (.int .i64 (spec_l03Days a0 a1)) := by
  generalize hR : spec_l03Days a0 a1 = r
  unfold spec_l03Days at hR
  refine den_intro G_ok Tryd.func48 (by kernel_rfl) rfl Tryd.ntmps48 (by rw [Tryd.results48]) (by simp) rfl ?_
  intro c hL hc hk
  clear hL
  simp only [pars, Nat.zero_add]
  refine AWP.seq ?_
  refine AWP.regS G_ok spec_l03Days_DD hc (by kernel_rfl) (fun K hK => ?_); simp only [ea, gv, sv, D_spec_l03Leap, reduceCtorEq, reduceIte, Nat.reduceBEq, Nat.reduceAdd, Nat.reduceEqDiff, Nat.reduceLT, Nat.reduceLeDiff, Nat.reduceMul, Nat.reduceSub, BEq.rfl, beq_self_eq_true, Int.reduceToNat]
  (refine hK _ ?_)
  clear hK K
  refine AWP.seq ?_
  refine AWP.seq ?_
  refine AWP.regS G_ok spec_l03Days_DD hc (by kernel_rfl) (fun K hK => ?_); simp only [ea, gv, sv, D_spec_l03Leap, reduceCtorEq, reduceIte, Nat.reduceBEq, Nat.reduceAdd, Nat.reduceEqDiff, Nat.reduceLT, Nat.reduceLeDiff, Nat.reduceMul, Nat.reduceSub, BEq.rfl, beq_self_eq_true, Int.reduceToNat]
  (refine hK _ ?_)
  clear hK K
  refine AWP.block ?_
  refine AWP.seq ?_
  refine AWP.regS G_ok spec_l03Days_DD hc (by kernel_rfl) (fun K hK => ?_); simp only [ea, gv, sv, D_spec_l03Leap, reduceCtorEq, reduceIte, Nat.reduceBEq, Nat.reduceAdd, Nat.reduceEqDiff, Nat.reduceLT, Nat.reduceLeDiff, Nat.reduceMul, Nat.reduceSub, BEq.rfl, beq_self_eq_true, Int.reduceToNat]
  (refine hK _ ?_)
  clear hK K
  refine AWP.cond rfl (fun hb => ?_) (fun hb => ?_)
  · (simp only [hb, cond_true] at hR)
    refine AWP.seq ?_
    refine AWP.seq ?_
    refine AWP.regS G_ok spec_l03Days_DD hc (by kernel_rfl) (fun K hK => ?_); simp only [ea, gv, sv, D_spec_l03Leap, reduceCtorEq, reduceIte, Nat.reduceBEq, Nat.reduceAdd, Nat.reduceEqDiff, Nat.reduceLT, Nat.reduceLeDiff, Nat.reduceMul, Nat.reduceSub, BEq.rfl, beq_self_eq_true, Int.reduceToNat]
    (refine hK _ ?_)
    clear hK K
    refine AWP.cond rfl (fun hb => ?_) (fun hb => ?_)
    · (simp only [hb, cond_true] at hR)
      refine AWP.seq ?_
      refine AWP.regS G_ok spec_l03Days_DD hc (by kernel_rfl) (fun K hK => ?_); simp only [ea, gv, sv, D_spec_l03Leap, reduceCtorEq, reduceIte, Nat.reduceBEq, Nat.reduceAdd, Nat.reduceEqDiff, Nat.reduceLT, Nat.reduceLeDiff, Nat.reduceMul, Nat.reduceSub, BEq.rfl, beq_self_eq_true, Int.reduceToNat]
      (refine hK _ ?_)
      clear hK K
      refine AWP.ret ?_
      subst hR
      (simp only [en, si, ea, gv, sv, hk, reduceCtorEq, reduceIte, Nat.reduceBEq, Nat.reduceAdd, Nat.reduceEqDiff, Nat.reduceLT, Nat.reduceLeDiff, Nat.reduceMul, Nat.reduceSub, BEq.rfl, beq_self_eq_true, Int.reduceToNat]; done)
    · (simp only [hb, cond_false] at hR)
      refine AWP.skip ?_
      refine AWP.seq ?_
      refine AWP.regS G_ok spec_l03Days_DD hc (by kernel_rfl) (fun K hK => ?_); simp only [ea, gv, sv, D_spec_l03Leap, reduceCtorEq, reduceIte, Nat.reduceBEq, Nat.reduceAdd, Nat.reduceEqDiff, Nat.reduceLT, Nat.reduceLeDiff, Nat.reduceMul, Nat.reduceSub, BEq.rfl, beq_self_eq_true, Int.reduceToNat]
      (refine hK _ ?_)
      clear hK K
      refine AWP.ret ?_
      subst hR
      (simp only [en, si, ea, gv, sv, hk, reduceCtorEq, reduceIte, Nat.reduceBEq, Nat.reduceAdd, Nat.reduceEqDiff, Nat.reduceLT, Nat.reduceLeDiff, Nat.reduceMul, Nat.reduceSub, BEq.rfl, beq_self_eq_true, Int.reduceToNat]; done)
  · (simp only [hb, cond_false] at hR)
    refine AWP.seq ?_
    refine AWP.seq ?_
    refine AWP.regS G_ok spec_l03Days_DD hc (by kernel_rfl) (fun K hK => ?_); simp only [ea, gv, sv, D_spec_l03Leap, reduceCtorEq, reduceIte, Nat.reduceBEq, Nat.reduceAdd, Nat.reduceEqDiff, Nat.reduceLT, Nat.reduceLeDiff, Nat.reduceMul, Nat.reduceSub, BEq.rfl, beq_self_eq_true, Int.reduceToNat]
    (refine hK _ ?_)
    clear hK K
    refine AWP.cond rfl (fun hb => ?_) (fun hb => ?_)
    · (simp only [hb, cond_true] at hR)
      refine AWP.skip ?_
      refine AWP.cond rfl (fun hb => ?_) (fun hb => ?_)
      · refine AWP.seq ?_
        refine AWP.regS G_ok spec_l03Days_DD hc (by kernel_rfl) (fun K hK => ?_); simp only [ea, gv, sv, D_spec_l03Leap, reduceCtorEq, reduceIte, Nat.reduceBEq, Nat.reduceAdd, Nat.reduceEqDiff, Nat.reduceLT, Nat.reduceLeDiff, Nat.reduceMul, Nat.reduceSub, BEq.rfl, beq_self_eq_true, Int.reduceToNat]
        (refine hK _ ?_)
        clear hK K
        refine AWP.ret ?_
        subst hR
        (simp only [en, si, ea, gv, sv, hk, reduceCtorEq, reduceIte, Nat.reduceBEq, Nat.reduceAdd, Nat.reduceEqDiff, Nat.reduceLT, Nat.reduceLeDiff, Nat.reduceMul, Nat.reduceSub, BEq.rfl, beq_self_eq_true, Int.reduceToNat]; done)
      · exfalso; simp_all
    · (simp only [hb, cond_false] at hR)
      refine AWP.seq ?_
      refine AWP.regS G_ok spec_l03Days_DD hc (by kernel_rfl) (fun K hK => ?_); simp only [ea, gv, sv, D_spec_l03Leap, reduceCtorEq, reduceIte, Nat.reduceBEq, Nat.reduceAdd, Nat.reduceEqDiff, Nat.reduceLT, Nat.reduceLeDiff, Nat.reduceMul, Nat.reduceSub, BEq.rfl, beq_self_eq_true, Int.reduceToNat]
      (refine hK _ ?_)
      clear hK K
      refine AWP.cond rfl (fun hb => ?_) (fun hb => ?_)
      · (simp only [hb, cond_true] at hR)
        refine AWP.skip ?_
        refine AWP.cond rfl (fun hb => ?_) (fun hb => ?_)
        · refine AWP.seq ?_
          refine AWP.regS G_ok spec_l03Days_DD hc (by kernel_rfl) (fun K hK => ?_); simp only [ea, gv, sv, D_spec_l03Leap, reduceCtorEq, reduceIte, Nat.reduceBEq, Nat.reduceAdd, Nat.reduceEqDiff, Nat.reduceLT, Nat.reduceLeDiff, Nat.reduceMul, Nat.reduceSub, BEq.rfl, beq_self_eq_true, Int.reduceToNat]
          (refine hK _ ?_)
          clear hK K
          refine AWP.ret ?_
          subst hR
          (simp only [en, si, ea, gv, sv, hk, reduceCtorEq, reduceIte, Nat.reduceBEq, Nat.reduceAdd, Nat.reduceEqDiff, Nat.reduceLT, Nat.reduceLeDiff, Nat.reduceMul, Nat.reduceSub, BEq.rfl, beq_self_eq_true, Int.reduceToNat]; done)
        · exfalso; simp_all
      · (simp only [hb, cond_false] at hR)
        refine AWP.seq ?_
        refine AWP.regS G_ok spec_l03Days_DD hc (by kernel_rfl) (fun K hK => ?_); simp only [ea, gv, sv, D_spec_l03Leap, reduceCtorEq, reduceIte, Nat.reduceBEq, Nat.reduceAdd, Nat.reduceEqDiff, Nat.reduceLT, Nat.reduceLeDiff, Nat.reduceMul, Nat.reduceSub, BEq.rfl, beq_self_eq_true, Int.reduceToNat]
        (refine hK _ ?_)
        clear hK K
        refine AWP.cond rfl (fun hb => ?_) (fun hb => ?_)
        · (simp only [hb, cond_true] at hR)
          refine AWP.skip ?_
          refine AWP.cond rfl (fun hb => ?_) (fun hb => ?_)
          · refine AWP.seq ?_
            refine AWP.regS G_ok spec_l03Days_DD hc (by kernel_rfl) (fun K hK => ?_); simp only [ea, gv, sv, D_spec_l03Leap, reduceCtorEq, reduceIte, Nat.reduceBEq, Nat.reduceAdd, Nat.reduceEqDiff, Nat.reduceLT, Nat.reduceLeDiff, Nat.reduceMul, Nat.reduceSub, BEq.rfl, beq_self_eq_true, Int.reduceToNat]
            (refine hK _ ?_)
            clear hK K
            refine AWP.ret ?_
            subst hR
            (simp only [en, si, ea, gv, sv, hk, reduceCtorEq, reduceIte, Nat.reduceBEq, Nat.reduceAdd, Nat.reduceEqDiff, Nat.reduceLT, Nat.reduceLeDiff, Nat.reduceMul, Nat.reduceSub, BEq.rfl, beq_self_eq_true, Int.reduceToNat]; done)
          · exfalso; simp_all
        · (simp only [hb, cond_false] at hR)
          refine AWP.regS G_ok spec_l03Days_DD hc (by kernel_rfl) (fun K hK => ?_); simp only [ea, gv, sv, D_spec_l03Leap, reduceCtorEq, reduceIte, Nat.reduceBEq, Nat.reduceAdd, Nat.reduceEqDiff, Nat.reduceLT, Nat.reduceLeDiff, Nat.reduceMul, Nat.reduceSub, BEq.rfl, beq_self_eq_true, Int.reduceToNat]
          (refine hK _ ?_)
          clear hK K
          refine AWP.cond rfl (fun hb => ?_) (fun hb => ?_)
          · (simp only [hb, cond_true] at hR)
            refine AWP.seq ?_
            refine AWP.regS G_ok spec_l03Days_DD hc (by kernel_rfl) (fun K hK => ?_); simp only [ea, gv, sv, D_spec_l03Leap, reduceCtorEq, reduceIte, Nat.reduceBEq, Nat.reduceAdd, Nat.reduceEqDiff, Nat.reduceLT, Nat.reduceLeDiff, Nat.reduceMul, Nat.reduceSub, BEq.rfl, beq_self_eq_true, Int.reduceToNat]
            (refine hK _ ?_)
            clear hK K
            refine AWP.ret ?_
            subst hR
            (simp only [en, si, ea, gv, sv, hk, reduceCtorEq, reduceIte, Nat.reduceBEq, Nat.reduceAdd, Nat.reduceEqDiff, Nat.reduceLT, Nat.reduceLeDiff, Nat.reduceMul, Nat.reduceSub, BEq.rfl, beq_self_eq_true, Int.reduceToNat]; done)
          · (simp only [hb, cond_false] at hR)
            refine AWP.skip ?_
            refine AWP.seq ?_
            refine AWP.regS G_ok spec_l03Days_DD hc (by kernel_rfl) (fun K hK => ?_); simp only [ea, gv, sv, D_spec_l03Leap, reduceCtorEq, reduceIte, Nat.reduceBEq, Nat.reduceAdd, Nat.reduceEqDiff, Nat.reduceLT, Nat.reduceLeDiff, Nat.reduceMul, Nat.reduceSub, BEq.rfl, beq_self_eq_true, Int.reduceToNat]
            (refine hK _ ?_)
            clear hK K
            refine AWP.ret ?_
            subst hR
            (simp only [en, si, ea, gv, sv, hk, reduceCtorEq, reduceIte, Nat.reduceBEq, Nat.reduceAdd, Nat.reduceEqDiff, Nat.reduceLT, Nat.reduceLeDiff, Nat.reduceMul, Nat.reduceSub, BEq.rfl, beq_self_eq_true, Int.reduceToNat]; done)
def D_spec_l03Days : DF
  | [x0, x1] => some (.int .i64 (spec_l03Days (rdI x0) (rdI x1)), false, [wI .i64 x0, wI .i64 x1])
  | _ => none
theorem D_spec_l03Days_ok : OkD Tryd.prog 48 D_spec_l03Days := by
  intro xs r z ob h ho
  unfold D_spec_l03Days at h
  split at h
  · simp only [Option.some.injEq, Prod.mk.injEq] at h
    obtain ⟨rfl, rfl, rfl⟩ := h
    obtain ⟨h0, h1, _⟩ := ho
    exact Den.sim (spec_l03Days_den _ _ ) (simOL_cons (wI_sim h0).1 <| simOL_cons (wI_sim h1).1 <| trivial) (noIdL_cons (wI_sim h0).2 <| noIdL_cons (wI_sim h1).2 <| rfl) rfl
  · cases h
end Go.Ab

namespace Go.Ab
open Go Go.Proofs
theorem spec_l03Days_ge (y m : Int) : 28 ≤ spec_l03Days y m ∧ spec_l03Days y m ≤ 31 := by
  unfold spec_l03Days
  cases spec_l03Leap y <;> cases (m == 2) <;> cases (m == 4) <;> cases (m == 6) <;> cases (m == 9) <;> cases (m == 11) <;> simp
end Go.Ab

namespace Go.Ab
open Go Go.Proofs
theorem spec_l03Date_DD : DOk Tryd.prog (DD [(48, dP D_spec_l03Days)]) := DD_cons D_spec_l03Days_ok.e <| DD_nil _
def spec_l03Date_b1 (a0 : Int) (s1 : Int × Int × Int) : Except (Sum ((Int × Int × Int)) (Int × Int × Int)) (Int × Int × Int) :=
  (bif decide ((spec_l03Days s1.2.1 s1.2.2) ≤ s1.1) then (bif decide (12 < (IntKind.wrap .i64 (s1.2.2 + 1))) then .ok (IntKind.wrap .i64 (s1.1 - (spec_l03Days s1.2.1 s1.2.2)), IntKind.wrap .i64 (s1.2.1 + 1), 1) else .ok (IntKind.wrap .i64 (s1.1 - (spec_l03Days s1.2.1 s1.2.2)), s1.2.1, IntKind.wrap .i64 (s1.2.2 + 1))) else .error (.inr (s1.1, s1.2.1, s1.2.2)))
def spec_l03Date (a0 : Int) : (Int × Int × Int) :=
  (match loopW (spec_l03Date_b1 a0) (((a0).toNat) + 1) (a0, 2000, 1) with | .error (.inl e) => e | .error (.inr s1) => (s1.2.1, s1.2.2, IntKind.wrap .i64 (s1.1 + 1)) | .ok _ => default)
theorem spec_l03Date_den (a0 : Int) (hp0 : 0 ≤ a0) (hp1 : a0 ≤ 99999) : Den Tryd.prog 37 [.int .i64 a0] (.tup [.int .i64 ((spec_l03Date a0).1), .int .i64 ((spec_l03Date a0).2.1), .int .i64 ((spec_l03Date a0).2.2)]) := by
  generalize hR : spec_l03Date a0 = r
  unfold spec_l03Date at hR
  refine den_intro G_ok Tryd.func37 (by kernel_rfl) rfl Tryd.ntmps37 (by rw [Tryd.results37]) (by simp) rfl ?_
  intro c hL hc hk
  clear hL
  simp only [pars, Nat.zero_add]
  refine AWP.seq ?_
  refine AWP.regS G_ok spec_l03Date_DD hc (by kernel_rfl) (fun K hK => ?_); simp only [ea, gv, sv, D_spec_l03Days, reduceCtorEq, reduceIte, Nat.reduceBEq, Nat.reduceAdd, Nat.reduceEqDiff, Nat.reduceLT, Nat.reduceLeDiff, Nat.reduceMul, Nat.reduceSub, BEq.rfl, beq_self_eq_true, Int.reduceToNat]
  (refine hK _ ?_)
  clear hK K
  refine AWP.seq ?_
  refine AWP.regS G_ok spec_l03Date_DD hc (by kernel_rfl) (fun K hK => ?_); simp only [ea, gv, sv, D_spec_l03Days, reduceCtorEq, reduceIte, Nat.reduceBEq, Nat.reduceAdd, Nat.reduceEqDiff, Nat.reduceLT, Nat.reduceLeDiff, Nat.reduceMul, Nat.reduceSub, BEq.rfl, beq_self_eq_true, Int.reduceToNat]
  (refine hK _ ?_)
  clear hK K
  refine AWP.seq ?_
  refine AWP.regS G_ok spec_l03Date_DD hc (by kernel_rfl) (fun K hK => ?_); simp only [ea, gv, sv, D_spec_l03Days, reduceCtorEq, reduceIte, Nat.reduceBEq, Nat.reduceAdd, Nat.reduceEqDiff, Nat.reduceLT, Nat.reduceLeDiff, Nat.reduceMul, Nat.reduceSub, BEq.rfl, beq_self_eq_true, Int.reduceToNat]
  (refine hK _ ?_)
  clear hK K
  refine AWP.seq ?_
  refine AWP.block ?_
  generalize hz1 : loopW (spec_l03Date_b1 a0) (((a0).toNat) + 1) (a0, 2000, 1) = z1 at hR
  refine AWP.whileW (spec_l03Date_b1 a0) (fun s1 => ⟨[(0, .int .i64 s1.1), (5, .int .i64 s1.2.1), (6, .int .i64 s1.2.2)], []⟩) (fun s1 => 0 ≤ s1.1 ∧ 2000 ≤ s1.2.1 ∧ 1 ≤ s1.2.2 ∧ s1.2.2 ≤ 12 ∧ s1.2.1 - 2000 + s1.1 ≤ a0) (fun s1 => (s1.1).toNat) (((a0).toNat) + 1) (a0, 2000, 1) [] hz1 (by omega) (by ((and_intros <;> simp only [ln] <;> omega))) (by (simp only [si, ea, gv, sv, hk, reduceCtorEq, reduceIte, Nat.reduceBEq, Nat.reduceAdd, Nat.reduceEqDiff, Nat.reduceLT, Nat.reduceLeDiff, Nat.reduceMul, Nat.reduceSub, BEq.rfl, beq_self_eq_true, Int.reduceToNat]; trivial)) ?_
  clear hz1
  intro s1 k1 hW1 hm1 hz1
  simp only [spec_l03Date_b1] at hz1
  refine AWP.seq ?_
  refine AWP.seq ?_
  refine AWP.regS G_ok spec_l03Date_DD hc (by kernel_rfl) (fun K hK => ?_); simp only [ea, gv, sv, D_spec_l03Days, reduceCtorEq, reduceIte, Nat.reduceBEq, Nat.reduceAdd, Nat.reduceEqDiff, Nat.reduceLT, Nat.reduceLeDiff, Nat.reduceMul, Nat.reduceSub, BEq.rfl, beq_self_eq_true, Int.reduceToNat]
  (refine hK _ ?_)
  clear hK K
  refine AWP.cond rfl (fun hb => ?_) (fun hb => ?_)
  · (simp only [hb, cond_true] at hz1)
    refine AWP.skip ?_
    refine AWP.block ?_
    refine AWP.seq ?_
    refine AWP.regS G_ok spec_l03Date_DD hc (by kernel_rfl) (fun K hK => ?_); simp only [ea, gv, sv, D_spec_l03Days, reduceCtorEq, reduceIte, Nat.reduceBEq, Nat.reduceAdd, Nat.reduceEqDiff, Nat.reduceLT, Nat.reduceLeDiff, Nat.reduceMul, Nat.reduceSub, BEq.rfl, beq_self_eq_true, Int.reduceToNat]
    (refine hK _ ?_)
    clear hK K
    refine AWP.seq ?_
    refine AWP.regS G_ok spec_l03Date_DD hc (by kernel_rfl) (fun K hK => ?_); simp only [ea, gv, sv, D_spec_l03Days, reduceCtorEq, reduceIte, Nat.reduceBEq, Nat.reduceAdd, Nat.reduceEqDiff, Nat.reduceLT, Nat.reduceLeDiff, Nat.reduceMul, Nat.reduceSub, BEq.rfl, beq_self_eq_true, Int.reduceToNat]
    (refine hK _ ?_)
    clear hK K
    refine AWP.seq ?_
    refine AWP.regS G_ok spec_l03Date_DD hc (by kernel_rfl) (fun K hK => ?_); simp only [ea, gv, sv, D_spec_l03Days, reduceCtorEq, reduceIte, Nat.reduceBEq, Nat.reduceAdd, Nat.reduceEqDiff, Nat.reduceLT, Nat.reduceLeDiff, Nat.reduceMul, Nat.reduceSub, BEq.rfl, beq_self_eq_true, Int.reduceToNat]
    (refine hK _ ?_)
    clear hK K
    refine AWP.cond rfl (fun hb => ?_) (fun hb => ?_)
    · (simp only [hb, cond_true] at hz1)
      refine AWP.seq ?_
      refine AWP.regS G_ok spec_l03Date_DD hc (by kernel_rfl) (fun K hK => ?_); simp only [ea, gv, sv, D_spec_l03Days, reduceCtorEq, reduceIte, Nat.reduceBEq, Nat.reduceAdd, Nat.reduceEqDiff, Nat.reduceLT, Nat.reduceLeDiff, Nat.reduceMul, Nat.reduceSub, BEq.rfl, beq_self_eq_true, Int.reduceToNat]
      (refine hK _ ?_)
      clear hK K
      refine AWP.regS G_ok spec_l03Date_DD hc (by kernel_rfl) (fun K hK => ?_); simp only [ea, gv, sv, D_spec_l03Days, reduceCtorEq, reduceIte, Nat.reduceBEq, Nat.reduceAdd, Nat.reduceEqDiff, Nat.reduceLT, Nat.reduceLeDiff, Nat.reduceMul, Nat.reduceSub, BEq.rfl, beq_self_eq_true, Int.reduceToNat]
      (refine hK _ ?_)
      clear hK K
      exact ⟨_, [], by (have h9 := spec_l03Days_ge s1.2.1 s1.2.2; simp only [ob, ln] at *; omega), by (have h9 := spec_l03Days_ge s1.2.1 s1.2.2; simp only [ob, ln] at *; omega), hz1, by (simp only [si, ea, gv, sv, hk, reduceCtorEq, reduceIte, Nat.reduceBEq, Nat.reduceAdd, Nat.reduceEqDiff, Nat.reduceLT, Nat.reduceLeDiff, Nat.reduceMul, Nat.reduceSub, BEq.rfl, beq_self_eq_true, Int.reduceToNat]; trivial)⟩
    · (simp only [hb, cond_false] at hz1)
      refine AWP.skip ?_
      exact ⟨_, [], by (have h9 := spec_l03Days_ge s1.2.1 s1.2.2; simp only [ob, ln] at *; omega), by (have h9 := spec_l03Days_ge s1.2.1 s1.2.2; simp only [ob, ln] at *; omega), hz1, by (simp only [si, ea, gv, sv, hk, reduceCtorEq, reduceIte, Nat.reduceBEq, Nat.reduceAdd, Nat.reduceEqDiff, Nat.reduceLT, Nat.reduceLeDiff, Nat.reduceMul, Nat.reduceSub, BEq.rfl, beq_self_eq_true, Int.reduceToNat]; trivial)⟩
  · (simp only [hb, cond_false] at hz1)
    refine AWP.exit ?_
    refine exitTo_here ?_
    subst hz1; dsimp only at hR
    refine AWP.seq ?_
    refine AWP.regS G_ok spec_l03Date_DD hc (by kernel_rfl) (fun K hK => ?_); simp only [ea, gv, sv, D_spec_l03Days, reduceCtorEq, reduceIte, Nat.reduceBEq, Nat.reduceAdd, Nat.reduceEqDiff, Nat.reduceLT, Nat.reduceLeDiff, Nat.reduceMul, Nat.reduceSub, BEq.rfl, beq_self_eq_true, Int.reduceToNat]
    (refine hK _ ?_)
    clear hK K
    refine AWP.ret ?_
    subst hR
    (simp only [en, si, ea, gv, sv, hk, reduceCtorEq, reduceIte, Nat.reduceBEq, Nat.reduceAdd, Nat.reduceEqDiff, Nat.reduceLT, Nat.reduceLeDiff, Nat.reduceMul, Nat.reduceSub, BEq.rfl, beq_self_eq_true, Int.reduceToNat]; done)
def D_spec_l03Date : DF
  | [x0] => some (.tup [.int .i64 ((spec_l03Date (rdI x0)).1), .int .i64 ((spec_l03Date (rdI x0)).2.1), .int .i64 ((spec_l03Date (rdI x0)).2.2)], false, [wI .i64 x0, 0 ≤ (rdI x0), (rdI x0) ≤ 99999])
  | _ => none
theorem D_spec_l03Date_ok : OkD Tryd.prog 37 D_spec_l03Date := by
  intro xs r z ob h ho
  unfold D_spec_l03Date at h
  split at h
  · simp only [Option.some.injEq, Prod.mk.injEq] at h
    obtain ⟨rfl, rfl, rfl⟩ := h
    obtain ⟨h0, hp0, hp1, _⟩ := ho
    exact Den.sim (spec_l03Date_den _ hp0 hp1) (simOL_cons (wI_sim h0).1 <| trivial) (noIdL_cons (wI_sim h0).2 <| rfl) rfl
  · cases h
end Go.Ab

namespace Go.Ab
open Go Go.Proofs
def ybD (y : Int) : Int := 365 * (y - 2000) + (y - 1997) / 4 - (y - 1901) / 100 + (y - 1601) / 400
def mbD (l : Bool) (m : Nat) : Nat := ([0, 0, 31, 59, 90, 120, 151, 181, 212, 243, 273, 304, 334] : List Nat).getD m 0 + (bif l && Nat.blt 2 m then 1 else 0)
def mdD (l : Bool) (m : Nat) : Nat := ([0, 31, 28, 31, 30, 31, 30, 31, 31, 30, 31, 30, 31] : List Nat).getD m 0 + (bif l && Nat.beq 2 m then 1 else 0)
theorem mb_mono : ∀ (l : Bool) (m m' : Fin 13), 1 ≤ m.val → m < m' → mbD l m + mdD l m ≤ mbD l m' := by decide
theorem mb_next : ∀ (l : Bool) (m : Fin 12), 1 ≤ m.val → mbD l (m.val + 1) = mbD l m + mdD l m := by decide
def DateIs (a y m d : Int) : Prop := 2000 ≤ y ∧ 1 ≤ m ∧ m ≤ 12 ∧ 1 ≤ d ∧ d ≤ mdD (spec_l03Leap y) m.toNat ∧ a = ybD y + mbD (spec_l03Leap y) m.toNat + d - 1
theorem leap_yb (y : Int) (h : 2000 ≤ y) : ybD (y + 1) = ybD y + 365 + (bif spec_l03Leap y then 1 else 0) := by
  have e1 : y.tmod 4 = y % 4 := Int.tmod_eq_emod_of_nonneg (by omega)
  have e2 : y.tmod 100 = y % 100 := Int.tmod_eq_emod_of_nonneg (by omega)
  have e3 : y.tmod 400 = y % 400 := Int.tmod_eq_emod_of_nonneg (by omega)
  by_cases hc : (y % 4 = 0 ∧ y % 100 ≠ 0) ∨ y % 400 = 0
  · have hl : spec_l03Leap y = true := by unfold spec_l03Leap; rw [e1, e2, e3]; simpa using hc
    rw [hl]; simp only [cond_true]; unfold ybD; omega
  · have hl : spec_l03Leap y = false := by unfold spec_l03Leap; rw [e1, e2, e3]; simpa using hc
    rw [hl]; simp only [cond_false]; unfold ybD; omega
theorem yb_nonneg {y : Int} (h : 2000 ≤ y) : 0 ≤ ybD y := by unfold ybD; omega
theorem yb_mono (y y' : Int) (h : y ≤ y') : ybD y ≤ ybD y' := by unfold ybD; omega
theorem year_le {y : Int} (h : ybD y ≤ 99999) : y ≤ 2273 := by unfold ybD at h; omega
theorem leap_eq {y : Int} (h1 : 2000 ≤ y) (h2 : y ≤ 2273) : impl_IsLeap y = spec_l03Leap y := by
  unfold impl_IsLeap spec_l03Leap impl_isYear impl_within
  simp [h1, h2]
theorem m_nat {m : Int} (h1 : 1 ≤ m) (h2 : m ≤ 12) : ∃ k : Nat, m = k ∧ 1 ≤ k ∧ k ≤ 12 := ⟨m.toNat, by omega, by omega, by omega⟩
theorem mdD_impl {y m : Int} (hy1 : 2000 ≤ y) (hy2 : y ≤ 2273) (h1 : 1 ≤ m) (h2 : m ≤ 12) : impl_monthDays y m = mdD (spec_l03Leap y) m.toNat := by
  obtain ⟨e1, e2, e3, e4, e5, e6, e7, e8, e9, e10, e11, e12⟩ := monthDays_at y
  rw [leap_eq hy1 hy2] at e2
  rcases month_cases h1 h2 with rfl | rfl | rfl | rfl | rfl | rfl | rfl | rfl | rfl | rfl | rfl | rfl <;> simp only [*] <;> cases spec_l03Leap y <;> rfl
theorem mdD_spec {y m : Int} (h1 : 1 ≤ m) (h2 : m ≤ 12) : spec_l03Days y m = mdD (spec_l03Leap y) m.toNat := by
  unfold spec_l03Days
  rcases month_cases h1 h2 with rfl | rfl | rfl | rfl | rfl | rfl | rfl | rfl | rfl | rfl | rfl | rfl <;> cases spec_l03Leap y <;> rfl
theorem mb_succ {l : Bool} {m : Int} (h1 : 1 ≤ m) (h2 : m ≤ 11) : mbD l (m + 1).toNat = mbD l m.toNat + mdD l m.toNat := by
  have := mb_next l ⟨m.toNat, by omega⟩ (by show 1 ≤ m.toNat; omega)
  rw [show (m + 1).toNat = m.toNat + 1 by omega]
  exact this
theorem mb_last (l : Bool) : mbD l 12 + mdD l 12 = 365 + (bif l then 1 else 0) := by cases l <;> rfl
theorem mb_first (l : Bool) : mbD l 1 = 0 := by cases l <;> rfl
theorem mb_end {l : Bool} {m : Int} (h1 : 1 ≤ m) (h2 : m ≤ 12) : mbD l m.toNat + mdD l m.toNat ≤ 365 + (bif l then 1 else 0) := by
  rw [← mb_last l]
  by_cases h : m = 12
  · subst h; exact Nat.le_refl _
  · have := mb_mono l ⟨m.toNat, by omega⟩ ⟨12, by omega⟩ (by show 1 ≤ m.toNat; omega) (by show m.toNat < 12; omega)
    have h3 : mbD l m.toNat + mdD l m.toNat ≤ mbD l 12 := this
    omega
theorem DateIs.unique {a y m d y' m' d' : Int} (h : DateIs a y m d) (h' : DateIs a y' m' d') : y = y' ∧ m = m' ∧ d = d' := by
  obtain ⟨hy, hm1, hm2, hd1, hd2, ha⟩ := h
  obtain ⟨hy', hm1', hm2', hd1', hd2', ha'⟩ := h'
  have e1 := mb_end (l := spec_l03Leap y) hm1 hm2
  have e1' := mb_end (l := spec_l03Leap y') hm1' hm2'
  have l1 := leap_yb y hy
  have l1' := leap_yb y' hy'
  have hyy : y = y' := by
    by_cases h1 : y < y'
    · have := yb_mono (y + 1) y' (by omega)
      cases hl : spec_l03Leap y <;> cases hl' : spec_l03Leap y' <;> simp only [hl, hl', cond_true, cond_false] at * <;> omega
    · by_cases h2 : y' < y
      · have := yb_mono (y' + 1) y (by omega)
        cases hl : spec_l03Leap y <;> cases hl' : spec_l03Leap y' <;> simp only [hl, hl', cond_true, cond_false] at * <;> omega
      · omega
  subst hyy
  have hmm : m = m' := by
    by_cases h1 : m < m'
    · have := mb_mono (spec_l03Leap y) ⟨m.toNat, by omega⟩ ⟨m'.toNat, by omega⟩ (by show 1 ≤ m.toNat; omega) (by show m.toNat < m'.toNat; omega)
      have h3 : mbD (spec_l03Leap y) m.toNat + mdD (spec_l03Leap y) m.toNat ≤ mbD (spec_l03Leap y) m'.toNat := this
      omega
    · by_cases h2 : m' < m
      · have := mb_mono (spec_l03Leap y) ⟨m'.toNat, by omega⟩ ⟨m.toNat, by omega⟩ (by show 1 ≤ m'.toNat; omega) (by show m'.toNat < m.toNat; omega)
        have h3 : mbD (spec_l03Leap y) m'.toNat + mdD (spec_l03Leap y) m'.toNat ≤ mbD (spec_l03Leap y) m.toNat := this
        omega
      · omega
  subst hmm
  exact ⟨rfl, rfl, by omega⟩
theorem impl_dateOf_is (a : Int) (h1 : 0 ≤ a) (h2 : a ≤ 99999) : ∃ y m d, impl_dateOf a = (y, m, d) ∧ y ≤ 2273 ∧ DateIs a y m d := by
  have L1 := loopW_end (body := impl_dateOf_b1 a) (I := fun s => 0 ≤ s.1 ∧ 2000 ≤ s.2 ∧ ybD s.2 + s.1 = a)
    (Q := fun r => ∃ s : Int × Int, r = .inr s ∧ 0 ≤ s.1 ∧ 2000 ≤ s.2 ∧ ybD s.2 + s.1 = a ∧ s.1 < impl_yearDays s.2) (M := fun s => s.1.toNat) (by
      rintro ⟨d, y⟩ ⟨i1, i2, i3⟩
      simp only [impl_dateOf_b1] at i1 i2 i3 ⊢
      have hy := impl_yearDays_eq y
      have hle := year_le (y := y) (by omega)
      have hnn := yb_nonneg i2
      by_cases hc : impl_yearDays y ≤ d
      · have hyd : impl_yearDays y = 365 + (bif spec_l03Leap y then 1 else 0) := by
          unfold impl_yearDays; rw [leap_eq i2 hle]; cases spec_l03Leap y <;> rfl
        have hn := leap_yb y i2
        simp only [hc, decide_true, cond_true]
        rw [wrap_id (by omega) (by omega), wrap_id (by omega) (by omega)]
        refine ⟨⟨by omega, by omega, by omega⟩, by omega⟩
      · simp only [hc, decide_false, cond_false]
        exact ⟨_, rfl, i1, i2, i3, by show d < impl_yearDays y; omega⟩) (a.toNat + 1) (a, 2000) ⟨h1, by show (2000 : Int) ≤ 2000; omega, by simp [ybD]⟩ (by show a.toNat < a.toNat + 1; omega)
  obtain ⟨r, e1, s, rfl, q1, q2, q3, q4⟩ := L1
  have hle := year_le (y := s.2) (by omega)
  have hnn := yb_nonneg q2
  have hyd := impl_yearDays_eq s.2
  have L2 := loopW_end (body := impl_dateOf_b2 a s) (I := fun t => 0 ≤ t.1 ∧ 1 ≤ t.2 ∧ t.2 ≤ 12 ∧ t.1 < restD s.2 t.2 ∧ (mbD (spec_l03Leap s.2) t.2.toNat : Int) + t.1 = s.1)
    (Q := fun r => ∃ t : Int × Int, r = .inr t ∧ 0 ≤ t.1 ∧ 1 ≤ t.2 ∧ t.2 ≤ 12 ∧ t.1 < impl_monthDays s.2 t.2 ∧ (mbD (spec_l03Leap s.2) t.2.toNat : Int) + t.1 = s.1) (M := fun t => t.1.toNat) (by
      rintro ⟨d, m⟩ ⟨i1, i2, i3, i4, i5⟩
      simp only [impl_dateOf_b2] at i1 i2 i3 i4 i5 ⊢
      by_cases hc : impl_monthDays s.2 m ≤ d
      · have hs := restD_step s.2 m d i2 i3 i4 hc
        have hm := mdD_impl q2 hle i2 i3
        have hn := mb_succ (l := spec_l03Leap s.2) i2 hs.1
        simp only [hc, decide_true, cond_true]
        rw [wrap_id (by omega) (by omega), wrap_id (by omega) (by omega)]
        refine ⟨⟨by omega, by omega, by omega, hs.2.1, by omega⟩, by omega⟩
      · simp only [hc, decide_false, cond_false]
        exact ⟨_, rfl, i1, i2, i3, by show d < impl_monthDays s.2 m; omega, i5⟩) (s.1.toNat + 1) (s.1, 1) ⟨q1, by show (1 : Int) ≤ 1; omega, by show (1 : Int) ≤ 12; omega, by rw [restD_one]; exact q4, by show (mbD (spec_l03Leap s.2) 1 : Int) + s.1 = s.1; rw [mb_first]; simp⟩ (by show s.1.toNat < s.1.toNat + 1; omega)
  obtain ⟨r2, e2, t, rfl, p1, p2, p3, p4, p5⟩ := L2
  have hm := mdD_impl q2 hle p2 p3
  have hw : IntKind.wrap .i64 (t.1 + 1) = t.1 + 1 := by
    have := (mb_end (l := spec_l03Leap s.2) p2 p3)
    refine wrap_id (by omega) ?_
    cases hl : spec_l03Leap s.2 <;> simp only [hl, cond_true, cond_false] at * <;> omega
  refine ⟨s.2, t.2, t.1 + 1, ?_, hle, q2, p2, p3, by omega, by omega, by omega⟩
  unfold impl_dateOf
  rw [e1]
  simp only
  rw [e2]
  simp only [hw]
theorem spec_l03Date_is (a : Int) (h1 : 0 ≤ a) (h2 : a ≤ 99999) : ∃ y m d, spec_l03Date a = (y, m, d) ∧ DateIs a y m d := by
  have L1 := loopW_end (body := spec_l03Date_b1 a) (I := fun s => 0 ≤ s.1 ∧ 2000 ≤ s.2.1 ∧ 1 ≤ s.2.2 ∧ s.2.2 ≤ 12 ∧ ybD s.2.1 + mbD (spec_l03Leap s.2.1) s.2.2.toNat + s.1 = a)
    (Q := fun r => ∃ s : Int × Int × Int, r = .inr s ∧ 0 ≤ s.1 ∧ 2000 ≤ s.2.1 ∧ 1 ≤ s.2.2 ∧ s.2.2 ≤ 12 ∧ ybD s.2.1 + mbD (spec_l03Leap s.2.1) s.2.2.toNat + s.1 = a ∧ s.1 < spec_l03Days s.2.1 s.2.2) (M := fun s => s.1.toNat) (by
      rintro ⟨d, y, m⟩ ⟨i1, i2, i3, i4, i5⟩
      simp only [spec_l03Date_b1] at i1 i2 i3 i4 i5 ⊢
      have hle := year_le (y := y) (by omega)
      have hnn := yb_nonneg i2
      have hge := spec_l03Days_ge y m
      have hm := mdD_spec (y := y) i3 i4
      by_cases hc : spec_l03Days y m ≤ d
      · simp only [hc, decide_true, cond_true]
        rw [wrap_id (n := d - spec_l03Days y m) (by omega) (by omega), wrap_id (n := m + 1) (by omega) (by omega), wrap_id (n := y + 1) (by omega) (by omega)]
        by_cases h12 : 12 < m + 1
        · obtain rfl : m = 12 := by omega
          have hn := leap_yb y i2
          have hl := mb_last (spec_l03Leap y)
          simp only [h12, decide_true, cond_true]
          have e1 : mbD (spec_l03Leap (y + 1)) (1 : Int).toNat = 0 := mb_first _
          have e12 : (12 : Int).toNat = 12 := rfl
          rw [e12] at i5 hm
          refine ⟨⟨by omega, by omega, by omega, by omega, ?_⟩, by omega⟩
          rw [e1]
          cases hl2 : spec_l03Leap y <;> simp only [hl2, cond_true, cond_false] at * <;> omega
        · have hn := mb_succ (l := spec_l03Leap y) i3 (by omega)
          simp only [h12, decide_false, cond_false]
          refine ⟨⟨by omega, by omega, by omega, by omega, by omega⟩, by omega⟩
      · simp only [hc, decide_false, cond_false]
        exact ⟨_, rfl, i1, i2, i3, i4, i5, by show d < spec_l03Days y m; omega⟩) (a.toNat + 1) (a, 2000, 1) ⟨h1, by show (2000 : Int) ≤ 2000; omega, by show (1 : Int) ≤ 1; omega, by show (1 : Int) ≤ 12; omega, by
          show ybD 2000 + (mbD (spec_l03Leap 2000) 1 : Int) + a = a
          rw [mb_first]; simp [ybD]⟩ (by show a.toNat < a.toNat + 1; omega)
  obtain ⟨r, e1, s, rfl, q1, q2, q3, q4, q5, q6⟩ := L1
  have hnn := yb_nonneg q2
  have hge := spec_l03Days_ge s.2.1 s.2.2
  have hm := mdD_spec (y := s.2.1) q3 q4
  refine ⟨s.2.1, s.2.2, s.1 + 1, ?_, q2, q3, q4, by omega, by omega, by omega⟩
  unfold spec_l03Date
  rw [e1]
  simp only
  rw [wrap_id (by omega) (by omega)]
theorem date_eq (a : Int) (h1 : 0 ≤ a) (h2 : a ≤ 99999) : ∃ y m d, impl_dateOf a = (y, m, d) ∧ spec_l03Date a = (y, m, d) ∧ 2000 ≤ y ∧ y ≤ 2273 ∧ 1 ≤ m ∧ m ≤ 12 ∧ 1 ≤ d ∧ d ≤ 31 := by
  obtain ⟨y, m, d, e1, hy, hd⟩ := impl_dateOf_is a h1 h2
  obtain ⟨y', m', d', e2, hd'⟩ := spec_l03Date_is a h1 h2
  obtain ⟨rfl, rfl, rfl⟩ := hd.unique hd'
  have hm := mdD_spec (y := y) hd.2.1 hd.2.2.1
  have hge := spec_l03Days_ge y m
  exact ⟨y, m, d, e1, e2, hd.1, hy, hd.2.1, hd.2.2.1, hd.2.2.2.1, by have := hd.2.2.2.2.1; omega⟩
end Go.Ab

namespace Go.Ab
open Go Go.Proofs
theorem impl_dateOf_rng (a : Int) (h1 : 0 ≤ a) (h2 : a ≤ 99999) : 2000 ≤ (impl_dateOf a).1 ∧ (impl_dateOf a).1 ≤ 2273 ∧ 1 ≤ (impl_dateOf a).2.1 ∧ (impl_dateOf a).2.1 ≤ 12 ∧ 1 ≤ (impl_dateOf a).2.2 ∧ (impl_dateOf a).2.2 ≤ 31 := by
  obtain ⟨y, m, d, e, _, h⟩ := date_eq a h1 h2
  rw [e]; exact h
theorem spec_l03Date_rng (a : Int) (h1 : 0 ≤ a) (h2 : a ≤ 99999) : 2000 ≤ (spec_l03Date a).1 ∧ (spec_l03Date a).1 ≤ 2273 ∧ 1 ≤ (spec_l03Date a).2.1 ∧ (spec_l03Date a).2.1 ≤ 12 ∧ 1 ≤ (spec_l03Date a).2.2 ∧ (spec_l03Date a).2.2 ≤ 31 := by
  obtain ⟨y, m, d, _, e, h⟩ := date_eq a h1 h2
  rw [e]; exact h
end Go.Ab

namespace Go.Ab
open Go Go.Proofs
theorem impl_padded_len (a : Int) (h1 : 0 ≤ a) (h2 : a ≤ 1000) : (impl_padded a 2).length ≤ 2000 := by
  have hl := impl_Decimal_len a
  unfold impl_padded
  rw [List.length_append, strings_Repeat_len, IntKind.wrap_i64]
  simp only [List.length_cons, List.length_nil, Nat.zero_add, Nat.one_mul]
  split <;> omega
end Go.Ab

namespace Go.Ab
open Go Go.Proofs
theorem impl_DateText_DD : DOk Tryd.prog (DD [(15, dP D_impl_Decimal), (26, dP D_impl_isDay), (32, dP D_impl_dateOf), (33, dP D_impl_padded)]) := DD_cons D_impl_Decimal_ok.e <| DD_cons D_impl_isDay_ok.e <| DD_cons D_impl_dateOf_ok.e <| DD_cons D_impl_padded_ok.e <| DD_nil _
def impl_DateText (a0 : Int) : (List UInt8) :=
  (bif (!(impl_isDay a0)) then [] else ((((impl_Decimal ((impl_dateOf a0).1)) ++ [45]) ++ (impl_padded ((impl_dateOf a0).2.1) 2)) ++ [45]) ++ (impl_padded ((impl_dateOf a0).2.2) 2))
theorem impl_DateText_den (a0 : Int)  : Den Tryd.prog 19 [.int .i64 a0] (.str (impl_DateText a0)) := by
  generalize hR : impl_DateText a0 = r
  unfold impl_DateText at hR
  refine den_intro G_ok Tryd.func19 (by kernel_rfl) rfl Tryd.ntmps19 (by rw [Tryd.results19]) (by simp) rfl ?_
  intro c hL hc hk
  clear hL
  simp only [pars, Nat.zero_add]
  refine AWP.seq ?_
  refine AWP.regS G_ok impl_DateText_DD hc (by kernel_rfl) (fun K hK => ?_); simp only [ea, gv, sv, D_impl_Decimal, D_impl_isDay, D_impl_dateOf, D_impl_padded, reduceCtorEq, reduceIte, Nat.reduceBEq, Nat.reduceAdd, Nat.reduceEqDiff, Nat.reduceLT, Nat.reduceLeDiff, Nat.reduceMul, Nat.reduceSub, BEq.rfl, beq_self_eq_true, Int.reduceToNat]
  (refine hK _ ?_)
  clear hK K
  refine AWP.seq ?_
  refine AWP.seq ?_
  refine AWP.regS G_ok impl_DateText_DD hc (by kernel_rfl) (fun K hK => ?_); simp only [ea, gv, sv, D_impl_Decimal, D_impl_isDay, D_impl_dateOf, D_impl_padded, reduceCtorEq, reduceIte, Nat.reduceBEq, Nat.reduceAdd, Nat.reduceEqDiff, Nat.reduceLT, Nat.reduceLeDiff, Nat.reduceMul, Nat.reduceSub, BEq.rfl, beq_self_eq_true, Int.reduceToNat]
  (refine hK _ ?_)
  clear hK K
  refine AWP.cond rfl (fun hb => ?_) (fun hb => ?_)
  · (simp only [hb, cond_true] at hR)
    refine AWP.seq ?_
    refine AWP.regS G_ok impl_DateText_DD hc (by kernel_rfl) (fun K hK => ?_); simp only [ea, gv, sv, D_impl_Decimal, D_impl_isDay, D_impl_dateOf, D_impl_padded, reduceCtorEq, reduceIte, Nat.reduceBEq, Nat.reduceAdd, Nat.reduceEqDiff, Nat.reduceLT, Nat.reduceLeDiff, Nat.reduceMul, Nat.reduceSub, BEq.rfl, beq_self_eq_true, Int.reduceToNat]
    (refine hK _ ?_)
    clear hK K
    refine AWP.ret ?_
    subst hR
    (simp only [en, si, ea, gv, sv, hk, reduceCtorEq, reduceIte, Nat.reduceBEq, Nat.reduceAdd, Nat.reduceEqDiff, Nat.reduceLT, Nat.reduceLeDiff, Nat.reduceMul, Nat.reduceSub, BEq.rfl, beq_self_eq_true, Int.reduceToNat]; done)
  · (simp only [hb, cond_false] at hR)
    refine AWP.skip ?_
    refine AWP.seq ?_
    refine AWP.regS G_ok impl_DateText_DD hc (by kernel_rfl) (fun K hK => ?_); simp only [ea, gv, sv, D_impl_Decimal, D_impl_isDay, D_impl_dateOf, D_impl_padded, reduceCtorEq, reduceIte, Nat.reduceBEq, Nat.reduceAdd, Nat.reduceEqDiff, Nat.reduceLT, Nat.reduceLeDiff, Nat.reduceMul, Nat.reduceSub, BEq.rfl, beq_self_eq_true, Int.reduceToNat]
    (refine ⟨by ((have hb9 : 0 ≤ a0 ∧ a0 ≤ 99999 := (by have hb8 := hb; simp [impl_isDay, impl_within] at hb8; omega); have hr := impl_dateOf_rng a0 hb9.1 hb9.2; have l1 := impl_Decimal_len (impl_dateOf a0).1; have l2 := impl_padded_len (impl_dateOf a0).2.1 (by omega) (by omega); have l3 := impl_padded_len (impl_dateOf a0).2.2 (by omega) (by omega); (try simp only [List.length_append, List.length_cons, List.length_nil]); omega)), hK _ ?_⟩)
    clear hK K
    refine AWP.seq ?_
    refine AWP.regS G_ok impl_DateText_DD hc (by kernel_rfl) (fun K hK => ?_); simp only [ea, gv, sv, D_impl_Decimal, D_impl_isDay, D_impl_dateOf, D_impl_padded, reduceCtorEq, reduceIte, Nat.reduceBEq, Nat.reduceAdd, Nat.reduceEqDiff, Nat.reduceLT, Nat.reduceLeDiff, Nat.reduceMul, Nat.reduceSub, BEq.rfl, beq_self_eq_true, Int.reduceToNat]
    (refine ⟨by ((have hb9 : 0 ≤ a0 ∧ a0 ≤ 99999 := (by have hb8 := hb; simp [impl_isDay, impl_within] at hb8; omega); have hr := impl_dateOf_rng a0 hb9.1 hb9.2; have l1 := impl_Decimal_len (impl_dateOf a0).1; have l2 := impl_padded_len (impl_dateOf a0).2.1 (by omega) (by omega); have l3 := impl_padded_len (impl_dateOf a0).2.2 (by omega) (by omega); (try simp only [List.length_append, List.length_cons, List.length_nil]); omega)), hK _ ?_⟩)
    clear hK K
    refine AWP.ret ?_
    subst hR
    (simp only [en, si, ea, gv, sv, hk, reduceCtorEq, reduceIte, Nat.reduceBEq, Nat.reduceAdd, Nat.reduceEqDiff, Nat.reduceLT, Nat.reduceLeDiff, Nat.reduceMul, Nat.reduceSub, BEq.rfl, beq_self_eq_true, Int.reduceToNat]; done)
def D_impl_DateText : DF
  | [x0] => some (.str (impl_DateText (rdI x0)), false, [wI .i64 x0])
  | _ => none
theorem D_impl_DateText_ok : OkD Tryd.prog 19 D_impl_DateText := by
  intro xs r z ob h ho
  unfold D_impl_DateText at h
  split at h
  · simp only [Option.some.injEq, Prod.mk.injEq] at h
    obtain ⟨rfl, rfl, rfl⟩ := h
    obtain ⟨h0, _⟩ := ho
    exact Den.sim (impl_DateText_den _ ) (simOL_cons (wI_sim h0).1 <| trivial) (noIdL_cons (wI_sim h0).2 <| rfl) rfl
  · cases h
end Go.Ab

namespace Go.Ab
open Go Go.Proofs
theorem impl_DateText_len (a : Int) : (impl_DateText a).length ≤ 10000 := by
  unfold impl_DateText impl_isDay impl_within
  by_cases h : 0 ≤ a ∧ a ≤ 99999
  · have hr := impl_dateOf_rng a h.1 h.2
    have l1 := impl_Decimal_len (impl_dateOf a).1
    have l2 := impl_padded_len (impl_dateOf a).2.1 (by omega) (by omega)
    have l3 := impl_padded_len (impl_dateOf a).2.2 (by omega) (by omega)
    simp only [h.1, h.2, decide_true, Bool.and_self, Bool.not_true, cond_false, List.length_append, List.length_cons, List.length_nil]
    omega
  · have : (decide (0 ≤ a) && decide (a ≤ 99999)) = false := by simpa using h
    simp [this]
end Go.Ab

namespace Go.Ab
open Go Go.Proofs
theorem impl_isEntry_rng (e : Entry) (h : impl_isEntry e = true) : 0 ≤ e.Day ∧ e.Day ≤ 99999 ∧ -1000 ≤ e.Amount ∧ e.Amount ≤ 1000 := by
  simp only [impl_isEntry, impl_isDay, impl_within, Bool.and_eq_true, decide_eq_true_eq] at h
  omega
end Go.Ab

namespace Go.Ab
open Go Go.Proofs
theorem impl_EntryText_DD : DOk Tryd.prog (DD [(15, dP D_impl_Decimal), (18, dP D_impl_isEntry), (19, dP D_impl_DateText)]) := DD_cons D_impl_Decimal_ok.e <| DD_cons D_impl_isEntry_ok.e <| DD_cons D_impl_DateText_ok.e <| DD_nil _
def impl_EntryText (a0 : Entry) : (List UInt8) :=
  (bif (!(impl_isEntry a0)) then [] else ((((impl_DateText a0.Day) ++ [32]) ++ a0.Item) ++ [32]) ++ (impl_Decimal a0.Amount))
theorem impl_EntryText_den (a0 : Entry) (hb0 : bdEntry a0) : Den Tryd.prog 11 [.agg (eEntry a0)] (.str (impl_EntryText a0)) := by
  generalize hR : impl_EntryText a0 = r
  unfold impl_EntryText at hR
  refine den_intro G_ok Tryd.func11 (by kernel_rfl) rfl Tryd.ntmps11 (by rw [Tryd.results11]) (by simp) rfl ?_
  intro c hL hc hk
  obtain ⟨hL0, _⟩ := hL
  have hw0 : bwEntry a0 := Entry_lens a0 hL0
  clear hL0
  simp only [pars, Nat.zero_add]
  refine AWP.seq ?_
  refine AWP.regS G_ok impl_EntryText_DD hc (by kernel_rfl) (fun K hK => ?_); simp only [ea, gv, sv, D_impl_Decimal, D_impl_isEntry, D_impl_DateText, reduceCtorEq, reduceIte, Nat.reduceBEq, Nat.reduceAdd, Nat.reduceEqDiff, Nat.reduceLT, Nat.reduceLeDiff, Nat.reduceMul, Nat.reduceSub, BEq.rfl, beq_self_eq_true, Int.reduceToNat]
  (refine hK _ ?_)
  clear hK K
  refine AWP.seq ?_
  refine AWP.seq ?_
  refine AWP.regS G_ok impl_EntryText_DD hc (by kernel_rfl) (fun K hK => ?_); simp only [ea, gv, sv, D_impl_Decimal, D_impl_isEntry, D_impl_DateText, reduceCtorEq, reduceIte, Nat.reduceBEq, Nat.reduceAdd, Nat.reduceEqDiff, Nat.reduceLT, Nat.reduceLeDiff, Nat.reduceMul, Nat.reduceSub, BEq.rfl, beq_self_eq_true, Int.reduceToNat]
  (refine hK _ ?_)
  clear hK K
  refine AWP.cond rfl (fun hb => ?_) (fun hb => ?_)
  · (simp only [hb, cond_true] at hR)
    refine AWP.seq ?_
    refine AWP.regS G_ok impl_EntryText_DD hc (by kernel_rfl) (fun K hK => ?_); simp only [ea, gv, sv, D_impl_Decimal, D_impl_isEntry, D_impl_DateText, reduceCtorEq, reduceIte, Nat.reduceBEq, Nat.reduceAdd, Nat.reduceEqDiff, Nat.reduceLT, Nat.reduceLeDiff, Nat.reduceMul, Nat.reduceSub, BEq.rfl, beq_self_eq_true, Int.reduceToNat]
    (refine hK _ ?_)
    clear hK K
    refine AWP.ret ?_
    subst hR
    (simp only [en, si, ea, gv, sv, hk, reduceCtorEq, reduceIte, Nat.reduceBEq, Nat.reduceAdd, Nat.reduceEqDiff, Nat.reduceLT, Nat.reduceLeDiff, Nat.reduceMul, Nat.reduceSub, BEq.rfl, beq_self_eq_true, Int.reduceToNat]; done)
  · (simp only [hb, cond_false] at hR)
    refine AWP.skip ?_
    refine AWP.seq ?_
    refine AWP.regD mixed G_ok impl_EntryText_DD hc 11 (by kernel_rfl) (by kernel_rfl) (fun K hK => ?_); simp only [ea, gv, sv, D_impl_Decimal, D_impl_isEntry, D_impl_DateText, reduceCtorEq, reduceIte, Nat.reduceBEq, Nat.reduceAdd, Nat.reduceEqDiff, Nat.reduceLT, Nat.reduceLeDiff, Nat.reduceMul, Nat.reduceSub, BEq.rfl, beq_self_eq_true, Int.reduceToNat]
    (refine ⟨by ((have hb7 : a0.Item.length < 1099511627776 := (by have hb6 := hb0; simp only [bdv] at hb6; omega); have h9 := impl_isEntry_rng a0 (by simpa using hb); have l1 := impl_DateText_len a0.Day; have l2 := impl_Decimal_len a0.Amount; (try simp only [List.length_append, List.length_cons, List.length_nil]); omega)), hK _ ?_⟩)
    clear hK K
    refine AWP.ret ?_
    subst hR
    (simp only [en, si, ea, gv, sv, hk, reduceCtorEq, reduceIte, Nat.reduceBEq, Nat.reduceAdd, Nat.reduceEqDiff, Nat.reduceLT, Nat.reduceLeDiff, Nat.reduceMul, Nat.reduceSub, BEq.rfl, beq_self_eq_true, Int.reduceToNat]; done)
def D_impl_EntryText : DF
  | [x0] => some (.str (impl_EntryText (rdG dEntry x0)), false, [wG eEntry dEntry x0, bdEntry (rdG dEntry x0)])
  | _ => none
theorem D_impl_EntryText_ok : OkD Tryd.prog 11 D_impl_EntryText := by
  intro xs r z ob h ho
  unfold D_impl_EntryText at h
  split at h
  · simp only [Option.some.injEq, Prod.mk.injEq] at h
    obtain ⟨rfl, rfl, rfl⟩ := h
    obtain ⟨h0, hb0, _⟩ := ho
    exact Den.sim (impl_EntryText_den _ hb0) (simOL_cons (wG_sim h0).1 <| trivial) (noIdL_cons (wG_sim h0).2 <| rfl) rfl
  · cases h
end Go.Ab

namespace Go.Ab
open Go Go.Proofs
theorem laws_szEntry_DD : DOk Tryd.prog (DD []) := DD_nil _
def laws_szEntry (a0 : Entry) (a1 : Int) : Int :=
  (bif decide ((IntKind.wrap .i64 (a1 - (a0.Item.length : Int))) < 0) then (-1) else IntKind.wrap .i64 (a1 - (a0.Item.length : Int)))
theorem laws_szEntry_den (a0 : Entry) (a1 : Int) (hp0 : -1 ≤ a1) (hp1 : a1 ≤ 1048576) : Den Tryd.prog 8 [.agg (eEntry a0), .int .i64 a1] (.int .i64 (laws_szEntry a0 a1)) := by
  generalize hR : laws_szEntry a0 a1 = r
  unfold laws_szEntry at hR
  refine den_intro G_ok Tryd.func8 (by kernel_rfl) rfl Tryd.ntmps8 (by rw [Tryd.results8]) (by simp) rfl ?_
  intro c hL hc hk
  obtain ⟨hL0, hL1, _⟩ := hL
  have hw0 : bwEntry a0 := Entry_lens a0 hL0
  clear hL0 hL1
  simp only [pars, Nat.zero_add]
  refine AWP.seq ?_
  refine AWP.regS G_ok laws_szEntry_DD hc (by kernel_rfl) (fun K hK => ?_); simp only [ea, gv, sv, reduceCtorEq, reduceIte, Nat.reduceBEq, Nat.reduceAdd, Nat.reduceEqDiff, Nat.reduceLT, Nat.reduceLeDiff, Nat.reduceMul, Nat.reduceSub, BEq.rfl, beq_self_eq_true, Int.reduceToNat]
  (refine hK _ ?_)
  clear hK K
  refine AWP.seq ?_
  refine AWP.regS G_ok laws_szEntry_DD hc (by kernel_rfl) (fun K hK => ?_); simp only [ea, gv, sv, reduceCtorEq, reduceIte, Nat.reduceBEq, Nat.reduceAdd, Nat.reduceEqDiff, Nat.reduceLT, Nat.reduceLeDiff, Nat.reduceMul, Nat.reduceSub, BEq.rfl, beq_self_eq_true, Int.reduceToNat]
  (refine hK _ ?_)
  clear hK K
  refine AWP.seq ?_
  refine AWP.seq ?_
  refine AWP.regS G_ok laws_szEntry_DD hc (by kernel_rfl) (fun K hK => ?_); simp only [ea, gv, sv, reduceCtorEq, reduceIte, Nat.reduceBEq, Nat.reduceAdd, Nat.reduceEqDiff, Nat.reduceLT, Nat.reduceLeDiff, Nat.reduceMul, Nat.reduceSub, BEq.rfl, beq_self_eq_true, Int.reduceToNat]
  (refine hK _ ?_)
  clear hK K
  refine AWP.cond rfl (fun hb => ?_) (fun hb => ?_)
  · (simp only [hb, cond_true] at hR)
    refine AWP.seq ?_
    refine AWP.regS G_ok laws_szEntry_DD hc (by kernel_rfl) (fun K hK => ?_); simp only [ea, gv, sv, reduceCtorEq, reduceIte, Nat.reduceBEq, Nat.reduceAdd, Nat.reduceEqDiff, Nat.reduceLT, Nat.reduceLeDiff, Nat.reduceMul, Nat.reduceSub, BEq.rfl, beq_self_eq_true, Int.reduceToNat]
    (refine hK _ ?_)
    clear hK K
    refine AWP.ret ?_
    subst hR
    (simp only [en, si, ea, gv, sv, hk, reduceCtorEq, reduceIte, Nat.reduceBEq, Nat.reduceAdd, Nat.reduceEqDiff, Nat.reduceLT, Nat.reduceLeDiff, Nat.reduceMul, Nat.reduceSub, BEq.rfl, beq_self_eq_true, Int.reduceToNat]; done)
  · (simp only [hb, cond_false] at hR)
    refine AWP.skip ?_
    refine AWP.seq ?_
    refine AWP.regS G_ok laws_szEntry_DD hc (by kernel_rfl) (fun K hK => ?_); simp only [ea, gv, sv, reduceCtorEq, reduceIte, Nat.reduceBEq, Nat.reduceAdd, Nat.reduceEqDiff, Nat.reduceLT, Nat.reduceLeDiff, Nat.reduceMul, Nat.reduceSub, BEq.rfl, beq_self_eq_true, Int.reduceToNat]
    (refine hK _ ?_)
    clear hK K
    refine AWP.ret ?_
    subst hR
    (simp only [en, si, ea, gv, sv, hk, reduceCtorEq, reduceIte, Nat.reduceBEq, Nat.reduceAdd, Nat.reduceEqDiff, Nat.reduceLT, Nat.reduceLeDiff, Nat.reduceMul, Nat.reduceSub, BEq.rfl, beq_self_eq_true, Int.reduceToNat]; done)
def D_laws_szEntry : DF
  | [x0, x1] => some (.int .i64 (laws_szEntry (rdG dEntry x0) (rdI x1)), false, [wG eEntry dEntry x0, wI .i64 x1, -1 ≤ (rdI x1), (rdI x1) ≤ 1048576])
  | _ => none
theorem D_laws_szEntry_ok : OkD Tryd.prog 8 D_laws_szEntry := by
  intro xs r z ob h ho
  unfold D_laws_szEntry at h
  split at h
  · simp only [Option.some.injEq, Prod.mk.injEq] at h
    obtain ⟨rfl, rfl, rfl⟩ := h
    obtain ⟨h0, h1, hp0, hp1, _⟩ := ho
    exact Den.sim (laws_szEntry_den _ _ hp0 hp1) (simOL_cons (wG_sim h0).1 <| simOL_cons (wI_sim h1).1 <| trivial) (noIdL_cons (wG_sim h0).2 <| noIdL_cons (wI_sim h1).2 <| rfl) rfl
  · cases h
end Go.Ab

namespace Go.Ab
open Go Go.Proofs
theorem spec_l00In_DD : DOk Tryd.prog (DD []) := DD_nil _
def spec_l00In (a0 : Int) (a1 : Int) (a2 : Int) : Bool :=
  (decide (a1 ≤ a0) && decide (a0 ≤ a2))
theorem spec_l00In_den (a0 : Int) (a1 : Int) (a2 : Int)  : Den Tryd.prog 21 [.int .i64 a0, .int .i64 a1, .int .i64 a2] (.bool (spec_l00In a0 a1 a2)) := by
  generalize hR : spec_l00In a0 a1 a2 = r
  unfold spec_l00In at hR
  refine den_intro G_ok Tryd.func21 (by kernel_rfl) rfl Tryd.ntmps21 (by rw [Tryd.results21]) (by simp) rfl ?_
  intro c hL hc hk
  clear hL
  simp only [pars, Nat.zero_add]
  refine AWP.seq ?_
  refine AWP.regS G_ok spec_l00In_DD hc (by kernel_rfl) (fun K hK => ?_); simp only [ea, gv, sv, reduceCtorEq, reduceIte, Nat.reduceBEq, Nat.reduceAdd, Nat.reduceEqDiff, Nat.reduceLT, Nat.reduceLeDiff, Nat.reduceMul, Nat.reduceSub, BEq.rfl, beq_self_eq_true, Int.reduceToNat]
  (refine hK _ ?_)
  clear hK K
  refine AWP.seq ?_
  refine AWP.regS G_ok spec_l00In_DD hc (by kernel_rfl) (fun K hK => ?_); simp only [ea, gv, sv, reduceCtorEq, reduceIte, Nat.reduceBEq, Nat.reduceAdd, Nat.reduceEqDiff, Nat.reduceLT, Nat.reduceLeDiff, Nat.reduceMul, Nat.reduceSub, BEq.rfl, beq_self_eq_true, Int.reduceToNat]
  (refine hK _ ?_)
  clear hK K
  refine AWP.ret ?_
  subst hR
  (simp only [en, si, ea, gv, sv, hk, reduceCtorEq, reduceIte, Nat.reduceBEq, Nat.reduceAdd, Nat.reduceEqDiff, Nat.reduceLT, Nat.reduceLeDiff, Nat.reduceMul, Nat.reduceSub, BEq.rfl, beq_self_eq_true, Int.reduceToNat]; done)
def D_spec_l00In : DF
  | [x0, x1, x2] => some (.bool (spec_l00In (rdI x0) (rdI x1) (rdI x2)), false, [wI .i64 x0, wI .i64 x1, wI .i64 x2])
  | _ => none
theorem D_spec_l00In_ok : OkD Tryd.prog 21 D_spec_l00In := by
  intro xs r z ob h ho
  unfold D_spec_l00In at h
  split at h
  · simp only [Option.some.injEq, Prod.mk.injEq] at h
    obtain ⟨rfl, rfl, rfl⟩ := h
    obtain ⟨h0, h1, h2, _⟩ := ho
    exact Den.sim (spec_l00In_den _ _ _ ) (simOL_cons (wI_sim h0).1 <| simOL_cons (wI_sim h1).1 <| simOL_cons (wI_sim h2).1 <| trivial) (noIdL_cons (wI_sim h0).2 <| noIdL_cons (wI_sim h1).2 <| noIdL_cons (wI_sim h2).2 <| rfl) rfl
  · cases h
end Go.Ab

namespace Go.Ab
open Go Go.Proofs
theorem spec_l03Day_DD : DOk Tryd.prog (DD [(21, dP D_spec_l00In)]) := DD_cons D_spec_l00In_ok.e <| DD_nil _
def spec_l03Day (a0 : Int) : Bool :=
  (spec_l00In a0 0 99999)
theorem spec_l03Day_den (a0 : Int)  : Den Tryd.prog 28 [.int .i64 a0] (.bool (spec_l03Day a0)) := by
  generalize hR : spec_l03Day a0 = r
  unfold spec_l03Day at hR
  refine den_intro G_ok Tryd.func28 (by kernel_rfl) rfl Tryd.ntmps28 (by rw [Tryd.results28]) (by simp) rfl ?_
  intro c hL hc hk
  clear hL
  simp only [pars, Nat.zero_add]
  refine AWP.seq ?_
  refine AWP.regS G_ok spec_l03Day_DD hc (by kernel_rfl) (fun K hK => ?_); simp only [ea, gv, sv, D_spec_l00In, reduceCtorEq, reduceIte, Nat.reduceBEq, Nat.reduceAdd, Nat.reduceEqDiff, Nat.reduceLT, Nat.reduceLeDiff, Nat.reduceMul, Nat.reduceSub, BEq.rfl, beq_self_eq_true, Int.reduceToNat]
  (refine hK _ ?_)
  clear hK K
  refine AWP.seq ?_
  refine AWP.regS G_ok spec_l03Day_DD hc (by kernel_rfl) (fun K hK => ?_); simp only [ea, gv, sv, D_spec_l00In, reduceCtorEq, reduceIte, Nat.reduceBEq, Nat.reduceAdd, Nat.reduceEqDiff, Nat.reduceLT, Nat.reduceLeDiff, Nat.reduceMul, Nat.reduceSub, BEq.rfl, beq_self_eq_true, Int.reduceToNat]
  (refine hK _ ?_)
  clear hK K
  refine AWP.ret ?_
  subst hR
  (simp only [en, si, ea, gv, sv, hk, reduceCtorEq, reduceIte, Nat.reduceBEq, Nat.reduceAdd, Nat.reduceEqDiff, Nat.reduceLT, Nat.reduceLeDiff, Nat.reduceMul, Nat.reduceSub, BEq.rfl, beq_self_eq_true, Int.reduceToNat]; done)
def D_spec_l03Day : DF
  | [x0] => some (.bool (spec_l03Day (rdI x0)), false, [wI .i64 x0])
  | _ => none
theorem D_spec_l03Day_ok : OkD Tryd.prog 28 D_spec_l03Day := by
  intro xs r z ob h ho
  unfold D_spec_l03Day at h
  split at h
  · simp only [Option.some.injEq, Prod.mk.injEq] at h
    obtain ⟨rfl, rfl, rfl⟩ := h
    obtain ⟨h0, _⟩ := ho
    exact Den.sim (spec_l03Day_den _ ) (simOL_cons (wI_sim h0).1 <| trivial) (noIdL_cons (wI_sim h0).2 <| rfl) rfl
  · cases h
end Go.Ab

namespace Go.Ab
open Go Go.Proofs
theorem spec_l01Small_DD : DOk Tryd.prog (DD []) := DD_nil _
def spec_l01Small (a0 : Int) : Bool :=
  (decide (97 ≤ a0) && decide (a0 ≤ 122))
theorem spec_l01Small_den (a0 : Int)  : Den Tryd.prog 35 [.int .u8 a0] (.bool (spec_l01Small a0)) := by
  generalize hR : spec_l01Small a0 = r
  unfold spec_l01Small at hR
  refine den_intro G_ok Tryd.func35 (by kernel_rfl) rfl Tryd.ntmps35 (by rw [Tryd.results35]) (by simp) rfl ?_
  intro c hL hc hk
  clear hL
  simp only [pars, Nat.zero_add]
  refine AWP.seq ?_
  refine AWP.regS G_ok spec_l01Small_DD hc (by kernel_rfl) (fun K hK => ?_); simp only [ea, gv, sv, reduceCtorEq, reduceIte, Nat.reduceBEq, Nat.reduceAdd, Nat.reduceEqDiff, Nat.reduceLT, Nat.reduceLeDiff, Nat.reduceMul, Nat.reduceSub, BEq.rfl, beq_self_eq_true, Int.reduceToNat]
  (refine hK _ ?_)
  clear hK K
  refine AWP.seq ?_
  refine AWP.regS G_ok spec_l01Small_DD hc (by kernel_rfl) (fun K hK => ?_); simp only [ea, gv, sv, reduceCtorEq, reduceIte, Nat.reduceBEq, Nat.reduceAdd, Nat.reduceEqDiff, Nat.reduceLT, Nat.reduceLeDiff, Nat.reduceMul, Nat.reduceSub, BEq.rfl, beq_self_eq_true, Int.reduceToNat]
  (refine hK _ ?_)
  clear hK K
  refine AWP.ret ?_
  subst hR
  (simp only [en, si, ea, gv, sv, hk, reduceCtorEq, reduceIte, Nat.reduceBEq, Nat.reduceAdd, Nat.reduceEqDiff, Nat.reduceLT, Nat.reduceLeDiff, Nat.reduceMul, Nat.reduceSub, BEq.rfl, beq_self_eq_true, Int.reduceToNat]; done)
def D_spec_l01Small : DF
  | [x0] => some (.bool (spec_l01Small (rdI x0)), false, [wI .u8 x0])
  | _ => none
theorem D_spec_l01Small_ok : OkD Tryd.prog 35 D_spec_l01Small := by
  intro xs r z ob h ho
  unfold D_spec_l01Small at h
  split at h
  · simp only [Option.some.injEq, Prod.mk.injEq] at h
    obtain ⟨rfl, rfl, rfl⟩ := h
    obtain ⟨h0, _⟩ := ho
    exact Den.sim (spec_l01Small_den _ ) (simOL_cons (wI_sim h0).1 <| trivial) (noIdL_cons (wI_sim h0).2 <| rfl) rfl
  · cases h
end Go.Ab

namespace Go.Ab
open Go Go.Proofs
theorem spec_l01Digit_DD : DOk Tryd.prog (DD []) := DD_nil _
def spec_l01Digit (a0 : Int) : Bool :=
  (decide (48 ≤ a0) && decide (a0 ≤ 57))
theorem spec_l01Digit_den (a0 : Int)  : Den Tryd.prog 36 [.int .u8 a0] (.bool (spec_l01Digit a0)) := by
  generalize hR : spec_l01Digit a0 = r
  unfold spec_l01Digit at hR
  refine den_intro G_ok Tryd.func36 (by kernel_rfl) rfl Tryd.ntmps36 (by rw [Tryd.results36]) (by simp) rfl ?_
  intro c hL hc hk
  clear hL
  simp only [pars, Nat.zero_add]
  refine AWP.seq ?_
  refine AWP.regS G_ok spec_l01Digit_DD hc (by kernel_rfl) (fun K hK => ?_); simp only [ea, gv, sv, reduceCtorEq, reduceIte, Nat.reduceBEq, Nat.reduceAdd, Nat.reduceEqDiff, Nat.reduceLT, Nat.reduceLeDiff, Nat.reduceMul, Nat.reduceSub, BEq.rfl, beq_self_eq_true, Int.reduceToNat]
  (refine hK _ ?_)
  clear hK K
  refine AWP.seq ?_
  refine AWP.regS G_ok spec_l01Digit_DD hc (by kernel_rfl) (fun K hK => ?_); simp only [ea, gv, sv, reduceCtorEq, reduceIte, Nat.reduceBEq, Nat.reduceAdd, Nat.reduceEqDiff, Nat.reduceLT, Nat.reduceLeDiff, Nat.reduceMul, Nat.reduceSub, BEq.rfl, beq_self_eq_true, Int.reduceToNat]
  (refine hK _ ?_)
  clear hK K
  refine AWP.ret ?_
  subst hR
  (simp only [en, si, ea, gv, sv, hk, reduceCtorEq, reduceIte, Nat.reduceBEq, Nat.reduceAdd, Nat.reduceEqDiff, Nat.reduceLT, Nat.reduceLeDiff, Nat.reduceMul, Nat.reduceSub, BEq.rfl, beq_self_eq_true, Int.reduceToNat]; done)
def D_spec_l01Digit : DF
  | [x0] => some (.bool (spec_l01Digit (rdI x0)), false, [wI .u8 x0])
  | _ => none
theorem D_spec_l01Digit_ok : OkD Tryd.prog 36 D_spec_l01Digit := by
  intro xs r z ob h ho
  unfold D_spec_l01Digit at h
  split at h
  · simp only [Option.some.injEq, Prod.mk.injEq] at h
    obtain ⟨rfl, rfl, rfl⟩ := h
    obtain ⟨h0, _⟩ := ho
    exact Den.sim (spec_l01Digit_den _ ) (simOL_cons (wI_sim h0).1 <| trivial) (noIdL_cons (wI_sim h0).2 <| rfl) rfl
  · cases h
end Go.Ab

namespace Go.Ab
open Go Go.Proofs
theorem spec_l01Name_DD : DOk Tryd.prog (DD [(35, dP D_spec_l01Small), (36, dP D_spec_l01Digit)]) := DD_cons D_spec_l01Small_ok.e <| DD_cons D_spec_l01Digit_ok.e <| DD_nil _
def spec_l01Name_b1 (a0 : (List UInt8)) (i1 : Nat) (s1 : Unit) : Except (Bool) (Unit) :=
  (bif ((!(spec_l01Small ((a0.getD i1 0).toNat : Int))) && (!(spec_l01Digit ((a0.getD i1 0).toNat : Int)))) then .error false else .ok ())
def spec_l01Name (a0 : (List UInt8)) : Bool :=
  (bif (((a0 == []) || decide (10 < (a0.length : Int))) || (!(spec_l01Small ((a0.getD 0 0).toNat : Int)))) then false else (match loopR (spec_l01Name_b1 a0) (a0.length - 0) 0 () with | .error e => e | .ok s1 => true))
theorem spec_l01Name_den (a0 : (List UInt8))  : Den Tryd.prog 29 [.str a0] (.bool (spec_l01Name a0)) := by
  generalize hR : spec_l01Name a0 = r
  unfold spec_l01Name at hR
  refine den_intro G_ok Tryd.func29 (by kernel_rfl) rfl Tryd.ntmps29 (by rw [Tryd.results29]) (by simp) rfl ?_
  intro c hL hc hk
  obtain ⟨hL0, _⟩ := hL
  have hw0 : a0.length < 9223372036854775808 := Nat.lt_succ_of_le hL0
  clear hL0
  simp only [pars, Nat.zero_add]
  refine AWP.seq ?_
  refine AWP.regS G_ok spec_l01Name_DD hc (by kernel_rfl) (fun K hK => ?_); simp only [ea, gv, sv, D_spec_l01Small, D_spec_l01Digit, reduceCtorEq, reduceIte, Nat.reduceBEq, Nat.reduceAdd, Nat.reduceEqDiff, Nat.reduceLT, Nat.reduceLeDiff, Nat.reduceMul, Nat.reduceSub, BEq.rfl, beq_self_eq_true, Int.reduceToNat]
  (refine hK _ ?_)
  clear hK K
  refine AWP.seq ?_
  refine AWP.seq ?_
  refine AWP.regS G_ok spec_l01Name_DD hc (by kernel_rfl) (fun K hK => ?_); simp only [ea, gv, sv, D_spec_l01Small, D_spec_l01Digit, reduceCtorEq, reduceIte, Nat.reduceBEq, Nat.reduceAdd, Nat.reduceEqDiff, Nat.reduceLT, Nat.reduceLeDiff, Nat.reduceMul, Nat.reduceSub, BEq.rfl, beq_self_eq_true, Int.reduceToNat]
  (refine ⟨by ((simp only [ob, ln, bdv, sv] at *; omega)), hK _ ?_⟩)
  clear hK K
  refine AWP.cond rfl (fun hb => ?_) (fun hb => ?_)
  · (simp only [hb, cond_true] at hR)
    refine AWP.seq ?_
    refine AWP.regS G_ok spec_l01Name_DD hc (by kernel_rfl) (fun K hK => ?_); simp only [ea, gv, sv, D_spec_l01Small, D_spec_l01Digit, reduceCtorEq, reduceIte, Nat.reduceBEq, Nat.reduceAdd, Nat.reduceEqDiff, Nat.reduceLT, Nat.reduceLeDiff, Nat.reduceMul, Nat.reduceSub, BEq.rfl, beq_self_eq_true, Int.reduceToNat]
    (refine hK _ ?_)
    clear hK K
    refine AWP.ret ?_
    subst hR
    (simp only [en, si, ea, gv, sv, hk, reduceCtorEq, reduceIte, Nat.reduceBEq, Nat.reduceAdd, Nat.reduceEqDiff, Nat.reduceLT, Nat.reduceLeDiff, Nat.reduceMul, Nat.reduceSub, BEq.rfl, beq_self_eq_true, Int.reduceToNat]; done)
  · (simp only [hb, cond_false] at hR)
    refine AWP.skip ?_
    refine AWP.seq ?_
    refine AWP.seq ?_
    refine AWP.regS G_ok spec_l01Name_DD hc (by kernel_rfl) (fun K hK => ?_); simp only [ea, gv, sv, D_spec_l01Small, D_spec_l01Digit, reduceCtorEq, reduceIte, Nat.reduceBEq, Nat.reduceAdd, Nat.reduceEqDiff, Nat.reduceLT, Nat.reduceLeDiff, Nat.reduceMul, Nat.reduceSub, BEq.rfl, beq_self_eq_true, Int.reduceToNat]
    (refine hK _ ?_)
    clear hK K
    refine AWP.block ?_
    generalize hz1 : loopR (spec_l01Name_b1 a0) (a0.length - 0) 0 () = z1 at hR
    refine AWP.range (spec_l01Name_b1 a0) (fun i1 s1 => ⟨[(0, .str a0), (3, .int .i64 (i1 : Int))], []⟩) (fun i1 s1 => True) (a0.length) 0 () [] hz1 (by (omega)) (by (trivial)) (by (simp only [si, ea, gv, sv, hk, reduceCtorEq, reduceIte, Nat.reduceBEq, Nat.reduceAdd, Nat.reduceEqDiff, Nat.reduceLT, Nat.reduceLeDiff, Nat.reduceMul, Nat.reduceSub, BEq.rfl, beq_self_eq_true, Int.reduceToNat]; trivial)) ?_
    clear hz1
    intro i1 s1 hi1 hW1 hz1
    refine AWP.seq ?_
    refine AWP.seq ?_
    refine AWP.regS G_ok spec_l01Name_DD hc (by kernel_rfl) (fun K hK => ?_); simp only [ea, gv, sv, D_spec_l01Small, D_spec_l01Digit, reduceCtorEq, reduceIte, Nat.reduceBEq, Nat.reduceAdd, Nat.reduceEqDiff, Nat.reduceLT, Nat.reduceLeDiff, Nat.reduceMul, Nat.reduceSub, BEq.rfl, beq_self_eq_true, Int.reduceToNat]
    (refine hK _ ?_)
    clear hK K
    refine AWP.cond rfl (fun hb => ?_) (fun hb => ?_)
    · have hlt1 : i1 < a0.length := by ((simp only [ob, ln, bdv, sv] at *; omega))
      rw [loopR_lt hlt1] at hz1; simp only [spec_l01Name_b1] at hz1
      refine AWP.skip ?_
      refine AWP.seq ?_
      refine AWP.block ?_
      refine AWP.seq ?_
      refine AWP.regS G_ok spec_l01Name_DD hc (by kernel_rfl) (fun K hK => ?_); simp only [ea, gv, sv, D_spec_l01Small, D_spec_l01Digit, reduceCtorEq, reduceIte, Nat.reduceBEq, Nat.reduceAdd, Nat.reduceEqDiff, Nat.reduceLT, Nat.reduceLeDiff, Nat.reduceMul, Nat.reduceSub, BEq.rfl, beq_self_eq_true, Int.reduceToNat]
      (refine ⟨by (omega), hK _ ?_⟩)
      clear hK K
      refine AWP.cond rfl (fun hb => ?_) (fun hb => ?_)
      · (simp only [hb, cond_true] at hz1)
        refine AWP.seq ?_
        refine AWP.regS G_ok spec_l01Name_DD hc (by kernel_rfl) (fun K hK => ?_); simp only [ea, gv, sv, D_spec_l01Small, D_spec_l01Digit, reduceCtorEq, reduceIte, Nat.reduceBEq, Nat.reduceAdd, Nat.reduceEqDiff, Nat.reduceLT, Nat.reduceLeDiff, Nat.reduceMul, Nat.reduceSub, BEq.rfl, beq_self_eq_true, Int.reduceToNat]
        (refine hK _ ?_)
        clear hK K
        refine AWP.ret ?_
        subst hz1
        dsimp only at hR
        subst hR
        (simp only [en, si, ea, gv, sv, hk, reduceCtorEq, reduceIte, Nat.reduceBEq, Nat.reduceAdd, Nat.reduceEqDiff, Nat.reduceLT, Nat.reduceLeDiff, Nat.reduceMul, Nat.reduceSub, BEq.rfl, beq_self_eq_true, Int.reduceToNat]; done)
      · (simp only [hb, cond_false] at hz1)
        refine AWP.skip ?_
        refine AWP.regS G_ok spec_l01Name_DD hc (by kernel_rfl) (fun K hK => ?_); simp only [ea, gv, sv, D_spec_l01Small, D_spec_l01Digit, reduceCtorEq, reduceIte, Nat.reduceBEq, Nat.reduceAdd, Nat.reduceEqDiff, Nat.reduceLT, Nat.reduceLeDiff, Nat.reduceMul, Nat.reduceSub, BEq.rfl, beq_self_eq_true, Int.reduceToNat]
        (refine hK _ ?_)
        clear hK K
        exact ⟨_, [], hlt1, by (trivial), hz1, by (simp only [si, ea, gv, sv, hk, reduceCtorEq, reduceIte, Nat.reduceBEq, Nat.reduceAdd, Nat.reduceEqDiff, Nat.reduceLT, Nat.reduceLeDiff, Nat.reduceMul, Nat.reduceSub, BEq.rfl, beq_self_eq_true, Int.reduceToNat]; (and_intros <;> first | trivial | (rw [IntKind.wrap_i64]; omega)))⟩
    · obtain rfl : i1 = a0.length := by ((simp only [ob, ln, bdv, sv] at *; omega))
      rw [loopR_ge (Nat.le_refl _)] at hz1; subst hz1; dsimp only at hR
      refine AWP.exit ?_; refine exitTo_here ?_
      refine AWP.seq ?_
      refine AWP.regS G_ok spec_l01Name_DD hc (by kernel_rfl) (fun K hK => ?_); simp only [ea, gv, sv, D_spec_l01Small, D_spec_l01Digit, reduceCtorEq, reduceIte, Nat.reduceBEq, Nat.reduceAdd, Nat.reduceEqDiff, Nat.reduceLT, Nat.reduceLeDiff, Nat.reduceMul, Nat.reduceSub, BEq.rfl, beq_self_eq_true, Int.reduceToNat]
      (refine hK _ ?_)
      clear hK K
      refine AWP.ret ?_
      subst hR
      (simp only [en, si, ea, gv, sv, hk, reduceCtorEq, reduceIte, Nat.reduceBEq, Nat.reduceAdd, Nat.reduceEqDiff, Nat.reduceLT, Nat.reduceLeDiff, Nat.reduceMul, Nat.reduceSub, BEq.rfl, beq_self_eq_true, Int.reduceToNat]; done)
def D_spec_l01Name : DF
  | [x0] => some (.bool (spec_l01Name (rdS x0)), false, [wS x0])
  | _ => none
theorem D_spec_l01Name_ok : OkD Tryd.prog 29 D_spec_l01Name := by
  intro xs r z ob h ho
  unfold D_spec_l01Name at h
  split at h
  · simp only [Option.some.injEq, Prod.mk.injEq] at h
    obtain ⟨rfl, rfl, rfl⟩ := h
    obtain ⟨h0, _⟩ := ho
    exact Den.sim (spec_l01Name_den _ ) (simOL_cons (wS_sim h0).1 <| trivial) (noIdL_cons (wS_sim h0).2 <| rfl) rfl
  · cases h
end Go.Ab

namespace Go.Ab
open Go Go.Proofs
theorem spec_l29Entry_DD : DOk Tryd.prog (DD [(21, dP D_spec_l00In), (28, dP D_spec_l03Day), (29, dP D_spec_l01Name)]) := DD_cons D_spec_l00In_ok.e <| DD_cons D_spec_l03Day_ok.e <| DD_cons D_spec_l01Name_ok.e <| DD_nil _
def spec_l29Entry (a0 : Entry) : Bool :=
  ((((spec_l03Day a0.Day) && (spec_l01Name a0.Item)) && (spec_l00In a0.Amount (-1000) 1000)) && (a0.Amount != 0))
theorem spec_l29Entry_den (a0 : Entry)  : Den Tryd.prog 16 [.ep (eEntry a0)] (.bool (spec_l29Entry a0)) := by
  generalize hR : spec_l29Entry a0 = r
  unfold spec_l29Entry at hR
  refine den_intro G_ok Tryd.func16 (by kernel_rfl) rfl Tryd.ntmps16 (by rw [Tryd.results16]) (by simp) rfl ?_
  intro c hL hc hk
  obtain ⟨hL0, _⟩ := hL
  have hw0 : bwEntry a0 := Entry_lens a0 hL0
  clear hL0
  simp only [pars, Nat.zero_add]
  refine AWP.seq ?_
  refine AWP.regS G_ok spec_l29Entry_DD hc (by kernel_rfl) (fun K hK => ?_); simp only [ea, gv, sv, D_spec_l00In, D_spec_l03Day, D_spec_l01Name, reduceCtorEq, reduceIte, Nat.reduceBEq, Nat.reduceAdd, Nat.reduceEqDiff, Nat.reduceLT, Nat.reduceLeDiff, Nat.reduceMul, Nat.reduceSub, BEq.rfl, beq_self_eq_true, Int.reduceToNat]
  (refine hK _ ?_)
  clear hK K
  refine AWP.seq ?_
  refine AWP.regS G_ok spec_l29Entry_DD hc (by kernel_rfl) (fun K hK => ?_); simp only [ea, gv, sv, D_spec_l00In, D_spec_l03Day, D_spec_l01Name, reduceCtorEq, reduceIte, Nat.reduceBEq, Nat.reduceAdd, Nat.reduceEqDiff, Nat.reduceLT, Nat.reduceLeDiff, Nat.reduceMul, Nat.reduceSub, BEq.rfl, beq_self_eq_true, Int.reduceToNat]
  (refine hK _ ?_)
  clear hK K
  refine AWP.ret ?_
  subst hR
  (simp only [en, si, ea, gv, sv, hk, reduceCtorEq, reduceIte, Nat.reduceBEq, Nat.reduceAdd, Nat.reduceEqDiff, Nat.reduceLT, Nat.reduceLeDiff, Nat.reduceMul, Nat.reduceSub, BEq.rfl, beq_self_eq_true, Int.reduceToNat]; done)
def D_spec_l29Entry : DF
  | [x0] => some (.bool (spec_l29Entry (rdP dEntry x0)), false, [wP eEntry dEntry x0])
  | _ => none
theorem D_spec_l29Entry_ok : OkD Tryd.prog 16 D_spec_l29Entry := by
  intro xs r z ob h ho
  unfold D_spec_l29Entry at h
  split at h
  · simp only [Option.some.injEq, Prod.mk.injEq] at h
    obtain ⟨rfl, rfl, rfl⟩ := h
    obtain ⟨h0, _⟩ := ho
    exact Den.sim (spec_l29Entry_den _ ) (simOL_cons (wP_sim h0).1 <| trivial) (noIdL_cons (wP_sim h0).2 <| rfl) rfl
  · cases h
end Go.Ab

namespace Go.Ab
open Go Go.Proofs
theorem spec_l01Dec_DD : DOk Tryd.prog (DD []) := DD_nil _
def spec_l01Dec_b1 (a0 : Int) (s1 : Int × List Int) : Except (Sum ((List UInt8)) (Int × List Int)) (Int × List Int) :=
  (bif (s1.1 != 0) then (bif decide ((s1.1.tmod 10) < 0) then .ok (IntKind.wrap .i64 (s1.1.tdiv 10), s1.2 ++ [IntKind.wrap .u8 (IntKind.wrap .i64 (48 + (IntKind.wrap .i64 (0 - (s1.1.tmod 10)))))]) else .ok (IntKind.wrap .i64 (s1.1.tdiv 10), s1.2 ++ [IntKind.wrap .u8 (IntKind.wrap .i64 (48 + (s1.1.tmod 10)))])) else .error (.inr (s1.1, s1.2)))
def spec_l01Dec_b2 (a0 : Int) (s1 : Int × List Int) (s2 : Int × List Int) : Except (Sum ((List UInt8)) (Int × List Int)) (Int × List Int) :=
  (bif decide (0 ≤ s2.1) then .ok (IntKind.wrap .i64 (s2.1 - 1), s2.2 ++ [((s1.2 ++ [45]).getD ((s2.1).toNat) default)]) else .error (.inr (s2.1, s2.2)))
def spec_l01Dec_b3 (a0 : Int) (s1 : Int × List Int) (s3 : Int × List Int) : Except (Sum ((List UInt8)) (Int × List Int)) (Int × List Int) :=
  (bif decide (0 ≤ s3.1) then .ok (IntKind.wrap .i64 (s3.1 - 1), s3.2 ++ [(s1.2.getD ((s3.1).toNat) default)]) else .error (.inr (s3.1, s3.2)))
def spec_l01Dec (a0 : Int) : (List UInt8) :=
  (bif (a0 == 0) then [48] else (match loopW (spec_l01Dec_b1 a0) (((a0).natAbs) + 1) (a0, ([] : List Int)) with | .error (.inl e) => e | .error (.inr s1) => (bif decide (a0 < 0) then (match loopW (spec_l01Dec_b2 a0 s1) ((((IntKind.wrap .i64 ((s1.2.length + 1 : Int) - 1)) + 1).toNat) + 1) (IntKind.wrap .i64 ((s1.2.length + 1 : Int) - 1), ([] : List Int)) with | .error (.inl e) => e | .error (.inr s2) => (s2.2.map fun z => UInt8.ofNat z.toNat) | .ok _ => default) else (match loopW (spec_l01Dec_b3 a0 s1) ((((IntKind.wrap .i64 ((s1.2.length : Int) - 1)) + 1).toNat) + 1) (IntKind.wrap .i64 ((s1.2.length : Int) - 1), ([] : List Int)) with | .error (.inl e) => e | .error (.inr s3) => (s3.2.map fun z => UInt8.ofNat z.toNat) | .ok _ => default)) | .ok _ => default))
theorem spec_l01Dec_den (a0 : Int) (hp0 : -1000000000000 ≤ a0) (hp1 : a0 ≤ 1000000000000) : Den Tryd.prog 23 [.int .i64 a0] (.str (spec_l01Dec a0)) := by
  generalize hR : spec_l01Dec a0 = r
  unfold spec_l01Dec at hR
  refine den_intro G_ok Tryd.func23 (by kernel_rfl) rfl Tryd.ntmps23 (by rw [Tryd.results23]) (by simp) rfl ?_
  intro c hL hc hk
  clear hL
  simp only [pars, Nat.zero_add]
  refine AWP.seq ?_
  refine AWP.regS G_ok spec_l01Dec_DD hc (by kernel_rfl) (fun K hK => ?_); simp only [ea, gv, sv, reduceCtorEq, reduceIte, Nat.reduceBEq, Nat.reduceAdd, Nat.reduceEqDiff, Nat.reduceLT, Nat.reduceLeDiff, Nat.reduceMul, Nat.reduceSub, BEq.rfl, beq_self_eq_true, Int.reduceToNat]
  (refine hK _ ?_)
  clear hK K
  refine AWP.seq ?_
  refine AWP.seq ?_
  refine AWP.regS G_ok spec_l01Dec_DD hc (by kernel_rfl) (fun K hK => ?_); simp only [ea, gv, sv, reduceCtorEq, reduceIte, Nat.reduceBEq, Nat.reduceAdd, Nat.reduceEqDiff, Nat.reduceLT, Nat.reduceLeDiff, Nat.reduceMul, Nat.reduceSub, BEq.rfl, beq_self_eq_true, Int.reduceToNat]
  (refine hK _ ?_)
  clear hK K
  refine AWP.cond rfl (fun hb => ?_) (fun hb => ?_)
  · (simp only [hb, cond_true] at hR)
    refine AWP.seq ?_
    refine AWP.regS G_ok spec_l01Dec_DD hc (by kernel_rfl) (fun K hK => ?_); simp only [ea, gv, sv, reduceCtorEq, reduceIte, Nat.reduceBEq, Nat.reduceAdd, Nat.reduceEqDiff, Nat.reduceLT, Nat.reduceLeDiff, Nat.reduceMul, Nat.reduceSub, BEq.rfl, beq_self_eq_true, Int.reduceToNat]
    (refine hK _ ?_)
    clear hK K
    refine AWP.ret ?_
    subst hR
    (simp only [en, si, ea, gv, sv, hk, reduceCtorEq, reduceIte, Nat.reduceBEq, Nat.reduceAdd, Nat.reduceEqDiff, Nat.reduceLT, Nat.reduceLeDiff, Nat.reduceMul, Nat.reduceSub, BEq.rfl, beq_self_eq_true, Int.reduceToNat]; done)
  · (simp only [hb, cond_false] at hR)
    refine AWP.skip ?_
    refine AWP.seq ?_
    refine AWP.regS G_ok spec_l01Dec_DD hc (by kernel_rfl) (fun K hK => ?_); simp only [ea, gv, sv, reduceCtorEq, reduceIte, Nat.reduceBEq, Nat.reduceAdd, Nat.reduceEqDiff, Nat.reduceLT, Nat.reduceLeDiff, Nat.reduceMul, Nat.reduceSub, BEq.rfl, beq_self_eq_true, Int.reduceToNat]
    (refine hK _ ?_)
    clear hK K
    refine AWP.seq ?_
    refine AWP.seq ?_
    refine AWP.regS G_ok spec_l01Dec_DD hc (by kernel_rfl) (fun K hK => ?_); simp only [ea, gv, sv, reduceCtorEq, reduceIte, Nat.reduceBEq, Nat.reduceAdd, Nat.reduceEqDiff, Nat.reduceLT, Nat.reduceLeDiff, Nat.reduceMul, Nat.reduceSub, BEq.rfl, beq_self_eq_true, Int.reduceToNat]
    (refine hK _ ?_)
    clear hK K
    refine AWP.block ?_
    generalize hz1 : loopW (spec_l01Dec_b1 a0) (((a0).natAbs) + 1) (a0, ([] : List Int)) = z1 at hR
    refine AWP.whileW (spec_l01Dec_b1 a0) (fun s1 => ⟨[(0, .int .i64 a0), (3, .ref 0 1 0 s1.2.length), (4, .int .i64 s1.1)], [.arr 5 1 s1.2.length (fun j => eIu8 (s1.2.getD j default))]⟩) (fun s1 => -1000000000000 ≤ s1.1 ∧ s1.1 ≤ 1000000000000 ∧ s1.2.length + (s1.1).natAbs ≤ 1000000000000) (fun s1 => (s1.1).natAbs) (((a0).natAbs) + 1) (a0, ([] : List Int)) [0] hz1 (by omega) (by ((and_intros <;> simp only [ln] <;> omega))) (by (simp only [si, ea, gv, sv, hk, reduceCtorEq, reduceIte, Nat.reduceBEq, Nat.reduceAdd, Nat.reduceEqDiff, Nat.reduceLT, Nat.reduceLeDiff, Nat.reduceMul, Nat.reduceSub, BEq.rfl, beq_self_eq_true, Int.reduceToNat]; trivial)) ?_
    clear hz1
    intro s1 k1 hW1 hm1 hz1
    simp only [spec_l01Dec_b1] at hz1
    refine AWP.seq ?_
    refine AWP.seq ?_
    refine AWP.regS G_ok spec_l01Dec_DD hc (by kernel_rfl) (fun K hK => ?_); simp only [ea, gv, sv, reduceCtorEq, reduceIte, Nat.reduceBEq, Nat.reduceAdd, Nat.reduceEqDiff, Nat.reduceLT, Nat.reduceLeDiff, Nat.reduceMul, Nat.reduceSub, BEq.rfl, beq_self_eq_true, Int.reduceToNat]
    (refine hK _ ?_)
    clear hK K
    refine AWP.cond rfl (fun hb => ?_) (fun hb => ?_)
    · (simp only [hb, cond_true] at hz1)
      refine AWP.skip ?_
      refine AWP.seq ?_
      refine AWP.block ?_
      refine AWP.seq ?_
      refine AWP.regS G_ok spec_l01Dec_DD hc (by kernel_rfl) (fun K hK => ?_); simp only [ea, gv, sv, reduceCtorEq, reduceIte, Nat.reduceBEq, Nat.reduceAdd, Nat.reduceEqDiff, Nat.reduceLT, Nat.reduceLeDiff, Nat.reduceMul, Nat.reduceSub, BEq.rfl, beq_self_eq_true, Int.reduceToNat]
      (refine ⟨by (trivial), hK _ ?_⟩)
      clear hK K
      refine AWP.seq ?_
      refine AWP.seq ?_
      refine AWP.regS G_ok spec_l01Dec_DD hc (by kernel_rfl) (fun K hK => ?_); simp only [ea, gv, sv, reduceCtorEq, reduceIte, Nat.reduceBEq, Nat.reduceAdd, Nat.reduceEqDiff, Nat.reduceLT, Nat.reduceLeDiff, Nat.reduceMul, Nat.reduceSub, BEq.rfl, beq_self_eq_true, Int.reduceToNat]
      (refine hK _ ?_)
      clear hK K
      refine AWP.cond rfl (fun hb => ?_) (fun hb => ?_)
      · (simp only [hb, cond_true] at hz1)
        refine AWP.regS G_ok spec_l01Dec_DD hc (by kernel_rfl) (fun K hK => ?_); simp only [ea, gv, sv, reduceCtorEq, reduceIte, Nat.reduceBEq, Nat.reduceAdd, Nat.reduceEqDiff, Nat.reduceLT, Nat.reduceLeDiff, Nat.reduceMul, Nat.reduceSub, BEq.rfl, beq_self_eq_true, Int.reduceToNat]
        (refine hK _ ?_)
        clear hK K
        refine AWP.regS G_ok spec_l01Dec_DD hc (by kernel_rfl) (fun K hK => ?_); simp only [ea, gv, sv, reduceCtorEq, reduceIte, Nat.reduceBEq, Nat.reduceAdd, Nat.reduceEqDiff, Nat.reduceLT, Nat.reduceLeDiff, Nat.reduceMul, Nat.reduceSub, BEq.rfl, beq_self_eq_true, Int.reduceToNat]
        (refine ⟨by (omega), hK _ ?_⟩)
        clear hK K
        refine AWP.regS G_ok spec_l01Dec_DD hc (by kernel_rfl) (fun K hK => ?_); simp only [ea, gv, sv, reduceCtorEq, reduceIte, Nat.reduceBEq, Nat.reduceAdd, Nat.reduceEqDiff, Nat.reduceLT, Nat.reduceLeDiff, Nat.reduceMul, Nat.reduceSub, BEq.rfl, beq_self_eq_true, Int.reduceToNat]
        (refine ⟨by (trivial), hK _ ?_⟩)
        clear hK K
        exact ⟨_, [2], by (have h10 := tdiv10 s1.1; simp only [ob, ln] at *; omega), by (have h10 := tdiv10 s1.1; refine ⟨?_, ?_, ?_⟩ <;> simp only [ob, ln] at * <;> omega), hz1, by (simp only [si, ea, gv, sv, hk, reduceCtorEq, reduceIte, Nat.reduceBEq, Nat.reduceAdd, Nat.reduceEqDiff, Nat.reduceLT, Nat.reduceLeDiff, Nat.reduceMul, Nat.reduceSub, BEq.rfl, beq_self_eq_true, Int.reduceToNat]; (and_intros <;> first | trivial | (simp only [ln]; done) | (intro j hj; simp only [pw, Bool.cond_eq_ite, Bool.and_eq_true, decide_eq_true_eq]; (try rw [subL_getD _ _ _ _ (by assumption)]); (try rw [clearL_getD _ _ _ _ (by omega)]); (repeat' split) <;> first | rfl | omega)))⟩
      · (simp only [hb, cond_false] at hz1)
        refine AWP.skip ?_
        refine AWP.regS G_ok spec_l01Dec_DD hc (by kernel_rfl) (fun K hK => ?_); simp only [ea, gv, sv, reduceCtorEq, reduceIte, Nat.reduceBEq, Nat.reduceAdd, Nat.reduceEqDiff, Nat.reduceLT, Nat.reduceLeDiff, Nat.reduceMul, Nat.reduceSub, BEq.rfl, beq_self_eq_true, Int.reduceToNat]
        (refine ⟨by (omega), hK _ ?_⟩)
        clear hK K
        refine AWP.regS G_ok spec_l01Dec_DD hc (by kernel_rfl) (fun K hK => ?_); simp only [ea, gv, sv, reduceCtorEq, reduceIte, Nat.reduceBEq, Nat.reduceAdd, Nat.reduceEqDiff, Nat.reduceLT, Nat.reduceLeDiff, Nat.reduceMul, Nat.reduceSub, BEq.rfl, beq_self_eq_true, Int.reduceToNat]
        (refine ⟨by (trivial), hK _ ?_⟩)
        clear hK K
        exact ⟨_, [2], by (have h10 := tdiv10 s1.1; simp only [ob, ln] at *; omega), by (have h10 := tdiv10 s1.1; refine ⟨?_, ?_, ?_⟩ <;> simp only [ob, ln] at * <;> omega), hz1, by (simp only [si, ea, gv, sv, hk, reduceCtorEq, reduceIte, Nat.reduceBEq, Nat.reduceAdd, Nat.reduceEqDiff, Nat.reduceLT, Nat.reduceLeDiff, Nat.reduceMul, Nat.reduceSub, BEq.rfl, beq_self_eq_true, Int.reduceToNat]; (and_intros <;> first | trivial | (simp only [ln]; done) | (intro j hj; simp only [pw, Bool.cond_eq_ite, Bool.and_eq_true, decide_eq_true_eq]; (try rw [subL_getD _ _ _ _ (by assumption)]); (try rw [clearL_getD _ _ _ _ (by omega)]); (repeat' split) <;> first | rfl | omega)))⟩
    · (simp only [hb, cond_false] at hz1)
      refine AWP.exit ?_
      refine exitTo_here ?_
      subst hz1; dsimp only at hR
      refine AWP.seq ?_
      refine AWP.seq ?_
      refine AWP.regS G_ok spec_l01Dec_DD hc (by kernel_rfl) (fun K hK => ?_); simp only [ea, gv, sv, reduceCtorEq, reduceIte, Nat.reduceBEq, Nat.reduceAdd, Nat.reduceEqDiff, Nat.reduceLT, Nat.reduceLeDiff, Nat.reduceMul, Nat.reduceSub, BEq.rfl, beq_self_eq_true, Int.reduceToNat]
      (refine hK _ ?_)
      clear hK K
      refine AWP.cond rfl (fun hb => ?_) (fun hb => ?_)
      · (simp only [hb, cond_true] at hR)
        refine AWP.regS G_ok spec_l01Dec_DD hc (by kernel_rfl) (fun K hK => ?_); simp only [ea, gv, sv, reduceCtorEq, reduceIte, Nat.reduceBEq, Nat.reduceAdd, Nat.reduceEqDiff, Nat.reduceLT, Nat.reduceLeDiff, Nat.reduceMul, Nat.reduceSub, BEq.rfl, beq_self_eq_true, Int.reduceToNat]
        (refine ⟨by (omega), hK _ ?_⟩)
        clear hK K
        refine AWP.seq ?_
        refine AWP.regS G_ok spec_l01Dec_DD hc (by kernel_rfl) (fun K hK => ?_); simp only [ea, gv, sv, reduceCtorEq, reduceIte, Nat.reduceBEq, Nat.reduceAdd, Nat.reduceEqDiff, Nat.reduceLT, Nat.reduceLeDiff, Nat.reduceMul, Nat.reduceSub, BEq.rfl, beq_self_eq_true, Int.reduceToNat]
        (refine hK _ ?_)
        clear hK K
        refine AWP.seq ?_
        refine AWP.seq ?_
        refine AWP.regS G_ok spec_l01Dec_DD hc (by kernel_rfl) (fun K hK => ?_); simp only [ea, gv, sv, reduceCtorEq, reduceIte, Nat.reduceBEq, Nat.reduceAdd, Nat.reduceEqDiff, Nat.reduceLT, Nat.reduceLeDiff, Nat.reduceMul, Nat.reduceSub, BEq.rfl, beq_self_eq_true, Int.reduceToNat]
        (refine hK _ ?_)
        clear hK K
        refine AWP.block ?_
        generalize hz2 : loopW (spec_l01Dec_b2 a0 (s1.1, s1.2)) ((((IntKind.wrap .i64 ((s1.2.length + 1 : Int) - 1)) + 1).toNat) + 1) (IntKind.wrap .i64 ((s1.2.length + 1 : Int) - 1), ([] : List Int)) = z2 at hR
        refine AWP.whileW (spec_l01Dec_b2 a0 (s1.1, s1.2)) (fun s2 => ⟨[(3, .ref 0 1 0 (s1.2.length + 1)), (6, .ref 1 1 0 s2.2.length), (7, .int .i64 s2.1)], [.arr 5 1 (s1.2 ++ [45]).length (fun j => eIu8 ((s1.2 ++ [45]).getD j default)), .arr 5 1 s2.2.length (fun j => eIu8 (s2.2.getD j default))]⟩) (fun s2 => -1 ≤ s2.1 ∧ s2.1 ≤ s1.2.length ∧ s2.1 ≤ 1000000000000 ∧ s2.2.length + (s2.1 + 1).toNat ≤ 1000000000001) (fun s2 => (s2.1 + 1).toNat) ((((IntKind.wrap .i64 ((s1.2.length + 1 : Int) - 1)) + 1).toNat) + 1) (IntKind.wrap .i64 ((s1.2.length + 1 : Int) - 1), ([] : List Int)) [2, 3] hz2 (by omega) (by ((and_intros <;> simp only [ob, ln] at * <;> omega))) (by (simp only [si, ea, gv, sv, hk, reduceCtorEq, reduceIte, Nat.reduceBEq, Nat.reduceAdd, Nat.reduceEqDiff, Nat.reduceLT, Nat.reduceLeDiff, Nat.reduceMul, Nat.reduceSub, BEq.rfl, beq_self_eq_true, Int.reduceToNat]; (and_intros <;> first | rfl | trivial | (simp only [ln]; done) | (intro j hj; simp only [pw, Bool.cond_eq_ite, Bool.and_eq_true, decide_eq_true_eq]; (try rw [subL_getD _ _ _ _ (by assumption)]); (try rw [clearL_getD _ _ _ _ (by omega)]); (repeat' split) <;> first | rfl | omega)))) ?_
        clear hz2
        intro s2 k2 hW2 hm2 hz2
        simp only [spec_l01Dec_b2] at hz2
        refine AWP.seq ?_
        refine AWP.seq ?_
        refine AWP.regS G_ok spec_l01Dec_DD hc (by kernel_rfl) (fun K hK => ?_); simp only [ea, gv, sv, reduceCtorEq, reduceIte, Nat.reduceBEq, Nat.reduceAdd, Nat.reduceEqDiff, Nat.reduceLT, Nat.reduceLeDiff, Nat.reduceMul, Nat.reduceSub, BEq.rfl, beq_self_eq_true, Int.reduceToNat]
        (refine hK _ ?_)
        clear hK K
        refine AWP.cond rfl (fun hb => ?_) (fun hb => ?_)
        · (simp only [hb, cond_true] at hz2)
          refine AWP.skip ?_
          refine AWP.seq ?_
          refine AWP.block ?_
          refine AWP.regS G_ok spec_l01Dec_DD hc (by kernel_rfl) (fun K hK => ?_); simp only [ea, gv, sv, reduceCtorEq, reduceIte, Nat.reduceBEq, Nat.reduceAdd, Nat.reduceEqDiff, Nat.reduceLT, Nat.reduceLeDiff, Nat.reduceMul, Nat.reduceSub, BEq.rfl, beq_self_eq_true, Int.reduceToNat]
          (refine ⟨by (((try clear hK K); (repeat' (apply And.intro)) <;> first | omega | (simp only [ob, ln, bdv, sv] at *; omega))), hK _ ?_⟩)
          clear hK K
          refine AWP.regS G_ok spec_l01Dec_DD hc (by kernel_rfl) (fun K hK => ?_); simp only [ea, gv, sv, reduceCtorEq, reduceIte, Nat.reduceBEq, Nat.reduceAdd, Nat.reduceEqDiff, Nat.reduceLT, Nat.reduceLeDiff, Nat.reduceMul, Nat.reduceSub, BEq.rfl, beq_self_eq_true, Int.reduceToNat]
          (refine hK _ ?_)
          clear hK K
          exact ⟨_, [0, 3], by ((simp only [ob, ln] at *; omega)), by ((and_intros <;> simp only [ob, ln] at * <;> omega)), hz2, by (simp only [si, ea, gv, sv, hk, reduceCtorEq, reduceIte, Nat.reduceBEq, Nat.reduceAdd, Nat.reduceEqDiff, Nat.reduceLT, Nat.reduceLeDiff, Nat.reduceMul, Nat.reduceSub, BEq.rfl, beq_self_eq_true, Int.reduceToNat]; (and_intros <;> first | trivial | (simp only [ln]; done) | (intro j hj; simp only [pw, Bool.cond_eq_ite, Bool.and_eq_true, decide_eq_true_eq]; (try rw [subL_getD _ _ _ _ (by assumption)]); (try rw [clearL_getD _ _ _ _ (by omega)]); (repeat' split) <;> first | rfl | omega)))⟩
        · (simp only [hb, cond_false] at hz2)
          refine AWP.exit ?_
          refine exitTo_here ?_
          subst hz2; dsimp only at hR
          refine AWP.seq ?_
          refine AWP.regS G_ok spec_l01Dec_DD hc (by kernel_rfl) (fun K hK => ?_); simp only [ea, gv, sv, reduceCtorEq, reduceIte, Nat.reduceBEq, Nat.reduceAdd, Nat.reduceEqDiff, Nat.reduceLT, Nat.reduceLeDiff, Nat.reduceMul, Nat.reduceSub, BEq.rfl, beq_self_eq_true, Int.reduceToNat]
          (refine ⟨by (omega), hK _ ?_⟩)
          clear hK K
          refine AWP.ret ?_
          subst hR
          (simp only [en, si, ea, gv, sv, hk, reduceCtorEq, reduceIte, Nat.reduceBEq, Nat.reduceAdd, Nat.reduceEqDiff, Nat.reduceLT, Nat.reduceLeDiff, Nat.reduceMul, Nat.reduceSub, BEq.rfl, beq_self_eq_true, Int.reduceToNat]; done)
      · (simp only [hb, cond_false] at hR)
        refine AWP.skip ?_
        refine AWP.seq ?_
        refine AWP.regS G_ok spec_l01Dec_DD hc (by kernel_rfl) (fun K hK => ?_); simp only [ea, gv, sv, reduceCtorEq, reduceIte, Nat.reduceBEq, Nat.reduceAdd, Nat.reduceEqDiff, Nat.reduceLT, Nat.reduceLeDiff, Nat.reduceMul, Nat.reduceSub, BEq.rfl, beq_self_eq_true, Int.reduceToNat]
        (refine hK _ ?_)
        clear hK K
        refine AWP.seq ?_
        refine AWP.seq ?_
        refine AWP.regS G_ok spec_l01Dec_DD hc (by kernel_rfl) (fun K hK => ?_); simp only [ea, gv, sv, reduceCtorEq, reduceIte, Nat.reduceBEq, Nat.reduceAdd, Nat.reduceEqDiff, Nat.reduceLT, Nat.reduceLeDiff, Nat.reduceMul, Nat.reduceSub, BEq.rfl, beq_self_eq_true, Int.reduceToNat]
        (refine hK _ ?_)
        clear hK K
        refine AWP.block ?_
        generalize hz3 : loopW (spec_l01Dec_b3 a0 (s1.1, s1.2)) ((((IntKind.wrap .i64 ((s1.2.length : Int) - 1)) + 1).toNat) + 1) (IntKind.wrap .i64 ((s1.2.length : Int) - 1), ([] : List Int)) = z3 at hR
        refine AWP.whileW (spec_l01Dec_b3 a0 (s1.1, s1.2)) (fun s3 => ⟨[(3, .ref 0 1 0 s1.2.length), (6, .ref 1 1 0 s3.2.length), (7, .int .i64 s3.1)], [.arr 5 1 s1.2.length (fun j => eIu8 (s1.2.getD j default)), .arr 5 1 s3.2.length (fun j => eIu8 (s3.2.getD j default))]⟩) (fun s3 => -1 ≤ s3.1 ∧ s3.1 < s1.2.length ∧ s3.1 ≤ 1000000000000 ∧ s3.2.length + (s3.1 + 1).toNat ≤ 1000000000001) (fun s3 => (s3.1 + 1).toNat) ((((IntKind.wrap .i64 ((s1.2.length : Int) - 1)) + 1).toNat) + 1) (IntKind.wrap .i64 ((s1.2.length : Int) - 1), ([] : List Int)) [0, 1] hz3 (by omega) (by ((and_intros <;> simp only [ob, ln] at * <;> omega))) (by (simp only [si, ea, gv, sv, hk, reduceCtorEq, reduceIte, Nat.reduceBEq, Nat.reduceAdd, Nat.reduceEqDiff, Nat.reduceLT, Nat.reduceLeDiff, Nat.reduceMul, Nat.reduceSub, BEq.rfl, beq_self_eq_true, Int.reduceToNat]; trivial)) ?_
        clear hz3
        intro s3 k3 hW3 hm3 hz3
        simp only [spec_l01Dec_b3] at hz3
        refine AWP.seq ?_
        refine AWP.seq ?_
        refine AWP.regS G_ok spec_l01Dec_DD hc (by kernel_rfl) (fun K hK => ?_); simp only [ea, gv, sv, reduceCtorEq, reduceIte, Nat.reduceBEq, Nat.reduceAdd, Nat.reduceEqDiff, Nat.reduceLT, Nat.reduceLeDiff, Nat.reduceMul, Nat.reduceSub, BEq.rfl, beq_self_eq_true, Int.reduceToNat]
        (refine hK _ ?_)
        clear hK K
        refine AWP.cond rfl (fun hb => ?_) (fun hb => ?_)
        · (simp only [hb, cond_true] at hz3)
          refine AWP.skip ?_
          refine AWP.seq ?_
          refine AWP.block ?_
          refine AWP.regS G_ok spec_l01Dec_DD hc (by kernel_rfl) (fun K hK => ?_); simp only [ea, gv, sv, reduceCtorEq, reduceIte, Nat.reduceBEq, Nat.reduceAdd, Nat.reduceEqDiff, Nat.reduceLT, Nat.reduceLeDiff, Nat.reduceMul, Nat.reduceSub, BEq.rfl, beq_self_eq_true, Int.reduceToNat]
          (refine ⟨by (((try clear hK K); (repeat' (apply And.intro)) <;> first | omega | (simp only [ob, ln, bdv, sv] at *; omega))), hK _ ?_⟩)
          clear hK K
          refine AWP.regS G_ok spec_l01Dec_DD hc (by kernel_rfl) (fun K hK => ?_); simp only [ea, gv, sv, reduceCtorEq, reduceIte, Nat.reduceBEq, Nat.reduceAdd, Nat.reduceEqDiff, Nat.reduceLT, Nat.reduceLeDiff, Nat.reduceMul, Nat.reduceSub, BEq.rfl, beq_self_eq_true, Int.reduceToNat]
          (refine hK _ ?_)
          clear hK K
          exact ⟨_, [0, 3], by ((simp only [ob, ln] at *; omega)), by ((and_intros <;> simp only [ob, ln] at * <;> omega)), hz3, by (simp only [si, ea, gv, sv, hk, reduceCtorEq, reduceIte, Nat.reduceBEq, Nat.reduceAdd, Nat.reduceEqDiff, Nat.reduceLT, Nat.reduceLeDiff, Nat.reduceMul, Nat.reduceSub, BEq.rfl, beq_self_eq_true, Int.reduceToNat]; (and_intros <;> first | trivial | (simp only [ln]; done) | (intro j hj; simp only [pw, Bool.cond_eq_ite, Bool.and_eq_true, decide_eq_true_eq]; (try rw [subL_getD _ _ _ _ (by assumption)]); (try rw [clearL_getD _ _ _ _ (by omega)]); (repeat' split) <;> first | rfl | omega)))⟩
        · (simp only [hb, cond_false] at hz3)
          refine AWP.exit ?_
          refine exitTo_here ?_
          subst hz3; dsimp only at hR
          refine AWP.seq ?_
          refine AWP.regS G_ok spec_l01Dec_DD hc (by kernel_rfl) (fun K hK => ?_); simp only [ea, gv, sv, reduceCtorEq, reduceIte, Nat.reduceBEq, Nat.reduceAdd, Nat.reduceEqDiff, Nat.reduceLT, Nat.reduceLeDiff, Nat.reduceMul, Nat.reduceSub, BEq.rfl, beq_self_eq_true, Int.reduceToNat]
          (refine ⟨by (omega), hK _ ?_⟩)
          clear hK K
          refine AWP.ret ?_
          subst hR
          (simp only [en, si, ea, gv, sv, hk, reduceCtorEq, reduceIte, Nat.reduceBEq, Nat.reduceAdd, Nat.reduceEqDiff, Nat.reduceLT, Nat.reduceLeDiff, Nat.reduceMul, Nat.reduceSub, BEq.rfl, beq_self_eq_true, Int.reduceToNat]; done)
def D_spec_l01Dec : DF
  | [x0] => some (.str (spec_l01Dec (rdI x0)), false, [wI .i64 x0, -1000000000000 ≤ (rdI x0), (rdI x0) ≤ 1000000000000])
  | _ => none
theorem D_spec_l01Dec_ok : OkD Tryd.prog 23 D_spec_l01Dec := by
  intro xs r z ob h ho
  unfold D_spec_l01Dec at h
  split at h
  · simp only [Option.some.injEq, Prod.mk.injEq] at h
    obtain ⟨rfl, rfl, rfl⟩ := h
    obtain ⟨h0, hp0, hp1, _⟩ := ho
    exact Den.sim (spec_l01Dec_den _ hp0 hp1) (simOL_cons (wI_sim h0).1 <| trivial) (noIdL_cons (wI_sim h0).2 <| rfl) rfl
  · cases h
end Go.Ab

namespace Go.Ab
open Go Go.Proofs
def revDec (m : Nat) : List Int := if h : m = 0 then [] else (48 + (m % 10 : Nat) : Int) :: revDec (m / 10)
termination_by m
decreasing_by omega
theorem revDec_zero : revDec 0 = [] := by rw [revDec]; simp
theorem revDec_pos {m : Nat} (h : m ≠ 0) : revDec m = (48 + (m % 10 : Nat) : Int) :: revDec (m / 10) := by rw [revDec]; simp [h]
theorem decDigits_rev : ∀ (m : Nat), m ≠ 0 → (revDec m).reverse.map (fun z => UInt8.ofNat z.toNat) = Go.Lib.decDigits m := by
  intro m
  induction m using Nat.strongRecOn with
  | ind m ih =>
    intro h
    rw [revDec_pos h, Go.Lib.decDigits]
    have e3 : UInt8.ofNat (48 + ((m % 10 : Nat) : Int)).toNat = UInt8.ofNat (48 + m % 10) := by congr 1
    split
    · rename_i h10
      have e : m / 10 = 0 := by omega
      have e2 : m % 10 = m := Nat.mod_eq_of_lt h10
      rw [e2] at e3 ⊢
      simp only [e, revDec_zero, List.reverse_cons, List.reverse_nil, List.nil_append, List.map_cons, List.map_nil]
      rw [e3]
    · rw [← ih (m / 10) (by omega) (by omega)]
      simp only [List.reverse_cons, List.map_append, List.map_cons, List.map_nil, e3]
theorem tdiv_abs (x : Int) : (x.tdiv 10).natAbs = x.natAbs / 10 := by
  rcases tdiv10 x with ⟨h, e⟩ | ⟨h, e⟩ <;> rw [e] <;> omega
theorem tmod10 (x : Int) : x.tmod 10 = x - 10 * x.tdiv 10 := Int.tmod_def x 10
theorem dec_b1 (a0 : Int) (m : Int) (ds : List Int) (h1 : -1000000000000 ≤ m) (h2 : m ≤ 1000000000000) (h : m ≠ 0) :
    spec_l01Dec_b1 a0 (m, ds) = .ok (m.tdiv 10, ds ++ [48 + ((m.natAbs % 10 : Nat) : Int)]) := by
  have e1 := tmod10 m
  have e2 := tdiv10 m
  have hn : (m != 0) = true := by simpa using h
  unfold spec_l01Dec_b1
  simp only [hn, cond_true]
  have w1 : IntKind.wrap .i64 (m.tdiv 10) = m.tdiv 10 := by rw [IntKind.wrap_i64]; omega
  rw [w1]
  by_cases hm : m.tmod 10 < 0
  · simp only [hm, decide_true, cond_true]
    have w2 : IntKind.wrap .u8 (IntKind.wrap .i64 (48 + (IntKind.wrap .i64 (0 - (m.tmod 10))))) = 48 + ((m.natAbs % 10 : Nat) : Int) := by
      simp only [IntKind.wrap_i64, IntKind.wrap_u8]
      omega
    rw [w2]
  · simp only [hm, decide_false, cond_false]
    have w2 : IntKind.wrap .u8 (IntKind.wrap .i64 (48 + (m.tmod 10))) = 48 + ((m.natAbs % 10 : Nat) : Int) := by
      simp only [IntKind.wrap_i64, IntKind.wrap_u8]
      omega
    rw [w2]
theorem dec_loop1 (a0 : Int) : ∀ (k : Nat) (m : Int) (ds : List Int), -1000000000000 ≤ m → m ≤ 1000000000000 → m.natAbs < k →
    loopW (spec_l01Dec_b1 a0) k (m, ds) = .error (.inr (0, ds ++ revDec m.natAbs))
  | 0, m, ds, _, _, h => by omega
  | k + 1, m, ds, h1, h2, h => by
    by_cases hm : m = 0
    · subst hm
      simp [loopW, spec_l01Dec_b1, revDec_zero]
    · have e2 := tdiv10 m
      simp only [loopW, dec_b1 a0 m ds h1 h2 hm]
      rw [dec_loop1 a0 k (m.tdiv 10) _ (by omega) (by omega) (by omega), tdiv_abs, List.append_assoc, List.singleton_append, ← revDec_pos (by omega)]
theorem revDec_len : ∀ (m : Nat), (revDec m).length ≤ m := by
  intro m
  induction m using Nat.strongRecOn with
  | ind m ih =>
    by_cases h : m = 0
    · subst h; simp [revDec_zero]
    · rw [revDec_pos h]
      have := ih (m / 10) (by omega)
      simp only [List.length_cons]
      omega
theorem take_rev {α : Type} (L : List α) (d : α) (k : Nat) (h : k < L.length) : L.getD k d :: (L.take k).reverse = (L.take (k + 1)).reverse := by
  rw [List.take_add_one, List.reverse_append]
  simp [List.getD, List.getElem?_eq_getElem h]
theorem dec_loop2 (a0 : Int) (s1 : Int × List Int) : ∀ (f k : Nat) (out : List Int), k < f → k ≤ s1.2.length + 1 → k ≤ 1000000000001 →
    loopW (spec_l01Dec_b2 a0 s1) f ((k : Int) - 1, out) = .error (.inr (-1, out ++ ((s1.2 ++ [45]).take k).reverse))
  | 0, k, out, h, _, _ => by omega
  | f + 1, 0, out, _, _, _ => by simp [loopW, spec_l01Dec_b2]
  | f + 1, k + 1, out, h, hk, hb => by
    have e1 : IntKind.wrap .i64 (((k + 1 : Nat) : Int) - 1 - 1) = (k : Int) - 1 := by rw [IntKind.wrap_i64]; omega
    have e2 : (((k + 1 : Nat) : Int) - 1).toNat = k := by omega
    have e3 : decide (0 ≤ ((k + 1 : Nat) : Int) - 1) = true := by simp
    simp only [loopW, spec_l01Dec_b2, e3, cond_true, e1, e2]
    rw [dec_loop2 a0 s1 f k _ (by omega) (by omega) (by omega), List.append_assoc, List.singleton_append, take_rev _ _ _ (by simp; omega)]
theorem dec_loop3 (a0 : Int) (s1 : Int × List Int) : ∀ (f k : Nat) (out : List Int), k < f → k ≤ s1.2.length → k ≤ 1000000000001 →
    loopW (spec_l01Dec_b3 a0 s1) f ((k : Int) - 1, out) = .error (.inr (-1, out ++ (s1.2.take k).reverse))
  | 0, k, out, h, _, _ => by omega
  | f + 1, 0, out, _, _, _ => by simp [loopW, spec_l01Dec_b3]
  | f + 1, k + 1, out, h, hk, hb => by
    have e1 : IntKind.wrap .i64 (((k + 1 : Nat) : Int) - 1 - 1) = (k : Int) - 1 := by rw [IntKind.wrap_i64]; omega
    have e2 : (((k + 1 : Nat) : Int) - 1).toNat = k := by omega
    have e3 : decide (0 ≤ ((k + 1 : Nat) : Int) - 1) = true := by simp
    simp only [loopW, spec_l01Dec_b3, e3, cond_true, e1, e2]
    rw [dec_loop3 a0 s1 f k _ (by omega) (by omega) (by omega), List.append_assoc, List.singleton_append, take_rev _ _ _ (by omega)]
theorem spec_l01Dec_eq (n : Int) (h1 : -1000000000000 ≤ n) (h2 : n ≤ 1000000000000) : spec_l01Dec n = Go.Lib.itoa n := by
  unfold spec_l01Dec Go.Lib.itoa
  by_cases h0 : n = 0
  · subst h0
    simp [Go.Lib.decDigits]
  have hn : (n == 0) = false := by simpa using h0
  rw [hn, cond_false, dec_loop1 n _ n [] h1 h2 (by omega)]
  have hl := revDec_len n.natAbs
  have hr := decDigits_rev n.natAbs (by omega)
  simp only [List.nil_append]
  by_cases hneg : n < 0
  · have e1 : IntKind.wrap .i64 (((revDec n.natAbs).length + 1 : Int) - 1) = ((((revDec n.natAbs).length + 1 : Nat)) : Int) - 1 := by rw [IntKind.wrap_i64]; omega
    simp only [hneg, decide_true, cond_true, e1, if_true]
    rw [dec_loop2 n _ _ _ _ (by omega) (by simp) (by omega)]
    simp only [List.nil_append]
    rw [List.take_of_length_le (by simp), List.reverse_append, List.map_append, hr]
    rfl
  · have e1 : IntKind.wrap .i64 (((revDec n.natAbs).length : Int) - 1) = (((revDec n.natAbs).length : Nat) : Int) - 1 := by rw [IntKind.wrap_i64]; omega
    simp only [hneg, decide_false, cond_false, e1, if_false]
    rw [dec_loop3 n _ _ _ _ (by omega) (by simp) (by omega)]
    simp only [List.nil_append]
    rw [List.take_of_length_le (by simp), hr]
    congr 1
    omega
theorem spec_l01Dec_len (n : Int) (h1 : -1000000000000 ≤ n) (h2 : n ≤ 1000000000000) : (spec_l01Dec n).length ≤ n.natAbs + 2 := by
  rw [spec_l01Dec_eq n h1 h2]
  exact itoa_len2 n
end Go.Ab

namespace Go.Ab
open Go Go.Proofs
theorem spec_l03Two_DD : DOk Tryd.prog (DD [(23, dP D_spec_l01Dec)]) := DD_cons D_spec_l01Dec_ok.e <| DD_nil _
def spec_l03Two (a0 : Int) : (List UInt8) :=
  (bif decide (a0 < 10) then [48] ++ (spec_l01Dec a0) else (spec_l01Dec a0))
theorem spec_l03Two_den (a0 : Int) (hp0 : 0 ≤ a0) (hp1 : a0 ≤ 1000) : Den Tryd.prog 38 [.int .i64 a0] (.str (spec_l03Two a0)) := by
  generalize hR : spec_l03Two a0 = r
  unfold spec_l03Two at hR
  refine den_intro G_ok Tryd.func38 (by kernel_rfl) rfl Tryd.ntmps38 (by rw [Tryd.results38]) (by simp) rfl ?_
  intro c hL hc hk
  clear hL
  simp only [pars, Nat.zero_add]
  have l1 := spec_l01Dec_len a0 (by omega) (by omega)
  refine AWP.seq ?_
  refine AWP.regS G_ok spec_l03Two_DD hc (by kernel_rfl) (fun K hK => ?_); simp only [ea, gv, sv, D_spec_l01Dec, reduceCtorEq, reduceIte, Nat.reduceBEq, Nat.reduceAdd, Nat.reduceEqDiff, Nat.reduceLT, Nat.reduceLeDiff, Nat.reduceMul, Nat.reduceSub, BEq.rfl, beq_self_eq_true, Int.reduceToNat]
  (refine hK _ ?_)
  clear hK K
  refine AWP.seq ?_
  refine AWP.seq ?_
  refine AWP.regS G_ok spec_l03Two_DD hc (by kernel_rfl) (fun K hK => ?_); simp only [ea, gv, sv, D_spec_l01Dec, reduceCtorEq, reduceIte, Nat.reduceBEq, Nat.reduceAdd, Nat.reduceEqDiff, Nat.reduceLT, Nat.reduceLeDiff, Nat.reduceMul, Nat.reduceSub, BEq.rfl, beq_self_eq_true, Int.reduceToNat]
  (refine hK _ ?_)
  clear hK K
  refine AWP.cond rfl (fun hb => ?_) (fun hb => ?_)
  · (simp only [hb, cond_true] at hR)
    refine AWP.seq ?_
    refine AWP.regS G_ok spec_l03Two_DD hc (by kernel_rfl) (fun K hK => ?_); simp only [ea, gv, sv, D_spec_l01Dec, reduceCtorEq, reduceIte, Nat.reduceBEq, Nat.reduceAdd, Nat.reduceEqDiff, Nat.reduceLT, Nat.reduceLeDiff, Nat.reduceMul, Nat.reduceSub, BEq.rfl, beq_self_eq_true, Int.reduceToNat]
    (refine ⟨by (omega), hK _ ?_⟩)
    clear hK K
    refine AWP.ret ?_
    subst hR
    (simp only [en, si, ea, gv, sv, hk, reduceCtorEq, reduceIte, Nat.reduceBEq, Nat.reduceAdd, Nat.reduceEqDiff, Nat.reduceLT, Nat.reduceLeDiff, Nat.reduceMul, Nat.reduceSub, BEq.rfl, beq_self_eq_true, Int.reduceToNat]; done)
  · (simp only [hb, cond_false] at hR)
    refine AWP.skip ?_
    refine AWP.seq ?_
    refine AWP.regS G_ok spec_l03Two_DD hc (by kernel_rfl) (fun K hK => ?_); simp only [ea, gv, sv, D_spec_l01Dec, reduceCtorEq, reduceIte, Nat.reduceBEq, Nat.reduceAdd, Nat.reduceEqDiff, Nat.reduceLT, Nat.reduceLeDiff, Nat.reduceMul, Nat.reduceSub, BEq.rfl, beq_self_eq_true, Int.reduceToNat]
    (refine ⟨by (omega), hK _ ?_⟩)
    clear hK K
    refine AWP.ret ?_
    subst hR
    (simp only [en, si, ea, gv, sv, hk, reduceCtorEq, reduceIte, Nat.reduceBEq, Nat.reduceAdd, Nat.reduceEqDiff, Nat.reduceLT, Nat.reduceLeDiff, Nat.reduceMul, Nat.reduceSub, BEq.rfl, beq_self_eq_true, Int.reduceToNat]; done)
def D_spec_l03Two : DF
  | [x0] => some (.str (spec_l03Two (rdI x0)), false, [wI .i64 x0, 0 ≤ (rdI x0), (rdI x0) ≤ 1000])
  | _ => none
theorem D_spec_l03Two_ok : OkD Tryd.prog 38 D_spec_l03Two := by
  intro xs r z ob h ho
  unfold D_spec_l03Two at h
  split at h
  · simp only [Option.some.injEq, Prod.mk.injEq] at h
    obtain ⟨rfl, rfl, rfl⟩ := h
    obtain ⟨h0, hp0, hp1, _⟩ := ho
    exact Den.sim (spec_l03Two_den _ hp0 hp1) (simOL_cons (wI_sim h0).1 <| trivial) (noIdL_cons (wI_sim h0).2 <| rfl) rfl
  · cases h
end Go.Ab

namespace Go.Ab
open Go Go.Proofs
theorem spec_l03Two_len (a : Int) (h1 : 0 ≤ a) (h2 : a ≤ 1000) : (spec_l03Two a).length ≤ 2000 := by
  have hl := spec_l01Dec_len a (by omega) (by omega)
  unfold spec_l03Two
  cases decide (a < 10) <;> simp <;> omega
end Go.Ab

namespace Go.Ab
open Go Go.Proofs
theorem spec_l03Text_DD : DOk Tryd.prog (DD [(23, dP D_spec_l01Dec), (37, dP D_spec_l03Date), (38, dP D_spec_l03Two)]) := DD_cons D_spec_l01Dec_ok.e <| DD_cons D_spec_l03Date_ok.e <| DD_cons D_spec_l03Two_ok.e <| DD_nil _
def spec_l03Text (a0 : Int) : (List UInt8) :=
  ((((spec_l01Dec ((spec_l03Date a0).1)) ++ [45]) ++ (spec_l03Two ((spec_l03Date a0).2.1))) ++ [45]) ++ (spec_l03Two ((spec_l03Date a0).2.2))
theorem spec_l03Text_den (a0 : Int) (hp0 : 0 ≤ a0) (hp1 : a0 ≤ 99999) : Den Tryd.prog 30 [.int .i64 a0] (.str (spec_l03Text a0)) := by
  generalize hR : spec_l03Text a0 = r
  unfold spec_l03Text at hR
  refine den_intro G_ok Tryd.func30 (by kernel_rfl) rfl Tryd.ntmps30 (by rw [Tryd.results30]) (by simp) rfl ?_
  intro c hL hc hk
  clear hL
  simp only [pars, Nat.zero_add]
  refine AWP.seq ?_
  refine AWP.regS G_ok spec_l03Text_DD hc (by kernel_rfl) (fun K hK => ?_); simp only [ea, gv, sv, D_spec_l01Dec, D_spec_l03Date, D_spec_l03Two, reduceCtorEq, reduceIte, Nat.reduceBEq, Nat.reduceAdd, Nat.reduceEqDiff, Nat.reduceLT, Nat.reduceLeDiff, Nat.reduceMul, Nat.reduceSub, BEq.rfl, beq_self_eq_true, Int.reduceToNat]
  (refine hK _ ?_)
  clear hK K
  refine AWP.seq ?_
  refine AWP.regS G_ok spec_l03Text_DD hc (by kernel_rfl) (fun K hK => ?_); simp only [ea, gv, sv, D_spec_l01Dec, D_spec_l03Date, D_spec_l03Two, reduceCtorEq, reduceIte, Nat.reduceBEq, Nat.reduceAdd, Nat.reduceEqDiff, Nat.reduceLT, Nat.reduceLeDiff, Nat.reduceMul, Nat.reduceSub, BEq.rfl, beq_self_eq_true, Int.reduceToNat]
  (refine ⟨by ((have hr := spec_l03Date_rng a0 hp0 hp1; have l1 := spec_l01Dec_len (spec_l03Date a0).1 (by omega) (by omega); have l2 := spec_l03Two_len (spec_l03Date a0).2.1 (by omega) (by omega); have l3 := spec_l03Two_len (spec_l03Date a0).2.2 (by omega) (by omega); (try simp only [List.length_append, List.length_cons, List.length_nil]); omega)), hK _ ?_⟩)
  clear hK K
  refine AWP.seq ?_
  refine AWP.regS G_ok spec_l03Text_DD hc (by kernel_rfl) (fun K hK => ?_); simp only [ea, gv, sv, D_spec_l01Dec, D_spec_l03Date, D_spec_l03Two, reduceCtorEq, reduceIte, Nat.reduceBEq, Nat.reduceAdd, Nat.reduceEqDiff, Nat.reduceLT, Nat.reduceLeDiff, Nat.reduceMul, Nat.reduceSub, BEq.rfl, beq_self_eq_true, Int.reduceToNat]
  (refine ⟨by ((have hr := spec_l03Date_rng a0 hp0 hp1; have l1 := spec_l01Dec_len (spec_l03Date a0).1 (by omega) (by omega); have l2 := spec_l03Two_len (spec_l03Date a0).2.1 (by omega) (by omega); have l3 := spec_l03Two_len (spec_l03Date a0).2.2 (by omega) (by omega); (try simp only [List.length_append, List.length_cons, List.length_nil]); omega)), hK _ ?_⟩)
  clear hK K
  refine AWP.ret ?_
  subst hR
  (simp only [en, si, ea, gv, sv, hk, reduceCtorEq, reduceIte, Nat.reduceBEq, Nat.reduceAdd, Nat.reduceEqDiff, Nat.reduceLT, Nat.reduceLeDiff, Nat.reduceMul, Nat.reduceSub, BEq.rfl, beq_self_eq_true, Int.reduceToNat]; done)
def D_spec_l03Text : DF
  | [x0] => some (.str (spec_l03Text (rdI x0)), false, [wI .i64 x0, 0 ≤ (rdI x0), (rdI x0) ≤ 99999])
  | _ => none
theorem D_spec_l03Text_ok : OkD Tryd.prog 30 D_spec_l03Text := by
  intro xs r z ob h ho
  unfold D_spec_l03Text at h
  split at h
  · simp only [Option.some.injEq, Prod.mk.injEq] at h
    obtain ⟨rfl, rfl, rfl⟩ := h
    obtain ⟨h0, hp0, hp1, _⟩ := ho
    exact Den.sim (spec_l03Text_den _ hp0 hp1) (simOL_cons (wI_sim h0).1 <| trivial) (noIdL_cons (wI_sim h0).2 <| rfl) rfl
  · cases h
end Go.Ab

namespace Go.Ab
open Go Go.Proofs
theorem spec_l03Text_len (a : Int) (h1 : 0 ≤ a) (h2 : a ≤ 99999) : (spec_l03Text a).length ≤ 10000 := by
  have hr := spec_l03Date_rng a h1 h2
  have l1 := spec_l01Dec_len (spec_l03Date a).1 (by omega) (by omega)
  have l2 := spec_l03Two_len (spec_l03Date a).2.1 (by omega) (by omega)
  have l3 := spec_l03Two_len (spec_l03Date a).2.2 (by omega) (by omega)
  unfold spec_l03Text
  simp only [List.length_append, List.length_cons, List.length_nil]
  omega
end Go.Ab

namespace Go.Ab
open Go Go.Proofs
theorem spec_l29Text_DD : DOk Tryd.prog (DD [(23, dP D_spec_l01Dec), (30, dP D_spec_l03Text)]) := DD_cons D_spec_l01Dec_ok.e <| DD_cons D_spec_l03Text_ok.e <| DD_nil _
def spec_l29Text (a0 : Entry) : (List UInt8) :=
  ((((spec_l03Text a0.Day) ++ [32]) ++ a0.Item) ++ [32]) ++ (spec_l01Dec a0.Amount)
theorem spec_l29Text_den (a0 : Entry) (hb0 : bdEntry a0) (hp0 : 0 ≤ a0.Day) (hp1 : a0.Day ≤ 99999) (hp2 : -1000 ≤ a0.Amount) (hp3 : a0.Amount ≤ 1000) : Den Tryd.prog 17 [.ep (eEntry a0)] (.str (spec_l29Text a0)) := by
  generalize hR : spec_l29Text a0 = r
  unfold spec_l29Text at hR
  refine den_intro G_ok Tryd.func17 (by kernel_rfl) rfl Tryd.ntmps17 (by rw [Tryd.results17]) (by simp) rfl ?_
  intro c hL hc hk
  obtain ⟨hL0, _⟩ := hL
  have hw0 : bwEntry a0 := Entry_lens a0 hL0
  clear hL0
  simp only [pars, Nat.zero_add]
  refine AWP.seq ?_
  refine AWP.regS G_ok spec_l29Text_DD hc (by kernel_rfl) (fun K hK => ?_); simp only [ea, gv, sv, D_spec_l01Dec, D_spec_l03Text, reduceCtorEq, reduceIte, Nat.reduceBEq, Nat.reduceAdd, Nat.reduceEqDiff, Nat.reduceLT, Nat.reduceLeDiff, Nat.reduceMul, Nat.reduceSub, BEq.rfl, beq_self_eq_true, Int.reduceToNat]
  (refine hK _ ?_)
  clear hK K
  refine AWP.seq ?_
  refine AWP.regD mixed G_ok spec_l29Text_DD hc 18 (by kernel_rfl) (by kernel_rfl) (fun K hK => ?_); simp only [ea, gv, sv, D_spec_l01Dec, D_spec_l03Text, reduceCtorEq, reduceIte, Nat.reduceBEq, Nat.reduceAdd, Nat.reduceEqDiff, Nat.reduceLT, Nat.reduceLeDiff, Nat.reduceMul, Nat.reduceSub, BEq.rfl, beq_self_eq_true, Int.reduceToNat]
  (refine ⟨by ((have hb7 : a0.Item.length < 1099511627776 := (by have hb6 := hb0; simp only [bdv] at hb6; omega); have l1 := spec_l03Text_len a0.Day (by omega) (by omega); have l2 := spec_l01Dec_len a0.Amount (by omega) (by omega); (try simp only [List.length_append, List.length_cons, List.length_nil]); omega)), hK _ ?_⟩)
  clear hK K
  refine AWP.ret ?_
  subst hR
  (simp only [en, si, ea, gv, sv, hk, reduceCtorEq, reduceIte, Nat.reduceBEq, Nat.reduceAdd, Nat.reduceEqDiff, Nat.reduceLT, Nat.reduceLeDiff, Nat.reduceMul, Nat.reduceSub, BEq.rfl, beq_self_eq_true, Int.reduceToNat]; done)
def D_spec_l29Text : DF
  | [x0] => some (.str (spec_l29Text (rdP dEntry x0)), false, [wP eEntry dEntry x0, bdEntry (rdP dEntry x0), 0 ≤ (rdP dEntry x0).Day, (rdP dEntry x0).Day ≤ 99999, -1000 ≤ (rdP dEntry x0).Amount, (rdP dEntry x0).Amount ≤ 1000])
  | _ => none
theorem D_spec_l29Text_ok : OkD Tryd.prog 17 D_spec_l29Text := by
  intro xs r z ob h ho
  unfold D_spec_l29Text at h
  split at h
  · simp only [Option.some.injEq, Prod.mk.injEq] at h
    obtain ⟨rfl, rfl, rfl⟩ := h
    obtain ⟨h0, hb0, hp0, hp1, hp2, hp3, _⟩ := ho
    exact Den.sim (spec_l29Text_den _ hb0 hp0 hp1 hp2 hp3) (simOL_cons (wP_sim h0).1 <| trivial) (noIdL_cons (wP_sim h0).2 <| rfl) rfl
  · cases h
end Go.Ab

namespace Go.Ab
open Go Go.Proofs
theorem spec_l29Entry_rng (e : Entry) (h : spec_l29Entry e = true) : 0 ≤ e.Day ∧ e.Day ≤ 99999 ∧ -1000 ≤ e.Amount ∧ e.Amount ≤ 1000 := by
  simp only [spec_l29Entry, spec_l03Day, spec_l00In, Bool.and_eq_true, decide_eq_true_eq] at h
  omega
end Go.Ab

namespace Go.Ab
open Go Go.Proofs
theorem spec_EntryText_DD : DOk Tryd.prog (DD [(16, dP D_spec_l29Entry), (17, dP D_spec_l29Text)]) := DD_cons D_spec_l29Entry_ok.e <| DD_cons D_spec_l29Text_ok.e <| DD_nil _
def spec_EntryText (a0 : Entry) : (List UInt8) :=
  (bif (!(spec_l29Entry a0)) then [] else (spec_l29Text a0))
theorem spec_EntryText_den (a0 : Entry) (hb0 : bdEntry a0) : Den Tryd.prog 9 [.agg (eEntry a0)] (.str (spec_EntryText a0)) := by
  generalize hR : spec_EntryText a0 = r
  unfold spec_EntryText at hR
  refine den_intro G_ok Tryd.func9 (by kernel_rfl) rfl Tryd.ntmps9 (by rw [Tryd.results9]) (by simp) rfl ?_
  intro c hL hc hk
  obtain ⟨hL0, _⟩ := hL
  have hw0 : bwEntry a0 := Entry_lens a0 hL0
  clear hL0
  simp only [pars, Nat.zero_add]
  refine AWP.seq ?_
  refine AWP.regS G_ok spec_EntryText_DD hc (by kernel_rfl) (fun K hK => ?_); simp only [ea, gv, sv, D_spec_l29Entry, D_spec_l29Text, reduceCtorEq, reduceIte, Nat.reduceBEq, Nat.reduceAdd, Nat.reduceEqDiff, Nat.reduceLT, Nat.reduceLeDiff, Nat.reduceMul, Nat.reduceSub, BEq.rfl, beq_self_eq_true, Int.reduceToNat]
  (refine hK _ ?_)
  clear hK K
  refine AWP.seq ?_
  refine AWP.seq ?_
  refine AWP.regS G_ok spec_EntryText_DD hc (by kernel_rfl) (fun K hK => ?_); simp only [ea, gv, sv, D_spec_l29Entry, D_spec_l29Text, reduceCtorEq, reduceIte, Nat.reduceBEq, Nat.reduceAdd, Nat.reduceEqDiff, Nat.reduceLT, Nat.reduceLeDiff, Nat.reduceMul, Nat.reduceSub, BEq.rfl, beq_self_eq_true, Int.reduceToNat]
  (refine hK _ ?_)
  clear hK K
  refine AWP.cond rfl (fun hb => ?_) (fun hb => ?_)
  · (simp only [hb, cond_true] at hR)
    refine AWP.seq ?_
    refine AWP.regS G_ok spec_EntryText_DD hc (by kernel_rfl) (fun K hK => ?_); simp only [ea, gv, sv, D_spec_l29Entry, D_spec_l29Text, reduceCtorEq, reduceIte, Nat.reduceBEq, Nat.reduceAdd, Nat.reduceEqDiff, Nat.reduceLT, Nat.reduceLeDiff, Nat.reduceMul, Nat.reduceSub, BEq.rfl, beq_self_eq_true, Int.reduceToNat]
    (refine hK _ ?_)
    clear hK K
    refine AWP.ret ?_
    subst hR
    (simp only [en, si, ea, gv, sv, hk, reduceCtorEq, reduceIte, Nat.reduceBEq, Nat.reduceAdd, Nat.reduceEqDiff, Nat.reduceLT, Nat.reduceLeDiff, Nat.reduceMul, Nat.reduceSub, BEq.rfl, beq_self_eq_true, Int.reduceToNat]; done)
  · (simp only [hb, cond_false] at hR)
    refine AWP.skip ?_
    refine AWP.seq ?_
    refine AWP.regS G_ok spec_EntryText_DD hc (by kernel_rfl) (fun K hK => ?_); simp only [ea, gv, sv, D_spec_l29Entry, D_spec_l29Text, reduceCtorEq, reduceIte, Nat.reduceBEq, Nat.reduceAdd, Nat.reduceEqDiff, Nat.reduceLT, Nat.reduceLeDiff, Nat.reduceMul, Nat.reduceSub, BEq.rfl, beq_self_eq_true, Int.reduceToNat]
    (refine ⟨by ((have h9 := spec_l29Entry_rng a0 (by simpa using hb); and_intros <;> omega)), hK _ ?_⟩)
    clear hK K
    refine AWP.ret ?_
    subst hR
    (simp only [en, si, ea, gv, sv, hk, reduceCtorEq, reduceIte, Nat.reduceBEq, Nat.reduceAdd, Nat.reduceEqDiff, Nat.reduceLT, Nat.reduceLeDiff, Nat.reduceMul, Nat.reduceSub, BEq.rfl, beq_self_eq_true, Int.reduceToNat]; done)
def D_spec_EntryText : DF
  | [x0] => some (.str (spec_EntryText (rdG dEntry x0)), false, [wG eEntry dEntry x0, bdEntry (rdG dEntry x0)])
  | _ => none
theorem D_spec_EntryText_ok : OkD Tryd.prog 9 D_spec_EntryText := by
  intro xs r z ob h ho
  unfold D_spec_EntryText at h
  split at h
  · simp only [Option.some.injEq, Prod.mk.injEq] at h
    obtain ⟨rfl, rfl, rfl⟩ := h
    obtain ⟨h0, hb0, _⟩ := ho
    exact Den.sim (spec_EntryText_den _ hb0) (simOL_cons (wG_sim h0).1 <| trivial) (noIdL_cons (wG_sim h0).2 <| rfl) rfl
  · cases h
end Go.Ab

namespace Go.Ab
open Go Go.Proofs
theorem laws_szEntry_le (x : Entry) (n : Int) (h0 : -1 ≤ n) (h1 : n ≤ 1048576) (hx : bwEntry x) : -1 ≤ laws_szEntry x n ∧ laws_szEntry x n ≤ n := by
  have hx2 : x.Item.length < 9223372036854775808 := hx
  unfold laws_szEntry
  rw [IntKind.wrap_i64]
  cases hd : decide ((n - (x.Item.length : Int) + 9223372036854775808) % 18446744073709551616 - 9223372036854775808 < 0) with
  | true => simp; omega
  | false =>
    simp only [cond_false]
    have := of_decide_eq_false hd
    omega
theorem laws_szEntry_bd (x : Entry) (n : Int) (h0 : -1 ≤ n) (h1 : n ≤ 1048576) (hx : bwEntry x) (h : ¬ laws_szEntry x n < 0) : bdEntry x := by
  have hx2 : x.Item.length < 9223372036854775808 := hx
  unfold laws_szEntry at h
  rw [IntKind.wrap_i64] at h
  cases hd : decide ((n - (x.Item.length : Int) + 9223372036854775808) % 18446744073709551616 - 9223372036854775808 < 0) with
  | true => rw [hd] at h; simp at h
  | false =>
    have := of_decide_eq_false hd
    show x.Item.length < 1099511627776
    omega
theorem laws_szEntry_facts (x : Entry) (n : Int) (h0 : -1 ≤ n) (h1 : n ≤ 1048576) (hx : bwEntry x) : -1 ≤ laws_szEntry x n ∧ laws_szEntry x n ≤ n ∧ (¬ laws_szEntry x n < 0 → bdEntry x) :=
  ⟨(laws_szEntry_le x n h0 h1 hx).1, (laws_szEntry_le x n h0 h1 hx).2, laws_szEntry_bd x n h0 h1 hx⟩
end Go.Ab

namespace Go.Ab
open Go Go.Proofs
theorem laws_FnExactEntryText_DD : DOk Tryd.prog (DD [(10, dP D_laws_toEntry), (11, dP D_impl_EntryText), (8, dP D_laws_szEntry), (9, dP D_spec_EntryText)]) := DD_cons D_laws_toEntry_ok.e <| DD_cons D_impl_EntryText_ok.e <| DD_cons D_laws_szEntry_ok.e <| DD_cons D_spec_EntryText_ok.e <| DD_nil _
def laws_FnExactEntryText (a0 : Entry) : Bool :=
  (bif decide ((laws_szEntry a0 1048576) < 0) then true else (bif ((impl_EntryText (laws_toEntry a0)) != (spec_EntryText (laws_toEntry a0))) then false else true))
theorem laws_FnExactEntryText_den (a0 : Entry)  : Den Tryd.prog 4 [.agg (eEntry a0)] (.bool (laws_FnExactEntryText a0)) := by
  generalize hR : laws_FnExactEntryText a0 = r
  unfold laws_FnExactEntryText at hR
  refine den_intro G_ok Tryd.func4 (by kernel_rfl) rfl Tryd.ntmps4 (by rw [Tryd.results4]) (by simp) rfl ?_
  intro c hL hc hk
  obtain ⟨hL0, _⟩ := hL
  have hw0 : bwEntry a0 := Entry_lens a0 hL0
  clear hL0
  simp only [pars, Nat.zero_add]
  have hf0 := laws_szEntry_facts a0 (1048576) (by omega) (by omega) hw0
  refine AWP.seq ?_
  refine AWP.regS G_ok laws_FnExactEntryText_DD hc (by kernel_rfl) (fun K hK => ?_); simp only [ea, gv, sv, D_laws_toEntry, D_impl_EntryText, D_laws_szEntry, D_spec_EntryText, reduceCtorEq, reduceIte, Nat.reduceBEq, Nat.reduceAdd, Nat.reduceEqDiff, Nat.reduceLT, Nat.reduceLeDiff, Nat.reduceMul, Nat.reduceSub, BEq.rfl, beq_self_eq_true, Int.reduceToNat]
  (refine hK _ ?_)
  clear hK K
  refine AWP.seq ?_
  refine AWP.regS G_ok laws_FnExactEntryText_DD hc (by kernel_rfl) (fun K hK => ?_); simp only [ea, gv, sv, D_laws_toEntry, D_impl_EntryText, D_laws_szEntry, D_spec_EntryText, reduceCtorEq, reduceIte, Nat.reduceBEq, Nat.reduceAdd, Nat.reduceEqDiff, Nat.reduceLT, Nat.reduceLeDiff, Nat.reduceMul, Nat.reduceSub, BEq.rfl, beq_self_eq_true, Int.reduceToNat]
  (refine hK _ ?_)
  clear hK K
  refine AWP.seq ?_
  refine AWP.regS G_ok laws_FnExactEntryText_DD hc (by kernel_rfl) (fun K hK => ?_); simp only [ea, gv, sv, D_laws_toEntry, D_impl_EntryText, D_laws_szEntry, D_spec_EntryText, reduceCtorEq, reduceIte, Nat.reduceBEq, Nat.reduceAdd, Nat.reduceEqDiff, Nat.reduceLT, Nat.reduceLeDiff, Nat.reduceMul, Nat.reduceSub, BEq.rfl, beq_self_eq_true, Int.reduceToNat]
  (refine ⟨by (trivial), hK _ ?_⟩)
  clear hK K
  refine AWP.seq ?_
  refine AWP.seq ?_
  refine AWP.regS G_ok laws_FnExactEntryText_DD hc (by kernel_rfl) (fun K hK => ?_); simp only [ea, gv, sv, D_laws_toEntry, D_impl_EntryText, D_laws_szEntry, D_spec_EntryText, reduceCtorEq, reduceIte, Nat.reduceBEq, Nat.reduceAdd, Nat.reduceEqDiff, Nat.reduceLT, Nat.reduceLeDiff, Nat.reduceMul, Nat.reduceSub, BEq.rfl, beq_self_eq_true, Int.reduceToNat]
  (refine hK _ ?_)
  clear hK K
  refine AWP.cond rfl (fun hb => ?_) (fun hb => ?_)
  · (simp only [hb, cond_true] at hR)
    refine AWP.seq ?_
    refine AWP.regS G_ok laws_FnExactEntryText_DD hc (by kernel_rfl) (fun K hK => ?_); simp only [ea, gv, sv, D_laws_toEntry, D_impl_EntryText, D_laws_szEntry, D_spec_EntryText, reduceCtorEq, reduceIte, Nat.reduceBEq, Nat.reduceAdd, Nat.reduceEqDiff, Nat.reduceLT, Nat.reduceLeDiff, Nat.reduceMul, Nat.reduceSub, BEq.rfl, beq_self_eq_true, Int.reduceToNat]
    (refine hK _ ?_)
    clear hK K
    refine AWP.ret ?_
    subst hR
    (simp only [en, si, ea, gv, sv, hk, reduceCtorEq, reduceIte, Nat.reduceBEq, Nat.reduceAdd, Nat.reduceEqDiff, Nat.reduceLT, Nat.reduceLeDiff, Nat.reduceMul, Nat.reduceSub, BEq.rfl, beq_self_eq_true, Int.reduceToNat]; done)
  · (simp only [hb, cond_false] at hR)
    refine AWP.skip ?_
    refine AWP.seq ?_
    refine AWP.regS G_ok laws_FnExactEntryText_DD hc (by kernel_rfl) (fun K hK => ?_); simp only [ea, gv, sv, D_laws_toEntry, D_impl_EntryText, D_laws_szEntry, D_spec_EntryText, reduceCtorEq, reduceIte, Nat.reduceBEq, Nat.reduceAdd, Nat.reduceEqDiff, Nat.reduceLT, Nat.reduceLeDiff, Nat.reduceMul, Nat.reduceSub, BEq.rfl, beq_self_eq_true, Int.reduceToNat]
    (refine ⟨by ((simp only [ob, ln, bdv, laws_toEntry, sv] at *; omega)), hK _ ?_⟩)
    clear hK K
    refine AWP.seq ?_
    refine AWP.regS G_ok laws_FnExactEntryText_DD hc (by kernel_rfl) (fun K hK => ?_); simp only [ea, gv, sv, D_laws_toEntry, D_impl_EntryText, D_laws_szEntry, D_spec_EntryText, reduceCtorEq, reduceIte, Nat.reduceBEq, Nat.reduceAdd, Nat.reduceEqDiff, Nat.reduceLT, Nat.reduceLeDiff, Nat.reduceMul, Nat.reduceSub, BEq.rfl, beq_self_eq_true, Int.reduceToNat]
    (refine ⟨by ((simp only [ob, ln, bdv, laws_toEntry, sv] at *; omega)), hK _ ?_⟩)
    clear hK K
    refine AWP.seq ?_
    refine AWP.seq ?_
    refine AWP.regS G_ok laws_FnExactEntryText_DD hc (by kernel_rfl) (fun K hK => ?_); simp only [ea, gv, sv, D_laws_toEntry, D_impl_EntryText, D_laws_szEntry, D_spec_EntryText, reduceCtorEq, reduceIte, Nat.reduceBEq, Nat.reduceAdd, Nat.reduceEqDiff, Nat.reduceLT, Nat.reduceLeDiff, Nat.reduceMul, Nat.reduceSub, BEq.rfl, beq_self_eq_true, Int.reduceToNat]
    (refine hK _ ?_)
    clear hK K
    refine AWP.cond rfl (fun hb => ?_) (fun hb => ?_)
    · (simp only [hb, cond_true] at hR)
      refine AWP.seq ?_
      refine AWP.regS G_ok laws_FnExactEntryText_DD hc (by kernel_rfl) (fun K hK => ?_); simp only [ea, gv, sv, D_laws_toEntry, D_impl_EntryText, D_laws_szEntry, D_spec_EntryText, reduceCtorEq, reduceIte, Nat.reduceBEq, Nat.reduceAdd, Nat.reduceEqDiff, Nat.reduceLT, Nat.reduceLeDiff, Nat.reduceMul, Nat.reduceSub, BEq.rfl, beq_self_eq_true, Int.reduceToNat]
      (refine hK _ ?_)
      clear hK K
      refine AWP.ret ?_
      subst hR
      (simp only [en, si, ea, gv, sv, hk, reduceCtorEq, reduceIte, Nat.reduceBEq, Nat.reduceAdd, Nat.reduceEqDiff, Nat.reduceLT, Nat.reduceLeDiff, Nat.reduceMul, Nat.reduceSub, BEq.rfl, beq_self_eq_true, Int.reduceToNat]; done)
    · (simp only [hb, cond_false] at hR)
      refine AWP.skip ?_
      refine AWP.seq ?_
      refine AWP.regS G_ok laws_FnExactEntryText_DD hc (by kernel_rfl) (fun K hK => ?_); simp only [ea, gv, sv, D_laws_toEntry, D_impl_EntryText, D_laws_szEntry, D_spec_EntryText, reduceCtorEq, reduceIte, Nat.reduceBEq, Nat.reduceAdd, Nat.reduceEqDiff, Nat.reduceLT, Nat.reduceLeDiff, Nat.reduceMul, Nat.reduceSub, BEq.rfl, beq_self_eq_true, Int.reduceToNat]
      (refine hK _ ?_)
      clear hK K
      refine AWP.ret ?_
      subst hR
      (simp only [en, si, ea, gv, sv, hk, reduceCtorEq, reduceIte, Nat.reduceBEq, Nat.reduceAdd, Nat.reduceEqDiff, Nat.reduceLT, Nat.reduceLeDiff, Nat.reduceMul, Nat.reduceSub, BEq.rfl, beq_self_eq_true, Int.reduceToNat]; done)
def D_laws_FnExactEntryText : DF
  | [x0] => some (.bool (laws_FnExactEntryText (rdG dEntry x0)), false, [wG eEntry dEntry x0])
  | _ => none
theorem D_laws_FnExactEntryText_ok : OkD Tryd.prog 4 D_laws_FnExactEntryText := by
  intro xs r z ob h ho
  unfold D_laws_FnExactEntryText at h
  split at h
  · simp only [Option.some.injEq, Prod.mk.injEq] at h
    obtain ⟨rfl, rfl, rfl⟩ := h
    obtain ⟨h0, _⟩ := ho
    exact Den.sim (laws_FnExactEntryText_den _ ) (simOL_cons (wG_sim h0).1 <| trivial) (noIdL_cons (wG_sim h0).2 <| rfl) rfl
  · cases h
end Go.Ab

namespace Go.Ab
open Go Go.Proofs
theorem itoa_small (n : Int) (h1 : 0 ≤ n) (h2 : n < 100) : (Go.Lib.itoa n).length = if n < 10 then 1 else 2 := by
  unfold Go.Lib.itoa
  rw [if_neg (by omega), Go.Lib.decDigits]
  by_cases h : n < 10
  · rw [dif_pos (by omega), if_pos h]; rfl
  · rw [dif_neg (by omega), if_neg h, Go.Lib.decDigits, dif_pos (by omega)]; rfl
theorem padded_eq (n : Int) (h1 : 0 ≤ n) (h2 : n < 100) : impl_padded n 2 = spec_l03Two n := by
  unfold impl_padded spec_l03Two
  have hl := itoa_small n h1 h2
  rw [impl_Decimal_eq, spec_l01Dec_eq n (by omega) (by omega)]
  by_cases h : n < 10
  · rw [if_pos h] at hl
    rw [hl]
    simp only [h, decide_true, cond_true]
    rfl
  · rw [if_neg h] at hl
    rw [hl]
    simp only [h, decide_false, cond_false]
    rfl
theorem dateText_eq (a : Int) (h1 : 0 ≤ a) (h2 : a ≤ 99999) : impl_DateText a = spec_l03Text a := by
  obtain ⟨y, m, d, e1, e2, hr⟩ := date_eq a h1 h2
  unfold impl_DateText spec_l03Text impl_isDay impl_within
  simp only [h1, h2, decide_true, Bool.and_self, Bool.not_true, cond_false, e1, e2]
  rw [impl_Decimal_eq, spec_l01Dec_eq y (by omega) (by omega), padded_eq m (by omega) (by omega), padded_eq d (by omega) (by omega)]
end Go.Ab

namespace Go.Ab
open Go Go.Proofs
theorem loopF_iff {b : Nat → Unit → Except Bool Unit} {n : Nat} {p : Nat → Bool} {x : Bool} (hb : ∀ j u, j < n → b j u = bif p j then .error false else .ok ()) :
    ((match loopR b (n - 0) 0 () with | .error e => e | .ok _ => x) = true) ↔ (∀ j, j < n → p j = false) ∧ x = true := by
  rw [loopR_any (b := b) p false (fun j u _ h => hb j u (by omega))]
  simp only [Nat.sub_zero, Nat.zero_add]
  cases h : (List.range n).any (fun j => p j) with
  | true =>
    simp only [cond_true]
    obtain ⟨j, h1, h2⟩ := List.any_eq_true.1 h
    constructor
    · intro h; cases h
    · rintro ⟨h3, _⟩; rw [h3 j (List.mem_range.1 h1)] at h2; cases h2
  | false =>
    simp only [cond_false]
    rw [List.any_eq_false] at h
    exact ⟨fun hx => ⟨fun j hj => by simpa using h j (List.mem_range.2 hj), hx⟩, fun hx => hx.2⟩
theorem isName_iff (a : List UInt8) : impl_IsName a = true ↔ a ≠ [] ∧ a.length ≤ 10 ∧ ∀ j, j < a.length → ((97 ≤ (a.getD j 0).toNat ∧ (a.getD j 0).toNat ≤ 122) ∨ (j ≠ 0 ∧ 48 ≤ (a.getD j 0).toNat ∧ (a.getD j 0).toNat ≤ 57)) := by
  unfold impl_IsName
  refine (loopF_iff (n := a.length) (p := fun j => _) (fun j u _ => by rfl)).trans ?_
  simp only [impl_few, impl_isDigit, Bool.and_eq_true, bne_iff_ne, decide_eq_true_eq]
  constructor
  · rintro ⟨h1, h2, h3⟩
    refine ⟨h2, by omega, fun j hj => ?_⟩
    have := h1 j hj
    simp [-List.getD_eq_getElem?_getD] at this
    omega
  · rintro ⟨h2, h3, h1⟩
    refine ⟨fun j hj => ?_, h2, by omega⟩
    have := h1 j hj
    simp [-List.getD_eq_getElem?_getD]
    omega
theorem l01Name_iff (a : List UInt8) : spec_l01Name a = true ↔ a ≠ [] ∧ a.length ≤ 10 ∧ ∀ j, j < a.length → ((97 ≤ (a.getD j 0).toNat ∧ (a.getD j 0).toNat ≤ 122) ∨ (j ≠ 0 ∧ 48 ≤ (a.getD j 0).toNat ∧ (a.getD j 0).toNat ≤ 57)) := by
  unfold spec_l01Name
  by_cases hn : a = []
  · subst hn; simp
  by_cases h10 : 10 < a.length
  · have : ((a == []) || decide (10 < (a.length : Int))) = true := by simp; right; omega
    rw [this]; simp; omega
  have hp : 0 < a.length := by cases a <;> simp_all
  have : ((a == []) || decide (10 < (a.length : Int))) = false := by simp; exact ⟨hn, by omega⟩
  rw [this]
  by_cases hs : spec_l01Small ((a.getD 0 0).toNat : Int) = true
  · rw [hs]
    refine (loopF_iff (n := a.length) (p := fun j => _) (fun j u _ => by rfl)).trans ?_
    simp only [spec_l01Small, Bool.and_eq_true, decide_eq_true_eq] at hs
    constructor
    · rintro ⟨h1, _⟩
      refine ⟨hn, by omega, fun j hj => ?_⟩
      have := h1 j hj
      simp [spec_l01Small, spec_l01Digit, -List.getD_eq_getElem?_getD] at this
      by_cases hj0 : j = 0
      · subst hj0; omega
      · omega
    · rintro ⟨_, _, h1⟩
      refine ⟨fun j hj => ?_, rfl⟩
      have := h1 j hj
      simp [spec_l01Small, spec_l01Digit, -List.getD_eq_getElem?_getD]
      omega
  · have hs' : spec_l01Small ((a.getD 0 0).toNat : Int) = false := by simpa using hs
    rw [hs']
    simp only [Bool.not_false, Bool.or_true, cond_true]
    constructor
    · intro h; cases h
    · rintro ⟨_, _, h1⟩
      have := h1 0 hp
      exfalso
      apply hs
      simp [spec_l01Small, -List.getD_eq_getElem?_getD]
      simp [-List.getD_eq_getElem?_getD] at this
      omega
theorem name_eq (a : List UInt8) : impl_IsName a = spec_l01Name a := Bool.eq_iff_iff.2 ((isName_iff a).trans (l01Name_iff a).symm)
end Go.Ab

namespace Go.Ab
open Go Go.Proofs
theorem entryOk_eq (e : Entry) : impl_isEntry e = spec_l29Entry e := by
  unfold impl_isEntry spec_l29Entry
  rw [name_eq]; rfl
theorem entryText_eq (e : Entry) : impl_EntryText e = spec_EntryText e := by
  unfold impl_EntryText spec_EntryText
  rw [entryOk_eq]
  cases h1 : spec_l29Entry e with
  | false => rfl
  | true =>
    have hr := spec_l29Entry_rng e h1
    simp only [Bool.not_true, cond_false]
    unfold spec_l29Text
    rw [dateText_eq _ (by omega) (by omega), spec_l01Dec_eq _ (by omega) (by omega), impl_Decimal_eq]
theorem law_EntryText (a0 : Entry) (hf : bwEntry a0) : laws_FnExactEntryText a0 = true := by
  unfold laws_FnExactEntryText
  rw [entryText_eq]
  simp
end Go.Ab

namespace Go.Ab
open Go Go.Proofs Go.Deep Go.ChangeShapes Go.WideShapes Go.ChangeAt Go.RowKit
set_option maxRecDepth 100000
theorem rdT23 : Rd Tryd.prog 23 eVisit := by
  intro H enc W base sp hd fuel cs x h
  obtain ⟨hl, hf⟩ := rd_fields Tryd.underlying23 h
  have e0 : Tryd.prog.cellsOf 23 = 3 := by kernel_rfl
  rw [e0] at hl
  obtain ⟨n0, y0, g0⟩ := hf 0 _ rfl
  have c0 : Tryd.prog.cellsOf 2 = 1 := by kernel_rfl
  obtain ⟨v0, r0, o0⟩ := (rd_int (k := .i64) Tryd.underlying2) g0
  replace r0 : RepL W (fun _ => False) ([.int .i64 v0]) noMap ((cs.drop 0).take (Tryd.prog.cellsOf 2)) [] := r0
  replace o0 : ∀ u ∈ (cs.drop 0).take (Tryd.prog.cellsOf 2), u.oneCell' = true := o0
  rw [c0] at r0 o0
  obtain ⟨n1, y1, g1⟩ := hf 1 _ rfl
  have c1 : Tryd.prog.cellsOf 2 = 1 := by kernel_rfl
  obtain ⟨v1, r1, o1⟩ := (rd_int (k := .i64) Tryd.underlying2) g1
  replace r1 : RepL W (fun _ => False) ([.int .i64 v1]) noMap ((cs.drop 1).take (Tryd.prog.cellsOf 2)) [] := r1
  replace o1 : ∀ u ∈ (cs.drop 1).take (Tryd.prog.cellsOf 2), u.oneCell' = true := o1
  rw [c1] at r1 o1
  obtain ⟨n2, y2, g2⟩ := hf 2 _ rfl
  have c2 : Tryd.prog.cellsOf 2 = 1 := by kernel_rfl
  obtain ⟨v2, r2, o2⟩ := (rd_int (k := .i64) Tryd.underlying2) g2
  replace r2 : RepL W (fun _ => False) ([.int .i64 v2]) noMap ((cs.drop 2).take (Tryd.prog.cellsOf 2)) [] := r2
  replace o2 : ∀ u ∈ (cs.drop 2).take (Tryd.prog.cellsOf 2), u.oneCell' = true := o2
  rw [c2] at r2 o2
  refine ⟨⟨v0, v1, v2⟩, ?_, ?_⟩
  · exact split_rep (o := 0) (k := 1) r0 (split_rep (o := 1) (k := 1) r1 (split_rep (o := 2) (k := 1) r2 (end_rep (o := 3) (by omega))))
  · exact split_one (o := 0) (k := 1) o0 (split_one (o := 1) (k := 1) o1 (split_one (o := 2) (k := 1) o2 (end_one (o := 3) (by omega))))
theorem rdT29 : Rd Tryd.prog 29 eEntry := by
  intro H enc W base sp hd fuel cs x h
  obtain ⟨hl, hf⟩ := rd_fields Tryd.underlying29 h
  have e0 : Tryd.prog.cellsOf 29 = 3 := by kernel_rfl
  rw [e0] at hl
  obtain ⟨n0, y0, g0⟩ := hf 0 _ rfl
  have c0 : Tryd.prog.cellsOf 2 = 1 := by kernel_rfl
  obtain ⟨v0, r0, o0⟩ := (rd_int (k := .i64) Tryd.underlying2) g0
  replace r0 : RepL W (fun _ => False) ([.int .i64 v0]) noMap ((cs.drop 0).take (Tryd.prog.cellsOf 2)) [] := r0
  replace o0 : ∀ u ∈ (cs.drop 0).take (Tryd.prog.cellsOf 2), u.oneCell' = true := o0
  rw [c0] at r0 o0
  obtain ⟨n1, y1, g1⟩ := hf 1 _ rfl
  have c1 : Tryd.prog.cellsOf 9 = 1 := by kernel_rfl
  obtain ⟨v1, r1, o1⟩ := (rd_str Tryd.underlying9) g1
  replace r1 : RepL W (fun _ => False) ([.str v1]) noMap ((cs.drop 1).take (Tryd.prog.cellsOf 9)) [] := r1
  replace o1 : ∀ u ∈ (cs.drop 1).take (Tryd.prog.cellsOf 9), u.oneCell' = true := o1
  rw [c1] at r1 o1
  obtain ⟨n2, y2, g2⟩ := hf 2 _ rfl
  have c2 : Tryd.prog.cellsOf 2 = 1 := by kernel_rfl
  obtain ⟨v2, r2, o2⟩ := (rd_int (k := .i64) Tryd.underlying2) g2
  replace r2 : RepL W (fun _ => False) ([.int .i64 v2]) noMap ((cs.drop 2).take (Tryd.prog.cellsOf 2)) [] := r2
  replace o2 : ∀ u ∈ (cs.drop 2).take (Tryd.prog.cellsOf 2), u.oneCell' = true := o2
  rw [c2] at r2 o2
  refine ⟨⟨v0, v1, v2⟩, ?_, ?_⟩
  · exact split_rep (o := 0) (k := 1) r0 (split_rep (o := 1) (k := 1) r1 (split_rep (o := 2) (k := 1) r2 (end_rep (o := 3) (by omega))))
  · exact split_one (o := 0) (k := 1) o0 (split_one (o := 1) (k := 1) o1 (split_one (o := 2) (k := 1) o2 (end_one (o := 3) (by omega))))
end Go.Ab
