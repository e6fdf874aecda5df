/- A part of a proof: walks of functions and lemmas of our own. No conditions. -/
import Derived.Test.YtaneiddiakjgdaaGreatDoorVAl
import Derived.Test.YtaneiddiakjgdaaGreatDoorVAi
import Derived.Test.YtaneiddiakjgdaaGreatDoorVAr
import Derived.Test.YtaneiddiakjgdaaGreatDoorVAq
set_option linter.unusedSectionVars false
set_option linter.unusedVariables false
set_option linter.unusedSimpArgs false
set_option maxHeartbeats 1000000
namespace Go.Ab
open Go Go.Proofs
def zhe (a0 : Notice) (a1 : Notice) : Bool :=
 (a0.Number == a1.Target)
namespace N178
theorem DD : DOk Tryz.prog (Go.Ab.DD []) := DD_nil _
theorem den (a0 : Notice) (a1 : Notice)  : Den Tryz.prog 178 [.agg (eNotice a0), .ep (eNotice a1)] (.bool (zhe a0 a1)) := by
 generalize hR : zhe a0 a1 = r
 unfold zhe at hR
 refine di Tryz.func178 Tryz.ntmps178 Tryz.results178 ?_
 intro c hL hc hk
 obtain ⟨hL0, hL1, _⟩ := hL
 have hw0 : bwNotice a0 := Notice_lens a0 hL0
 have hw1 : bwNotice a1 := Notice_lens a1 hL1
 clear hL0 hL1
 simp only [pars, Nat.zero_add]
 iterate 2 refine rS ?_
 refine AWP.ret ?_
 subst hR
 exact es
end N178
def D_zhe : DF
 | [x0, x1] => some (.bool (zhe (rdG dNotice x0) (rdP dNotice x1)), false, [wG eNotice dNotice x0, wP eNotice dNotice x1])
 | _ => none
theorem D_zhe_ok : OkD Tryz.prog 178 D_zhe := by unfold D_zhe; exact dk N178.den
end Go.Ab

namespace Go.Ab
open Go Go.Proofs
def zlb_b1 (a0 : (List Notice)) (a1 : Notice) (i1 : Nat) (s1 : Unit) : Except (Int) (Unit) :=
 (bif (zhe (a0.getD i1 default) a1) then .error (i1 : Int) else .ok ())
def zlb (a0 : (List Notice)) (a1 : Notice) : Int :=
 (match loopR (zlb_b1 a0 a1) (a0.length - 0) 0 () with | .error e => e | .ok s1 => (-1))
namespace N_zlb
theorem DD : DOk Tryz.prog (Go.Ab.DD [(178, dP D_zhe)]) := DD_cons D_zhe_ok.e <| DD_nil _
theorem dn : type_of% (@D_zhe.eq_1) := by and_intros <;> intros <;> rfl
theorem den (a0 : (List Notice)) (a1 : Notice)  : Den Tryz.prog 177 [encL 20 eNotice a0, .fn 178 0 [.ep (eNotice a1)]] (.int .i64 (zlb a0 a1)) := by
 generalize hR : zlb a0 a1 = r
 unfold zlb at hR
 refine di Tryz.func177 Tryz.ntmps177 Tryz.results177 ?_
 intro c hL hc hk
 obtain ⟨hL0, hL1, _⟩ := hL
 have hw0 : a0.length < 9223372036854775808 := Nat.lt_succ_of_le (lens_encL hL0).1
 have hw1 : ∀ v ∈ a0, bwNotice v := fun v hv => Notice_lens v ((lens_encL hL0).2 v hv)
 have hw2 : bwNotice a1 := Notice_lens a1 hL1.1
 clear hL0 hL1
 simp only [pars, Nat.zero_add]
 iterate 2 refine rS ?_
 refine AWP.block ?_
 generalize hz1 : loopR (zlb_b1 a0 a1) (a0.length - 0) 0 () = z1 at hR
 refine AWP.range (zlb_b1 a0 a1) (fun i1 s1 => ⟨[(0, encL 20 eNotice a0), (1, .fn 178 0 [.ep (eNotice a1)]), (7, .int .i64 (a0.length : Int)), (8, .int .i64 (i1 : Int))], []⟩) (fun i1 s1 => True) (a0.length) 0 () [] hz1 ot wt sm ?_
 clear hz1
 intro i1 s1 hi1 hW1 hz1
 refine rS ?_
 refine AWP.seq ?_
 refine AWP.cond rfl (fun hb => ?_) (fun hb => ?_)
 ·have hlt1 : i1 < a0.length := ot
  rw [loopR_lt hlt1] at hz1; simp only [zlb_b1] at hz1
  iterate 2 refine rS ?_
  refine AWP.cond rfl (fun hb => ?_) (fun hb => ?_)
  ·simp only [hb, cond_true] at hz1
   refine rS ?_
   refine AWP.ret ?_
   subst hz1
   dsimp only at hR
   subst hR
   exact es
  ·simp only [hb, cond_false] at hz1
   refine rS ?_
   exact ⟨_, [], hlt1, wt, hz1, sm⟩
 ·obtain rfl : i1 = a0.length := ot
  rw [loopR_ge (Nat.le_refl _)] at hz1; subst hz1; dsimp only at hR
  refine AWP.exit ?_; refine exitTo_here ?_
  refine rS ?_
  refine AWP.ret ?_
  subst hR
  exact es
end N_zlb
def D_zlb : DF
 | [x0, (.fn f178_2 kf178_2 [y1])] => some (.int .i64 (zlb (rdL dNotice x0) (rdP dNotice y1)), false, [wL 20 eNotice dNotice x0, y1 = .ep (eNotice (rdP dNotice y1)), f178_2 = 178, kf178_2 = 0])
 | _ => none
theorem D_zlb_ok : OkD Tryz.prog 177 D_zlb := by
 intro xs r z ob h ho
 unfold D_zlb at h
 split at h
 ·simp only [Option.some.injEq, Prod.mk.injEq] at h
  obtain ⟨rfl, rfl, rfl⟩ := h
  obtain ⟨h0, qy1, qf178_2, qkf178_2, _⟩ := ho
  exact Den.sim (N_zlb.den _ _ ) (simOL_cons (wL_sim h0).1 <| simOL_cons (by subst qf178_2 qkf178_2; rw [← qy1]; exact simO_refl _) <| trivial) (noIdL_cons (wL_sim h0).2 <| noIdL_cons (by rw [qy1]; rfl) <| rfl) rfl
 ·cases h
end Go.Ab

namespace Go.Ab
open Go Go.Proofs
theorem zlb_first (a0 : List Notice) (a1 : Notice) : (∃ j, j < a0.length ∧ (zhe (a0.getD j default) a1) = true ∧ (∀ q, q < j → (zhe (a0.getD q default) a1) = false) ∧ zlb a0 a1 = (j : Int)) ∨ ((∀ q, q < a0.length → (zhe (a0.getD q default) a1) = false) ∧ zlb a0 a1 = -1) := by
 unfold zlb
 rcases loopR_first (b := zlb_b1 a0 a1) (fun j => zhe (a0.getD j default) a1) (fun j => (j : Int)) (k := a0.length - 0) (i := 0) (s := ()) (fun j u _ _ => rfl) with ⟨j, _, h2, h3, h4, h5⟩ | ⟨h1, h2⟩
 ·left
  rw [h5]
  exact ⟨j, by omega, h3, fun q hq => h4 q (Nat.zero_le _) hq, rfl⟩
 ·right
  rw [h2]
  exact ⟨fun q hq => h1 q (Nat.zero_le _) (by omega), rfl⟩
theorem zlb_lt (a0 : List Notice) (a1 : Notice) : -1 ≤ zlb a0 a1 ∧ zlb a0 a1 < a0.length := by
 rcases zlb_first a0 a1 with ⟨j, h1, _, _, h2⟩ | ⟨_, h2⟩ <;> omega
end Go.Ab

namespace Go.Ab
open Go Go.Proofs
def zbh (a0 : Notice) : Bool :=
 ((a0.Kind == 1) || (a0.Kind == 2))
namespace N176
theorem DD : DOk Tryz.prog (Go.Ab.DD []) := DD_nil _
theorem den (a0 : Notice)  : Den Tryz.prog 176 [.agg (eNotice a0)] (.bool (zbh a0)) := by
 generalize hR : zbh a0 = r
 unfold zbh at hR
 refine di Tryz.func176 Tryz.ntmps176 Tryz.results176 ?_
 intro c hL hc hk
 obtain ⟨hL0, _⟩ := hL
 have hw0 : bwNotice a0 := Notice_lens a0 hL0
 clear hL0
 simp only [pars, Nat.zero_add]
 iterate 2 refine rS ?_
 refine AWP.ret ?_
 subst hR
 exact es
end N176
def D_zbh : DF
 | [x0] => some (.bool (zbh (rdG dNotice x0)), false, [wG eNotice dNotice x0])
 | _ => none
theorem D_zbh_ok : OkD Tryz.prog 176 D_zbh := by unfold D_zbh; exact dk N176.den
end Go.Ab

namespace Go.Ab
open Go Go.Proofs
def zqd (a0 : Int) : Bool :=
 (zd a0 0 99999)
namespace N73
theorem DD : DOk Tryz.prog (Go.Ab.DD [(139, dP D_zd)]) := DD_cons D_zd_ok.e <| DD_nil _
theorem dn : type_of% (@D_zd.eq_1) := by and_intros <;> intros <;> rfl
theorem ol : type_of% (@zd.eq_1) := @zd.eq_1
theorem den (a0 : Int)  : Den Tryz.prog 73 [.int .i64 a0] (.bool (zqd a0)) := by
 generalize hR : zqd a0 = r
 unfold zqd at hR
 refine di Tryz.func73 Tryz.ntmps73 Tryz.results73 ?_
 intro c hL hc hk
 clear hL
 simp only [pars, Nat.zero_add]
 iterate 2 refine rS ?_
 refine AWP.ret ?_
 subst hR
 exact es
end N73
def D_zqd : DF
 | [x0] => some (.bool (zqd (rdI x0)), false, [wI .i64 x0])
 | _ => none
theorem D_zqd_ok : OkD Tryz.prog 73 D_zqd := by unfold D_zqd; exact dk N73.den
end Go.Ab

namespace Go.Ab
open Go Go.Proofs
def zjh (a0 : Notice) (a1 : Notice) : Bool :=
 ((a0.Kind == 4) && (a0.Target == a1.Target))
namespace N179
theorem DD : DOk Tryz.prog (Go.Ab.DD []) := DD_nil _
theorem den (a0 : Notice) (a1 : Notice)  : Den Tryz.prog 179 [.agg (eNotice a0), .ep (eNotice a1)] (.bool (zjh a0 a1)) := by
 generalize hR : zjh a0 a1 = r
 unfold zjh at hR
 refine di Tryz.func179 Tryz.ntmps179 Tryz.results179 ?_
 intro c hL hc hk
 obtain ⟨hL0, hL1, _⟩ := hL
 have hw0 : bwNotice a0 := Notice_lens a0 hL0
 have hw1 : bwNotice a1 := Notice_lens a1 hL1
 clear hL0 hL1
 simp only [pars, Nat.zero_add]
 iterate 2 refine rS ?_
 refine AWP.ret ?_
 subst hR
 exact es
end N179
def D_zjh : DF
 | [x0, x1] => some (.bool (zjh (rdG dNotice x0) (rdP dNotice x1)), false, [wG eNotice dNotice x0, wP eNotice dNotice x1])
 | _ => none
theorem D_zjh_ok : OkD Tryz.prog 179 D_zjh := by unfold D_zjh; exact dk N179.den
end Go.Ab

namespace Go.Ab
open Go Go.Proofs
def zrd_b1 (a0 : (List Notice)) (a1 : Notice) (i1 : Nat) (s1 : Unit) : Except (Int) (Unit) :=
 (bif (zjh (a0.getD i1 default) a1) then .error (i1 : Int) else .ok ())
def zrd (a0 : (List Notice)) (a1 : Notice) : Int :=
 (match loopR (zrd_b1 a0 a1) (a0.length - 0) 0 () with | .error e => e | .ok s1 => (-1))
namespace N_zrd
theorem DD : DOk Tryz.prog (Go.Ab.DD [(179, dP D_zjh)]) := DD_cons D_zjh_ok.e <| DD_nil _
theorem dn : type_of% (@D_zjh.eq_1) := by and_intros <;> intros <;> rfl
theorem den (a0 : (List Notice)) (a1 : Notice)  : Den Tryz.prog 177 [encL 20 eNotice a0, .fn 179 0 [.ep (eNotice a1)]] (.int .i64 (zrd a0 a1)) := by
 generalize hR : zrd a0 a1 = r
 unfold zrd at hR
 refine di Tryz.func177 Tryz.ntmps177 Tryz.results177 ?_
 intro c hL hc hk
 obtain ⟨hL0, hL1, _⟩ := hL
 have hw0 : a0.length < 9223372036854775808 := Nat.lt_succ_of_le (lens_encL hL0).1
 have hw1 : ∀ v ∈ a0, bwNotice v := fun v hv => Notice_lens v ((lens_encL hL0).2 v hv)
 have hw2 : bwNotice a1 := Notice_lens a1 hL1.1
 clear hL0 hL1
 simp only [pars, Nat.zero_add]
 iterate 2 refine rS ?_
 refine AWP.block ?_
 generalize hz1 : loopR (zrd_b1 a0 a1) (a0.length - 0) 0 () = z1 at hR
 refine AWP.range (zrd_b1 a0 a1) (fun i1 s1 => ⟨[(0, encL 20 eNotice a0), (1, .fn 179 0 [.ep (eNotice a1)]), (7, .int .i64 (a0.length : Int)), (8, .int .i64 (i1 : Int))], []⟩) (fun i1 s1 => True) (a0.length) 0 () [] hz1 ot wt sm ?_
 clear hz1
 intro i1 s1 hi1 hW1 hz1
 refine rS ?_
 refine AWP.seq ?_
 refine AWP.cond rfl (fun hb => ?_) (fun hb => ?_)
 ·have hlt1 : i1 < a0.length := ot
  rw [loopR_lt hlt1] at hz1; simp only [zrd_b1] at hz1
  iterate 2 refine rS ?_
  refine AWP.cond rfl (fun hb => ?_) (fun hb => ?_)
  ·simp only [hb, cond_true] at hz1
   refine rS ?_
   refine AWP.ret ?_
   subst hz1
   dsimp only at hR
   subst hR
   exact es
  ·simp only [hb, cond_false] at hz1
   refine rS ?_
   exact ⟨_, [], hlt1, wt, hz1, sm⟩
 ·obtain rfl : i1 = a0.length := ot
  rw [loopR_ge (Nat.le_refl _)] at hz1; subst hz1; dsimp only at hR
  refine AWP.exit ?_; refine exitTo_here ?_
  refine rS ?_
  refine AWP.ret ?_
  subst hR
  exact es
end N_zrd
def D_zrd : DF
 | [x0, (.fn f179_2 kf179_2 [y1])] => some (.int .i64 (zrd (rdL dNotice x0) (rdP dNotice y1)), false, [wL 20 eNotice dNotice x0, y1 = .ep (eNotice (rdP dNotice y1)), f179_2 = 179, kf179_2 = 0])
 | _ => none
theorem D_zrd_ok : OkD Tryz.prog 177 D_zrd := by
 intro xs r z ob h ho
 unfold D_zrd at h
 split at h
 ·simp only [Option.some.injEq, Prod.mk.injEq] at h
  obtain ⟨rfl, rfl, rfl⟩ := h
  obtain ⟨h0, qy1, qf179_2, qkf179_2, _⟩ := ho
  exact Den.sim (N_zrd.den _ _ ) (simOL_cons (wL_sim h0).1 <| simOL_cons (by subst qf179_2 qkf179_2; rw [← qy1]; exact simO_refl _) <| trivial) (noIdL_cons (wL_sim h0).2 <| noIdL_cons (by rw [qy1]; rfl) <| rfl) rfl
 ·cases h
end Go.Ab

namespace Go.Ab
open Go Go.Proofs
def zxe (a0 : (List Notice)) (a1 : Notice) : Bool :=
 decide (0 ≤ (zrd a0 a1))
namespace N_zxe
theorem DD : DOk Tryz.prog (Go.Ab.DD [(177, dP D_zrd)]) := DD_cons D_zrd_ok.e <| DD_nil _
theorem dn : type_of% (@D_zrd.eq_1) := by and_intros <;> intros <;> rfl
theorem den (a0 : (List Notice)) (a1 : Notice)  : Den Tryz.prog 140 [encL 20 eNotice a0, .fn 179 0 [.ep (eNotice a1)]] (.bool (zxe a0 a1)) := by
 generalize hR : zxe a0 a1 = r
 unfold zxe at hR
 refine di Tryz.func140 Tryz.ntmps140 Tryz.results140 ?_
 intro c hL hc hk
 obtain ⟨hL0, hL1, _⟩ := hL
 have hw0 : a0.length < 9223372036854775808 := Nat.lt_succ_of_le (lens_encL hL0).1
 have hw1 : ∀ v ∈ a0, bwNotice v := fun v hv => Notice_lens v ((lens_encL hL0).2 v hv)
 have hw2 : bwNotice a1 := Notice_lens a1 hL1.1
 clear hL0 hL1
 simp only [pars, Nat.zero_add]
 iterate 2 refine rS ?_
 refine AWP.ret ?_
 subst hR
 exact es
end N_zxe
def D_zxe : DF
 | [x0, (.fn f179_2 kf179_2 [y1])] => some (.bool (zxe (rdL dNotice x0) (rdP dNotice y1)), false, [wL 20 eNotice dNotice x0, y1 = .ep (eNotice (rdP dNotice y1)), f179_2 = 179, kf179_2 = 0])
 | _ => none
theorem D_zxe_ok : OkD Tryz.prog 140 D_zxe := by
 intro xs r z ob h ho
 unfold D_zxe at h
 split at h
 ·simp only [Option.some.injEq, Prod.mk.injEq] at h
  obtain ⟨rfl, rfl, rfl⟩ := h
  obtain ⟨h0, qy1, qf179_2, qkf179_2, _⟩ := ho
  exact Den.sim (N_zxe.den _ _ ) (simOL_cons (wL_sim h0).1 <| simOL_cons (by subst qf179_2 qkf179_2; rw [← qy1]; exact simO_refl _) <| trivial) (noIdL_cons (wL_sim h0).2 <| noIdL_cons (by rw [qy1]; rfl) <| rfl) rfl
 ·cases h
end Go.Ab

namespace Go.Ab
open Go Go.Proofs
def zkg (a0 : Notice) (a1 : (List Notice)) : Bool :=
 (bif (decide ((zlb a1 a0) < 0) || (((a1.getD (((zlb a1 a0)).toNat) default).Kind) == 4)) then false else (!(zxe a1 a0)))
namespace N125
theorem DD : DOk Tryz.prog (Go.Ab.DD [(140, dP D_zxe), (177, dP D_zlb)]) := DD_cons D_zxe_ok.e <| DD_cons D_zlb_ok.e <| DD_nil _
theorem dn : type_of% (And.intro @D_zxe.eq_1 <| @D_zlb.eq_1) := by and_intros <;> intros <;> rfl
theorem gr {p : Prop} (h : p := by (grind [zlb_lt]); first | done | fail) : p := h
theorem o0 {p : Prop} (h : p := by (first | (intro h; simp at h; omega)); first | done | fail) : p := h
theorem den (a0 : Notice) (a1 : (List Notice))  : Den Tryz.prog 125 [.agg (eNotice a0), encL 20 eNotice a1] (.bool (zkg a0 a1)) := by
 generalize hR : zkg a0 a1 = r
 unfold zkg at hR
 refine di Tryz.func125 Tryz.ntmps125 Tryz.results125 ?_
 intro c hL hc hk
 obtain ⟨hL0, hL1, _⟩ := hL
 have hw0 : bwNotice a0 := Notice_lens a0 hL0
 have hw1 : a1.length < 9223372036854775808 := Nat.lt_succ_of_le (lens_encL hL1).1
 have hw2 : ∀ v ∈ a1, bwNotice v := fun v hv => Notice_lens v ((lens_encL hL1).2 v hv)
 clear hL0 hL1
 simp only [pars, Nat.zero_add]
 have hix := zlb_lt a1 a0
 iterate 3 refine rS ?_
 refine AWP.cond rfl (fun hb => ?_) (fun hb => ?_)
 ·replace hR := ct hR
  refine rS ?_
  refine AWP.ret ?_
  subst hR
  exact es
 ·replace hR := cf hR
  refine rS ?_
  refine AWP.ret ?_
  subst hR
  exact es
end N125
def D_zkg : DF
 | [x0, x1] => some (.bool (zkg (rdG dNotice x0) (rdL dNotice x1)), false, [wG eNotice dNotice x0, wL 20 eNotice dNotice x1])
 | _ => none
theorem D_zkg_ok : OkD Tryz.prog 125 D_zkg := by unfold D_zkg; exact dk N125.den
end Go.Ab

namespace Go.Ab
open Go Go.Proofs
def zkh (a0 : Notice) (a1 : Notice) (a2 : Int) : Bool :=
 (((a0.Kind == 4) && (a0.Target == a1.Number)) && decide (a0.Day ≤ a2))
namespace N141
theorem DD : DOk Tryz.prog (Go.Ab.DD []) := DD_nil _
theorem den (a0 : Notice) (a1 : Notice) (a2 : Int)  : Den Tryz.prog 141 [.agg (eNotice a0), .ep (eNotice a1), .ep (eIi64 a2)] (.bool (zkh a0 a1 a2)) := by
 generalize hR : zkh a0 a1 a2 = r
 unfold zkh at hR
 refine di Tryz.func141 Tryz.ntmps141 Tryz.results141 ?_
 intro c hL hc hk
 obtain ⟨hL0, hL1, hL2, _⟩ := hL
 have hw0 : bwNotice a0 := Notice_lens a0 hL0
 have hw1 : bwNotice a1 := Notice_lens a1 hL1
 clear hL0 hL1 hL2
 simp only [pars, Nat.zero_add]
 iterate 2 refine rS ?_
 refine AWP.ret ?_
 subst hR
 exact es
end N141
def D_zkh : DF
 | [x0, x1, x2] => some (.bool (zkh (rdG dNotice x0) (rdP dNotice x1) (rdP dIi64 x2)), false, [wG eNotice dNotice x0, wP eNotice dNotice x1, wP eIi64 dIi64 x2])
 | _ => none
theorem D_zkh_ok : OkD Tryz.prog 141 D_zkh := by unfold D_zkh; exact dk N141.den
end Go.Ab

namespace Go.Ab
open Go Go.Proofs
def zsd_b1 (a0 : (List Notice)) (a1 : Notice) (a2 : Int) (i1 : Nat) (s1 : Unit) : Except (Int) (Unit) :=
 (bif (zkh (a0.getD i1 default) a1 a2) then .error (i1 : Int) else .ok ())
def zsd (a0 : (List Notice)) (a1 : Notice) (a2 : Int) : Int :=
 (match loopR (zsd_b1 a0 a1 a2) (a0.length - 0) 0 () with | .error e => e | .ok s1 => (-1))
namespace N_zsd
theorem DD : DOk Tryz.prog (Go.Ab.DD [(141, dP D_zkh)]) := DD_cons D_zkh_ok.e <| DD_nil _
theorem dn : type_of% (@D_zkh.eq_1) := by and_intros <;> intros <;> rfl
theorem den (a0 : (List Notice)) (a1 : Notice) (a2 : Int)  : Den Tryz.prog 177 [encL 20 eNotice a0, .fn 141 0 [.ep (eNotice a1), .ep (eIi64 a2)]] (.int .i64 (zsd a0 a1 a2)) := by
 generalize hR : zsd a0 a1 a2 = r
 unfold zsd at hR
 refine di Tryz.func177 Tryz.ntmps177 Tryz.results177 ?_
 intro c hL hc hk
 obtain ⟨hL0, hL1, _⟩ := hL
 have hw0 : a0.length < 9223372036854775808 := Nat.lt_succ_of_le (lens_encL hL0).1
 have hw1 : ∀ v ∈ a0, bwNotice v := fun v hv => Notice_lens v ((lens_encL hL0).2 v hv)
 have hw2 : bwNotice a1 := Notice_lens a1 hL1.1
 clear hL0 hL1
 simp only [pars, Nat.zero_add]
 iterate 2 refine rS ?_
 refine AWP.block ?_
 generalize hz1 : loopR (zsd_b1 a0 a1 a2) (a0.length - 0) 0 () = z1 at hR
 refine AWP.range (zsd_b1 a0 a1 a2) (fun i1 s1 => ⟨[(0, encL 20 eNotice a0), (1, .fn 141 0 [.ep (eNotice a1), .ep (eIi64 a2)]), (7, .int .i64 (a0.length : Int)), (8, .int .i64 (i1 : Int))], []⟩) (fun i1 s1 => True) (a0.length) 0 () [] hz1 ot wt sm ?_
 clear hz1
 intro i1 s1 hi1 hW1 hz1
 refine rS ?_
 refine AWP.seq ?_
 refine AWP.cond rfl (fun hb => ?_) (fun hb => ?_)
 ·have hlt1 : i1 < a0.length := ot
  rw [loopR_lt hlt1] at hz1; simp only [zsd_b1] at hz1
  iterate 2 refine rS ?_
  refine AWP.cond rfl (fun hb => ?_) (fun hb => ?_)
  ·simp only [hb, cond_true] at hz1
   refine rS ?_
   refine AWP.ret ?_
   subst hz1
   dsimp only at hR
   subst hR
   exact es
  ·simp only [hb, cond_false] at hz1
   refine rS ?_
   exact ⟨_, [], hlt1, wt, hz1, sm⟩
 ·obtain rfl : i1 = a0.length := ot
  rw [loopR_ge (Nat.le_refl _)] at hz1; subst hz1; dsimp only at hR
  refine AWP.exit ?_; refine exitTo_here ?_
  refine rS ?_
  refine AWP.ret ?_
  subst hR
  exact es
end N_zsd
def D_zsd : DF
 | [x0, (.fn f141_3 kf141_3 [y1, y2])] => some (.int .i64 (zsd (rdL dNotice x0) (rdP dNotice y1) (rdP dIi64 y2)), false, [wL 20 eNotice dNotice x0, y1 = .ep (eNotice (rdP dNotice y1)), y2 = .ep (eIi64 (rdP dIi64 y2)), f141_3 = 141, kf141_3 = 0])
 | _ => none
theorem D_zsd_ok : OkD Tryz.prog 177 D_zsd := by
 intro xs r z ob h ho
 unfold D_zsd at h
 split at h
 ·simp only [Option.some.injEq, Prod.mk.injEq] at h
  obtain ⟨rfl, rfl, rfl⟩ := h
  obtain ⟨h0, qy1, qy2, qf141_3, qkf141_3, _⟩ := ho
  exact Den.sim (N_zsd.den _ _ _ ) (simOL_cons (wL_sim h0).1 <| simOL_cons (by subst qf141_3 qkf141_3; rw [← qy1, ← qy2]; exact simO_refl _) <| trivial) (noIdL_cons (wL_sim h0).2 <| noIdL_cons (by rw [qy1, qy2]; rfl) <| rfl) rfl
 ·cases h
end Go.Ab

namespace Go.Ab
open Go Go.Proofs
def zre (a0 : (List Notice)) (a1 : Notice) (a2 : Int) : Bool :=
 decide (0 ≤ (zsd a0 a1 a2))
namespace N_zre
theorem DD : DOk Tryz.prog (Go.Ab.DD [(177, dP D_zsd)]) := DD_cons D_zsd_ok.e <| DD_nil _
theorem dn : type_of% (@D_zsd.eq_1) := by and_intros <;> intros <;> rfl
theorem den (a0 : (List Notice)) (a1 : Notice) (a2 : Int)  : Den Tryz.prog 140 [encL 20 eNotice a0, .fn 141 0 [.ep (eNotice a1), .ep (eIi64 a2)]] (.bool (zre a0 a1 a2)) := by
 generalize hR : zre a0 a1 a2 = r
 unfold zre at hR
 refine di Tryz.func140 Tryz.ntmps140 Tryz.results140 ?_
 intro c hL hc hk
 obtain ⟨hL0, hL1, _⟩ := hL
 have hw0 : a0.length < 9223372036854775808 := Nat.lt_succ_of_le (lens_encL hL0).1
 have hw1 : ∀ v ∈ a0, bwNotice v := fun v hv => Notice_lens v ((lens_encL hL0).2 v hv)
 have hw2 : bwNotice a1 := Notice_lens a1 hL1.1
 clear hL0 hL1
 simp only [pars, Nat.zero_add]
 iterate 2 refine rS ?_
 refine AWP.ret ?_
 subst hR
 exact es
end N_zre
def D_zre : DF
 | [x0, (.fn f141_3 kf141_3 [y1, y2])] => some (.bool (zre (rdL dNotice x0) (rdP dNotice y1) (rdP dIi64 y2)), false, [wL 20 eNotice dNotice x0, y1 = .ep (eNotice (rdP dNotice y1)), y2 = .ep (eIi64 (rdP dIi64 y2)), f141_3 = 141, kf141_3 = 0])
 | _ => none
theorem D_zre_ok : OkD Tryz.prog 140 D_zre := by
 intro xs r z ob h ho
 unfold D_zre at h
 split at h
 ·simp only [Option.some.injEq, Prod.mk.injEq] at h
  obtain ⟨rfl, rfl, rfl⟩ := h
  obtain ⟨h0, qy1, qy2, qf141_3, qkf141_3, _⟩ := ho
  exact Den.sim (N_zre.den _ _ _ ) (simOL_cons (wL_sim h0).1 <| simOL_cons (by subst qf141_3 qkf141_3; rw [← qy1, ← qy2]; exact simO_refl _) <| trivial) (noIdL_cons (wL_sim h0).2 <| noIdL_cons (by rw [qy1, qy2]; rfl) <| rfl) rfl
 ·cases h
end Go.Ab

namespace Go.Ab
open Go Go.Proofs
def zl_b1 (a0 : (List Notice)) (a1 : Int) (i1 : Nat) (s1 : List Notice) : Except ((List Notice)) (List Notice) :=
 (bif (((((a0.getD i1 default).Kind) != 4) && decide (((a0.getD i1 default).Day) ≤ a1)) && (!(zre a0 (a0.getD i1 default) a1))) then .ok (s1 ++ [(a0.getD i1 default)]) else .ok s1)
def zl (a0 : (List Notice)) (a1 : Int) : (List Notice) :=
 (match loopR (zl_b1 a0 a1) (a0.length - 0) 0 ([] : List Notice) with | .error e => e | .ok s1 => s1)
namespace N74
theorem DD : DOk Tryz.prog (Go.Ab.DD [(140, dP D_zre)]) := DD_cons D_zre_ok.e <| DD_nil _
theorem dn : type_of% (@D_zre.eq_1) := by and_intros <;> intros <;> rfl
theorem o2 {p : Prop} (h : p := by (first | (and_intros <;> first | rfl | decide | (rw [IntKind.wrap_i64]; omega) | (simp only [List.length_append, List.length_singleton]; (first | done | fail)) | (intro j hj; by_cases hji : j < s1.length; (focus (simp only [app_lt hji, blt_t hji, cond_true]; first | (first | done | fail) | rfl | (and_intros <;> rfl))); (simp only [app_eq hji hj, blt_f hji, cond_false]; first | (first | done | fail) | rfl | (and_intros <;> rfl))))); first | done | fail) : p := h
set_option maxHeartbeats 2000000 in
set_option maxRecDepth 20000 in
theorem den (a0 : (List Notice)) (a1 : Int) (hb0 : a0.length < 1099511627776) (hb1 : ∀ v ∈ a0, bdNotice v) (hp0 : a0.length ≤ 1073741824) : Den Tryz.prog 74 [encL 20 eNotice a0, .int .i64 a1] (ownL 90 20 eNotice (zl a0 a1)) := by
 generalize hR : zl a0 a1 = r
 unfold zl at hR
 refine di Tryz.func74 Tryz.ntmps74 Tryz.results74 ?_
 intro c hL hc hk
 obtain ⟨hL0, hL1, _⟩ := hL
 have hw0 : a0.length < 9223372036854775808 := Nat.lt_succ_of_le (lens_encL hL0).1
 have hw1 : ∀ v ∈ a0, bwNotice v := fun v hv => Notice_lens v ((lens_encL hL0).2 v hv)
 clear hL0 hL1
 simp only [pars, Nat.zero_add]
 iterate 3 refine rS ?_
 refine AWP.block ?_
 generalize hz1 : loopR (zl_b1 a0 a1) (a0.length - 0) 0 ([] : List Notice) = z1 at hR
 refine AWP.range (zl_b1 a0 a1) (fun i1 s1 => ⟨[(0, encL 20 eNotice a0), (3, .ptr 0 0), (5, .ref 1 20 0 s1.length), (10, encL 20 eNotice a0), (11, .int .i64 (a0.length : Int)), (12, .int .i64 (i1 : Int))], [.box [.int .i64 a1], .arr 90 20 s1.length (fun j => eNotice (s1.getD j default))]⟩) (fun i1 s1 => s1.length ≤ ([] : List Notice).length + 1 * i1) (a0.length) 0 ([] : List Notice) [0, 1] hz1 ot wt sm ?_
 clear hz1
 intro i1 s1 hi1 hW1 hz1
 refine rS ?_
 refine AWP.seq ?_
 refine AWP.cond rfl (fun hb => ?_) (fun hb => ?_)
 ·have hlt1 : i1 < a0.length := ot
  rw [loopR_lt hlt1] at hz1; simp only [zl_b1] at hz1
  iterate 3 refine rS ?_
  refine AWP.cond rfl (fun hb => ?_) (fun hb => ?_)
  ·simp only [hb, cond_true] at hz1
   iterate 2 refine rS ?_
   exact ⟨_, [0, 4], hlt1, wt, hz1, sm⟩
  ·simp only [hb, cond_false] at hz1
   refine rS ?_
   exact ⟨_, [0, 1], hlt1, wt, hz1, sm⟩
 ·obtain rfl : i1 = a0.length := ot
  rw [loopR_ge (Nat.le_refl _)] at hz1; subst hz1; dsimp only at hR
  refine AWP.exit ?_; refine exitTo_here ?_
  refine rS ?_
  refine AWP.ret ?_
  subst hR
  exact es
end N74
def D_zl : DF
 | [x0, x1] => some (ownL 90 20 eNotice (zl (rdL dNotice x0) (rdI x1)), false, [wL 20 eNotice dNotice x0, wI .i64 x1, (rdL dNotice x0).length < 1099511627776, ∀ v ∈ (rdL dNotice x0), bdNotice v, (rdL dNotice x0).length ≤ 1073741824])
 | _ => none
theorem D_zl_ok : OkD Tryz.prog 74 D_zl := by unfold D_zl; exact dk N74.den
end Go.Ab

namespace Go.Ab
open Go Go.Proofs
theorem inForce_inv (P : Notice → Prop) (a : List Notice) (d : Int) (hP : ∀ v ∈ a, P v) : (zl a d).length ≤ a.length ∧ ∀ v ∈ zl a d, P v := by
 unfold zl
 obtain ⟨t, h1, h2⟩ := loopR_total (b := zl_b1 a d) (fun j s => s.length ≤ j ∧ ∀ v ∈ s, P v) (k := a.length - 0) (i := 0) (s := []) ⟨by simp, fun v hv => by simp at hv⟩ (by
  intro j u _ hj h
  simp only [zl_b1]
  cases (((((a.getD j default).Kind) != 4) && decide (((a.getD j default).Day) ≤ d)) && (!(zre a (a.getD j default) d))) with
  | true =>
   refine ⟨_, rfl, by simp; exact h.1, fun v hv => ?_⟩
   rcases List.mem_append.1 hv with hv | hv
   ·exact h.2 v hv
   ·have : v = a.getD j default := by simpa using hv
    subst this
    rw [List.getD_eq_getElem?_getD, List.getElem?_eq_getElem (show j < a.length by omega)]
    exact hP _ (List.getElem_mem (by omega))
  | false => exact ⟨_, rfl, by omega, h.2⟩)
 rw [h1]
 simpa using h2
theorem inForce_len (a : List Notice) (d : Int) : (zl a d).length ≤ a.length := (inForce_inv (fun _ => True) a d (fun _ _ => trivial)).1
end Go.Ab
