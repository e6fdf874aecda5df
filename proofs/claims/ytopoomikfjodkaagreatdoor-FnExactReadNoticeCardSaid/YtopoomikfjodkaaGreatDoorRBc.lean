/- A part of a proof: walks of functions and lemmas of our own. No conditions. -/
import Derived.Test.YtopoomikfjodkaaGreatDoorRAl
import Derived.Test.YtopoomikfjodkaaGreatDoorRAp
import Derived.Test.YtopoomikfjodkaaGreatDoorRAq
set_option linter.unusedSectionVars false
set_option linter.unusedVariables false
set_option linter.unusedSimpArgs false
set_option maxHeartbeats 1000000
namespace Go.Ab
open Go Go.Proofs
def zyf (a0:Int):Bool:=
 (decide (48≤a0) && decide (a0≤57))
namespace N253
theorem DD:DOk Tryz.prog (Go.Ab.DD []):=yc _
theorem den (a0:Int)  : Den Tryz.prog 253 [.int .u8 a0] (.bool (zyf a0)):=by
 generalize hR:zyf a0=r
 unfold zyf at hR
 refine di Tryz.func253 Tryz.ntmps253 Tryz.results253 ?_
 intro c hL hc hk
 clear hL
 simp only[pars,Nat.zero_add]
 iterate 2 refine rS ?_
 refine AWP.ret ?_
 subst hR
 exact es
end N253
def D_zyf : DF
 | [x0]=>some (.bool (zyf (rdI x0)),false,[wI .u8 x0])
 | _=>none
theorem ydy:OkD Tryz.prog 253 D_zyf:=by unfold D_zyf;exact dk N253.den
end Go.Ab

namespace Go.Ab
open Go Go.Proofs
def yk1 (a0:(List UInt8)) (i1:Nat) (s1:Int):Except ((Int×Bool)) (Int):=
 (bif (!(zyf ((a0.getD i1 0).toNat:Int)))then .error (0,false)else .ok (IntKind.wrap .i64 ((IntKind.wrap .i64 (10 * s1))+(IntKind.wrap .i64 (IntKind.wrap .u8 (((a0.getD i1 0).toNat:Int)-48))))))
def yk2 (a0:(List UInt8)) (i2:Nat) (s2:Int):Except ((Int×Bool)) (Int):=
 (bif (!(zyf ((a0.getD i2 0).toNat:Int)))then .error (0,false)else .ok (IntKind.wrap .i64 ((IntKind.wrap .i64 (10 * s2))+(IntKind.wrap .i64 (IntKind.wrap .u8 (((a0.getD i2 0).toNat:Int)-48))))))
def zf (a0:(List UInt8)):(Int×Bool):=
 (bif (decide (0<(a0.length:Int)) && (((a0.getD 0 0).toNat:Int) == 45))then(bif ((((a0.length:Int) == 1) || decide (18<(IntKind.wrap .i64 ((a0.length:Int)-1)))) || ((((a0.getD 1 0).toNat:Int) == 48) && decide (1<(a0.length:Int))))then(0,false)else(match ye (yk1 a0) (a0.length-1) 1 0 with|.error e=>e|.ok s1=>(IntKind.wrap .i64 (0-s1),true)))else(bif ((((a0.length:Int) == 0) || decide (18<(IntKind.wrap .i64 ((a0.length:Int)-0)))) || ((((a0.getD 0 0).toNat:Int) == 48) && decide (1<(a0.length:Int))))then(0,false)else(match ye (yk2 a0) (a0.length-0) 0 0 with|.error e=>e|.ok s2=>(s2,true))))
namespace N168
theorem DD:DOk Tryz.prog (Go.Ab.DD [(253,dP D_zyf)]):=ya ydy.e <| yc _
theorem dn:type_of% (@D_zyf.eq_1):=by and_intros<;>intros<;>rfl
theorem den (a0:(List UInt8)) (hp0:a0.length≤1048576):Den Tryz.prog 168 [.str a0] (.tup [.int .i64 ((zf a0).1),.bool ((zf a0).2)]):=by
 generalize hR:zf a0=r
 unfold zf at hR
 refine di Tryz.func168 Tryz.ntmps168 Tryz.results168 ?_
 intro c hL hc hk
 obtain⟨hL0,_⟩:=hL
 have hw0:a0.length<9223372036854775808:=Nat.lt_succ_of_le hL0
 clear hL0
 simp only[pars,Nat.zero_add]
 iterate 3 refine rS ?_
 refine AWP.cond rfl (fun hb => ?_) (fun hb => ?_)
 ·replace hR:=ct hR
  iterate 2 refine rS ?_
  refine AWP.cond rfl (fun hb => ?_) (fun hb => ?_)
  ·replace hR:=ct hR
   refine rS ?_
   refine AWP.ret ?_
   subst hR
   exact es
  ·replace hR:=cf hR
   iterate 2 refine rS ?_
   refine AWP.block ?_
   generalize hz1:ye (yk1 a0) (a0.length-1) 1 0=z1 at hR
   refine AWP.range (yk1 a0) (fun i1 s1=>⟨[(0,.str a0),(4,.int .i64 1),(5,.int .i64 s1),(6,.int .i64 (i1:Int))],[]⟩) (fun i1 s1=>1≤i1) (a0.length) 1 0 [] hz1 ot wt sm ?_
   clear hz1
   intro i1 s1 hi1 hW1 hz1
   refine rS ?_
   refine AWP.cond rfl (fun hb => ?_) (fun hb => ?_)
   ·have hlt1:i1<a0.length:=ot
    rw[yj hlt1]at hz1;simp only[yk1]at hz1
    refine rS ?_
    refine AWP.cond rfl (fun hb => ?_) (fun hb => ?_)
    ·simp only[hb,cond_true]at hz1
     refine rS ?_
     refine AWP.ret ?_
     subst hz1
     dsimp only at hR
     subst hR
     exact es
    ·simp only[hb,cond_false]at hz1
     iterate 2 refine rS ?_
     exact⟨_,[],hlt1,wt,hz1,sm⟩
   ·obtain rfl:i1=a0.length:=ot
    rw[yi (Nat.le_refl _)]at hz1;subst hz1;dsimp only at hR
    refine AWP.exit ?_;refine yb ?_
    refine rS ?_
    refine AWP.cond rfl (fun hb => ?_) (fun hb => ?_)
    ·refine rS ?_
     refine rS ?_
     refine AWP.ret ?_
     subst hR
     exact es
    ·exfalso;simp at hb
 ·replace hR:=cf hR
  refine rS ?_
  refine AWP.cond rfl (fun hb => ?_) (fun hb => ?_)
  ·replace hR:=ct hR
   refine rS ?_
   refine AWP.ret ?_
   subst hR
   exact es
  ·replace hR:=cf hR
   iterate 2 refine rS ?_
   refine AWP.block ?_
   generalize hz2:ye (yk2 a0) (a0.length-0) 0 0=z2 at hR
   refine AWP.range (yk2 a0) (fun i2 s2=>⟨[(0,.str a0),(4,.int .i64 0),(5,.int .i64 s2),(6,.int .i64 (i2:Int))],[]⟩) (fun i2 s2=>True) (a0.length) 0 0 [] hz2 ot wt sm ?_
   clear hz2
   intro i2 s2 hi2 hW2 hz2
   refine rS ?_
   refine AWP.cond rfl (fun hb => ?_) (fun hb => ?_)
   ·have hlt2:i2<a0.length:=ot
    rw[yj hlt2]at hz2;simp only[yk2]at hz2
    refine rS ?_
    refine AWP.cond rfl (fun hb => ?_) (fun hb => ?_)
    ·simp only[hb,cond_true]at hz2
     refine rS ?_
     refine AWP.ret ?_
     subst hz2
     dsimp only at hR
     subst hR
     exact es
    ·simp only[hb,cond_false]at hz2
     iterate 2 refine rS ?_
     exact⟨_,[],hlt2,wt,hz2,sm⟩
   ·obtain rfl:i2=a0.length:=ot
    rw[yi (Nat.le_refl _)]at hz2;subst hz2;dsimp only at hR
    refine AWP.exit ?_;refine yb ?_
    refine rS ?_
    refine AWP.cond rfl (fun hb => ?_) (fun hb => ?_)
    ·exfalso;simp at hb
    ·refine rS ?_
     refine AWP.ret ?_
     subst hR
     exact es
end N168
def D_zf : DF
 | [x0]=>some (.tup [.int .i64 ((zf (rdS x0)).1),.bool ((zf (rdS x0)).2)],false,[wS x0,(rdS x0).length≤1048576])
 | _=>none
theorem ynj:OkD Tryz.prog 168 D_zf:=by unfold D_zf;exact dk N168.den
end Go.Ab

namespace Go.Ab
open Go Go.Proofs
def E18:Nat:=1000000000000000000
theorem yqf (m:Nat):Lib.itoa (m:Int)=Lib.decDigits m:=by
 unfold Lib.itoa;rw[if_neg (by omega)];simp
theorem ywe {n:Int} (h:¬ n<0):Lib.itoa n=Lib.decDigits n.natAbs:=by
 unfold Lib.itoa;rw[if_neg h];congr 1;omega
theorem y3b {n:Int} (h:n<0):Lib.itoa n=45::Lib.decDigits n.natAbs:=by
 unfold Lib.itoa;rw[if_pos h]
theorem yf3 (m:Nat):∃ c t,Lib.decDigits m=c::t∧c≠45:=by
 obtain⟨h1,h2,h3,h4⟩:=y7 m
 obtain⟨c,t,e⟩:=List.exists_cons_of_ne_nil h3
 refine⟨c,t,e,fun h => ?_⟩
 have:=h1 c (by rw[e];simp)
 subst h
 simp at this
theorem ybp {n n':Int} (h:Lib.itoa n=Lib.itoa n'):n=n':=by
 have hd:∀ m:Nat,digV 0 (Lib.decDigits m)=m:=fun m=>(y7 m).2.1
 by_cases h1:n<0<;>by_cases h2:n'<0
 ·rw[y3b h1,y3b h2]at h
  have:=congrArg (digV 0) (List.cons.inj h).2
  rw[hd,hd]at this
  omega
 ·obtain⟨c,t,e,hc⟩:=yf3 n'.toNat
  rw[y3b h1,show n'=(n'.toNat:Int)by omega,yqf,e]at h
  exact absurd (List.cons.inj h).1.symm hc
 ·obtain⟨c,t,e,hc⟩:=yf3 n.toNat
  rw[y3b h2,show n=(n.toNat:Int)by omega,yqf,e]at h
  exact absurd (List.cons.inj h).1 hc
 ·rw[show n=(n.toNat:Int)by omega,show n'=(n'.toNat:Int)by omega,yqf,yqf]at h
  have:=congrArg (digV 0) h
  rw[hd,hd]at this
  omega
theorem ymt (n:Int):(Lib.trimPrefix (Lib.itoa n) [45]).length=(Lib.decDigits n.natAbs).length:=by
 by_cases h:n<0
 ·rw[y3b h];simp[Lib.trimPrefix,Lib.hasPrefix]
 ·obtain⟨c,t,e,hc⟩:=yf3 n.toNat
  rw[ywe h]
  rw[show n.toNat=n.natAbs by omega]at e
  unfold Lib.trimPrefix Lib.hasPrefix
  rw[if_neg (by rw[e];simp;exact fun h=>hc h.symm)]
theorem ysj (n:Int) (h1:n.natAbs<E18):Lib.parseIntB 64 (Lib.itoa n)=.ok n:=by
 unfold E18 at h1
 obtain⟨d1,d2,d3,d4⟩:=y7 n.natAbs
 have hp:Lib.parseUintB 64 (Lib.decDigits n.natAbs)=.ok n.natAbs:=by
  unfold Lib.parseUintB
  rw[if_neg d3,ytn _ _ 0 d1 (by rw[d2];omega) (by decide),d2]
 by_cases h:n<0
 ·rw[y3b h,Lib.parseIntB_minus,hp]
  show(if 2 ^ (64-1)<n.natAbs then _ else _)=_
  rw[if_neg (by omega)]
  congr 1;omega
 ·obtain⟨c,t,e,hc⟩:=yf3 n.natAbs
  have e2:=ywe h
  have hc1:=d1 c (by rw[e];simp)
  rw[e2]
  rw[e]at hp ⊢
  rw[Lib.parseIntB_plain 64 c t (by omega) (by omega),hp]
  show(if 2 ^ (64-1)≤n.natAbs then _ else _)=_
  rw[if_neg (by omega)]
  congr 1;omega
def ydn (w:List UInt8) (r:Int×Bool):Prop:=
 (∃ n:Int,n.natAbs<E18∧w=Lib.itoa n∧r=(n,true))∨((∀ n:Int,n.natAbs<E18→w≠Lib.itoa n)∧r=(0,false))
theorem ydn.unique {w:List UInt8} {r r':Int×Bool} (h:ydn w r) (h':ydn w r'):r=r':=by
 rcases h with⟨n,h1,h2,rfl⟩|⟨h1,rfl⟩<;>rcases h' with⟨n',h1',h2',rfl⟩|⟨h1',rfl⟩
 ·rw[ybp (h2.symm.trans h2')]
 ·exact absurd h2 (h1' n h1)
 ·exact absurd h2' (h1 n' h1')
 ·rfl
theorem ypk (w:List UInt8):ydn w (yac w):=by
 unfold yac
 by_cases h18:18<(Lib.trimPrefix w [45]).length
 ·rw[if_pos h18]
  refine .inr ⟨fun n hn e => ?_,rfl⟩
  subst e
  rw[ymt]at h18
  have:=(y0b n.natAbs).2 hn
  omega
 ·rw[if_neg h18]
  cases hp:Lib.parseIntB 64 w with
  | ok v=>
   simp only
   by_cases hv:Lib.itoa v=w
   ·rw[if_pos hv]
    refine .inl ⟨v,?_,hv.symm,rfl⟩
    subst hv
    rw[ymt]at h18
    exact(y0b v.natAbs).1 (by omega)
   ·rw[if_neg hv]
    refine .inr ⟨fun n hn e => ?_,rfl⟩
    subst e
    rw[ysj n hn]at hp
    cases hp
    exact hv rfl
  | _ => exact .inr ⟨fun n hn e=>(by subst e;rw[ysj n hn]at hp;cases hp),rfl⟩
theorem wid {n:Int} (h1 : -9223372036854775808≤n) (h2:n≤9223372036854775807):IntKind.wrap .i64 n=n:=by
 rw[IntKind.wrap_i64];omega
theorem y6e (a:List UInt8) (b:Nat→Int→Except (Int×Bool) Int) (hb:∀ i s,b i s=(bif (!(decide (48≤((a.getD i 0).toNat:Int)) && decide (((a.getD i 0).toNat:Int)≤57)))then .error (0,false)else .ok (IntKind.wrap .i64 ((IntKind.wrap .i64 (10 * s))+(IntKind.wrap .i64 (IntKind.wrap .u8 (((a.getD i 0).toNat:Int)-48))))))) :
  ∀ (k i n:Nat),i+k=a.length→(n+1) * 10 ^ k≤E18→ye b k i (n:Int)=if y4b (a.drop i)then .ok ((digV n (a.drop i):Nat):Int)else .error (0,false)
 | 0,i,n,h,hn=>by
  rw[List.drop_eq_nil_of_le (by omega),yhd,if_pos (by intro b hb;simp at hb)]
  rfl
 | k+1,i,n,h,hn=>by
  have hlt:i<a.length:=by omega
  have hg:a.getD i 0=a[i]:=by simp[List.getD,List.getElem?_eq_getElem hlt]
  rw[List.drop_eq_getElem_cons hlt,y9]
  simp only[ye,hb,hg]
  have h10:(n+1) * 10 ^ (k+1)=((n+1) * 10) * 10 ^ k:=by rw[Nat.pow_succ,Nat.mul_assoc,Nat.mul_comm 10]
  have hone:1≤10 ^ k:=Nat.one_le_pow _ _ (by decide)
  have hbig:(n+1) * 10 * 1≤(n+1) * 10 * 10 ^ k:=Nat.mul_le_mul_left _ hone
  unfold E18 at hn
  by_cases hd:48≤a[i].toNat∧a[i].toNat≤57
  ·have e:(!(decide (48≤((a[i]).toNat:Int)) && decide (((a[i]).toNat:Int)≤57)))=false:=by simp;omega
   rw[e,cond_false]
   have hw:IntKind.wrap .i64 ((IntKind.wrap .i64 (10 * (n:Int)))+(IntKind.wrap .i64 (IntKind.wrap .u8 (((a[i]).toNat:Int)-48))))=((10 * n+(a[i].toNat-48):Nat):Int):=by
    rw[wid (n:=10 * (n:Int)) (by omega) (by omega),IntKind.wrap_u8,Int.emod_eq_of_lt (by omega) (by omega),wid (n:=((a[i]).toNat:Int)-48) (by omega) (by omega),wid (by omega) (by omega)]
    omega
   rw[hw]
   simp only
   have hm:(10 * n+(a[i].toNat-48)+1) * 10 ^ k≤(n+1) * 10 * 10 ^ k:=Nat.mul_le_mul_right _ (by omega)
   rw[y6e a b hb k (i+1) _ (by omega) (by unfold E18;omega)]
   have hiff:y4b (a[i]::a.drop (i+1))↔y4b (a.drop (i+1)):=⟨fun h b hb=>h b (List.mem_cons_of_mem _ hb),fun h b hb=>by
    rcases List.mem_cons.1 hb with rfl|hb
    ·exact hd
    ·exact h b hb⟩
   by_cases hA:y4b (a.drop (i+1))
   ·rw[if_pos hA,if_pos (hiff.2 hA)]
   ·rw[if_neg hA,if_neg (fun h=>hA (hiff.1 h))]
  ·have e:(!(decide (48≤((a[i]).toNat:Int)) && decide (((a[i]).toNat:Int)≤57)))=true:=by
    simp;omega
   rw[e,cond_true]
   simp only
   rw[if_neg (fun h=>hd (h a[i] List.mem_cons_self))]
theorem yd7 {a:List UInt8} (h:0<a.length):a=a.getD 0 0::a.drop 1:=by
 obtain⟨c,t,rfl⟩:=List.exists_cons_of_length_pos h
 simp
theorem y5b (w:List UInt8) (hw:w.length≤1048576):ydn w (zf w):=by
 unfold zf
 by_cases hneg:0<w.length∧w.getD 0 0=45
 ·have e0:(decide (0<(w.length:Int)) && (((w.getD 0 0).toNat:Int) == 45))=true:=by rw[hneg.2];simp;omega
  rw[e0,cond_true]
  have hd1:=yd7 hneg.1
  rw[hneg.2]at hd1
  generalize hr:w.drop 1=r at hd1
  have hlen:w.length=r.length+1:=by rw[hd1];simp
  have hg1:w.getD 1 0=r.getD 0 0:=by rw[hd1];simp
  have hno:(∀ m:Nat,m<E18→1≤m→r≠Lib.decDigits m)→∀ n:Int,n.natAbs<E18→w≠Lib.itoa n:=by
   intro h n hn e
   by_cases hn0:n<0
   ·rw[y3b hn0,hd1]at e
    exact h n.natAbs hn (by omega) (List.cons.inj e).2
   ·obtain⟨c,t,e3,hc⟩:=yf3 n.natAbs
    rw[ywe hn0,e3,hd1]at e
    exact hc (List.cons.inj e).1.symm
  by_cases hbad:r=[]∨18<r.length∨r.getD 0 0=48
  ·have e1:((((w.length:Int) == 1) || decide (18<(IntKind.wrap .i64 ((w.length:Int)-1)))) || ((((w.getD 1 0).toNat:Int) == 48) && decide (1<(w.length:Int))))=true:=by
    rw[IntKind.wrap_i64,hg1,hlen]
    rcases hbad with h|h|h
    ·subst h;simp
    ·simp;left;right;omega
    ·by_cases hr0:r=[]
     ·subst hr0;simp
     ·have:0<r.length:=List.length_pos_iff.2 hr0
      rw[h];simp;right;omega
   rw[e1,cond_true]
   refine .inr ⟨hno fun m hm h1 e => ?_,rfl⟩
   obtain⟨d1,d2,d3,d4⟩:=y7 m
   rcases hbad with h|h|h
   ·rw[h]at e;exact d3 e.symm
   ·rw[e]at h;have:=(y0b m).2 hm;omega
   ·rw[e]at h;exact d4 h1 h
  ·have hb1:r≠[]:=fun h=>hbad (.inl h)
   have hb2:r.length≤18:=by
    by_cases h:r.length≤18
    ·exact h
    ·exact absurd (.inr (.inl (by omega))) hbad
   have hb3:r.getD 0 0≠48:=fun h=>hbad (.inr (.inr h))
   have hrp:0<r.length:=List.length_pos_iff.2 hb1
   have hn48:¬ (r.getD 0 0).toNat=48:=fun h=>hb3 (UInt8.toNat_inj.1 (by rw[h];rfl))
   have e1:((((w.length:Int) == 1) || decide (18<(IntKind.wrap .i64 ((w.length:Int)-1)))) || ((((w.getD 1 0).toNat:Int) == 48) && decide (1<(w.length:Int))))=false:=by
    rw[IntKind.wrap_i64,hg1,hlen]
    simp only[Bool.or_eq_false_iff,Bool.and_eq_false_iff,beq_eq_false_iff_ne,decide_eq_false_iff_not]
    refine⟨⟨by omega,by omega⟩,.inl (by omega)⟩
   rw[e1,cond_false]
   have hpow:(0+1) * 10 ^ (w.length-1)≤E18:=by
    have:10 ^ (w.length-1)≤10 ^ 18:=Nat.pow_le_pow_right (by decide) (by omega)
    have h6:(10:Nat) ^ 18=1000000000000000000:=by decide
    unfold E18;omega
   have hL:=y6e w (yk1 w) (fun i s=>rfl) (w.length-1) 1 0 (by omega) hpow
   rw[hr]at hL
   rw[show(0:Int)=((0:Nat):Int)from rfl,hL]
   by_cases hA:y4b r
   ·rw[if_pos hA]
    have hlt:=yfu r 0 hA
    have hp2:10 ^ r.length≤10 ^ 18:=Nat.pow_le_pow_right (by decide) hb2
    have h6:(10:Nat) ^ 18=1000000000000000000:=by decide
    have hdv:=yom r.length r rfl hA hb1 (.inl hb3)
    have hv1:1≤digV 0 r:=by
     obtain⟨c,t,e⟩:=List.exists_cons_of_ne_nil hb1
     have h5:=ygp t (10 * 0+(c.toNat-48))
     have hc:=hA c (by rw[e];simp)
     have hcn:c.toNat≠48:=by rw[e]at hn48;simpa using hn48
     have h7:1≤10 ^ t.length:=Nat.one_le_pow _ _ (by decide)
     have h8:1 * 1≤(10 * 0+(c.toNat-48)) * 10 ^ t.length:=Nat.mul_le_mul (by omega) h7
     rw[e,y9];omega
    simp only
    have hwr:IntKind.wrap .i64 (((0:Nat):Int)-((digV 0 r:Nat):Int)) = -((digV 0 r:Nat):Int):=by rw[IntKind.wrap_i64];omega
    rw[hwr]
    refine .inl ⟨-((digV 0 r:Nat):Int),by unfold E18;omega,?_,rfl⟩
    rw[y3b (by omega),show(-((digV 0 r:Nat):Int)).natAbs=digV 0 r by omega,hdv]
    exact hd1
   ·rw[if_neg hA]
    refine .inr ⟨hno fun m hm h1 e=>hA (by rw[e];exact(y7 m).1),rfl⟩
 ·have e0:(decide (0<(w.length:Int)) && (((w.getD 0 0).toNat:Int) == 45))=false:=by
   simp only[Bool.and_eq_false_iff,beq_eq_false_iff_ne,decide_eq_false_iff_not]
   by_cases h:0<w.length
   ·right
    intro h2
    exact hneg ⟨h,UInt8.toNat_inj.1 (by show _=45;omega)⟩
   ·left;omega
  rw[e0,cond_false]
  have hno:(∀ m:Nat,m<E18→w≠Lib.decDigits m)→∀ n:Int,n.natAbs<E18→w≠Lib.itoa n:=by
   intro h n hn e
   by_cases hn0:n<0
   ·rw[y3b hn0]at e
    exact hneg ⟨by rw[e];simp,by rw[e];simp⟩
   ·rw[ywe hn0]at e
    exact h n.natAbs hn e
  by_cases hbad:w=[]∨18<w.length∨(w.getD 0 0=48∧1<w.length)
  ·have e1:((((w.length:Int) == 0) || decide (18<(IntKind.wrap .i64 ((w.length:Int)-0)))) || ((((w.getD 0 0).toNat:Int) == 48) && decide (1<(w.length:Int))))=true:=by
    rw[IntKind.wrap_i64]
    rcases hbad with h|h|h
    ·subst h;simp
    ·simp;left;right;omega
    ·rw[h.1];simp;right;omega
   rw[e1,cond_true]
   refine .inr ⟨hno fun m hm e => ?_,rfl⟩
   obtain⟨d1,d2,d3,d4⟩:=y7 m
   rcases hbad with h|h|h
   ·rw[h]at e;exact d3 e.symm
   ·rw[e]at h;have:=(y0b m).2 hm;omega
   ·rw[e]at h
    by_cases hm0:1≤m
    ·exact d4 hm0 h.1
    ·obtain rfl:m=0:=by omega
     rw[Lib.decDigits_one (by decide)]at h
     simp at h
  ·have hb1:w≠[]:=fun h=>hbad (.inl h)
   have hb2:w.length≤18:=by
    by_cases h:w.length≤18
    ·exact h
    ·exact absurd (.inr (.inl (by omega))) hbad
   have hrp:0<w.length:=List.length_pos_iff.2 hb1
   have hb3:w.getD 0 0≠48∨w.length=1:=by
    by_cases h:w.getD 0 0=48
    ·right
     by_cases h1:1<w.length
     ·exact absurd (.inr (.inr ⟨h,h1⟩)) hbad
     ·omega
    ·exact .inl h
   have e1:((((w.length:Int) == 0) || decide (18<(IntKind.wrap .i64 ((w.length:Int)-0)))) || ((((w.getD 0 0).toNat:Int) == 48) && decide (1<(w.length:Int))))=false:=by
    rw[IntKind.wrap_i64]
    simp only[Bool.or_eq_false_iff,Bool.and_eq_false_iff,beq_eq_false_iff_ne,decide_eq_false_iff_not]
    refine⟨⟨by omega,by omega⟩,?_⟩
    rcases hb3 with h|h
    ·left
     intro h2
     exact h (UInt8.toNat_inj.1 (by show _=48;omega))
    ·right;omega
   rw[e1,cond_false]
   have hpow:(0+1) * 10 ^ (w.length-0)≤E18:=by
    have:10 ^ (w.length-0)≤10 ^ 18:=Nat.pow_le_pow_right (by decide) (by omega)
    have h6:(10:Nat) ^ 18=1000000000000000000:=by decide
    unfold E18;omega
   have hL:=y6e w (yk2 w) (fun i s=>rfl) (w.length-0) 0 0 (by omega) hpow
   rw[List.drop_zero]at hL
   rw[show(0:Int)=((0:Nat):Int)from rfl,hL]
   by_cases hA:y4b w
   ·rw[if_pos hA]
    have hlt:=yfu w 0 hA
    have hp2:10 ^ w.length≤10 ^ 18:=Nat.pow_le_pow_right (by decide) hb2
    have h6:(10:Nat) ^ 18=1000000000000000000:=by decide
    have hdv:=yom w.length w rfl hA hb1 hb3
    refine .inl ⟨((digV 0 w:Nat):Int),by unfold E18;omega,?_,rfl⟩
    rw[yqf,hdv]
   ·rw[if_neg hA]
    refine .inr ⟨hno fun m hm e=>hA (by rw[e];exact(y7 m).1),rfl⟩
theorem ygt (w:List UInt8) (hw:w.length≤1048576):yac w=zf w:=(ypk w).unique (y5b w hw)
end Go.Ab

namespace Go.Ab
open Go Go.Proofs
def zg (a0:Int) (a1:Int) (a2:Int):Bool:=
 (decide (a1≤a0) && decide (a0≤a2))
namespace N170
theorem DD:DOk Tryz.prog (Go.Ab.DD []):=yc _
theorem den (a0:Int) (a1:Int) (a2:Int)  : Den Tryz.prog 170 [.int .i64 a0,.int .i64 a1,.int .i64 a2] (.bool (zg a0 a1 a2)):=by
 generalize hR:zg a0 a1 a2=r
 unfold zg at hR
 refine di Tryz.func170 Tryz.ntmps170 Tryz.results170 ?_
 intro c hL hc hk
 clear hL
 simp only[pars,Nat.zero_add]
 iterate 2 refine rS ?_
 refine AWP.ret ?_
 subst hR
 exact es
end N170
def D_zg : DF
 | [x0,x1,x2]=>some (.bool (zg (rdI x0) (rdI x1) (rdI x2)),false,[wI .i64 x0,wI .i64 x1,wI .i64 x2])
 | _=>none
theorem yrd:OkD Tryz.prog 170 D_zg:=by unfold D_zg;exact dk N170.den
end Go.Ab

namespace Go.Ab
open Go Go.Proofs
def zxh (a0:Sector):Bool:=
 ((zg a0.From 0 359) && (zg a0.To 0 359))
namespace N331
theorem DD:DOk Tryz.prog (Go.Ab.DD [(170,dP D_zg)]):=ya yrd.e <| yc _
theorem dn:type_of% (@D_zg.eq_1):=by and_intros<;>intros<;>rfl
theorem ol:type_of% (@zg.eq_1):=@zg.eq_1
theorem den (a0:Sector)  : Den Tryz.prog 331 [.ep (yk a0)] (.bool (zxh a0)):=by
 generalize hR:zxh a0=r
 unfold zxh at hR
 refine di Tryz.func331 Tryz.ntmps331 Tryz.results331 ?_
 intro c hL hc hk
 obtain⟨hL0,_⟩:=hL
 have hw0:bwSector a0:=yt a0 hL0
 clear hL0
 simp only[pars,Nat.zero_add]
 iterate 2 refine rS ?_
 refine AWP.ret ?_
 subst hR
 exact es
end N331
def D_zxh : DF
 | [x0]=>some (.bool (zxh (rdP yq x0)),false,[wP yk yq x0])
 | _=>none
theorem yt7:OkD Tryz.prog 331 D_zxh:=by unfold D_zxh;exact dk N331.den
end Go.Ab

namespace Go.Ab
open Go Go.Proofs
def zvg (a0:(List UInt8)):Bool:=
 ((((a0 == [87]) || (a0 == [82])) || (a0 == [71])) || (a0 == [89]))
namespace N332
theorem DD:DOk Tryz.prog (Go.Ab.DD []):=yc _
theorem den (a0:(List UInt8))  : Den Tryz.prog 332 [.str a0] (.bool (zvg a0)):=by
 generalize hR:zvg a0=r
 unfold zvg at hR
 refine di Tryz.func332 Tryz.ntmps332 Tryz.results332 ?_
 intro c hL hc hk
 obtain⟨hL0,_⟩:=hL
 have hw0:a0.length<9223372036854775808:=Nat.lt_succ_of_le hL0
 clear hL0
 simp only[pars,Nat.zero_add]
 iterate 2 refine rS ?_
 refine AWP.ret ?_
 subst hR
 exact es
end N332
def D_zvg : DF
 | [x0]=>some (.bool (zvg (rdS x0)),false,[wS x0])
 | _=>none
theorem yg4:OkD Tryz.prog 332 D_zvg:=by unfold D_zvg;exact dk N332.den
end Go.Ab

namespace Go.Ab
open Go Go.Proofs
def zde (a0:Sector):Bool:=
 ((zxh a0) && (zvg a0.Color))
namespace N277
theorem DD:DOk Tryz.prog (Go.Ab.DD [(331,dP D_zxh),(332,dP D_zvg)]):=ya yt7.e <| ya yg4.e <| yc _
theorem dn:type_of% (And.intro @D_zxh.eq_1 <| @D_zvg.eq_1):=by and_intros<;>intros<;>rfl
theorem den (a0:Sector)  : Den Tryz.prog 277 [.ep (yk a0)] (.bool (zde a0)):=by
 generalize hR:zde a0=r
 unfold zde at hR
 refine di Tryz.func277 Tryz.ntmps277 Tryz.results277 ?_
 intro c hL hc hk
 obtain⟨hL0,_⟩:=hL
 have hw0:bwSector a0:=yt a0 hL0
 clear hL0
 simp only[pars,Nat.zero_add]
 iterate 2 refine rS ?_
 refine AWP.ret ?_
 subst hR
 exact es
end N277
def D_zde : DF
 | [x0]=>some (.bool (zde (rdP yq x0)),false,[wP yk yq x0])
 | _=>none
theorem y85:OkD Tryz.prog 277 D_zde:=by unfold D_zde;exact dk N277.den
end Go.Ab

namespace Go.Ab
open Go Go.Proofs
def zyh (a0:Sector):Int:=
 (bif (((IntKind.wrap .i64 ((IntKind.wrap .i64 (a0.To-a0.From))+360)).tmod 360) == 0)then 360 else(IntKind.wrap .i64 ((IntKind.wrap .i64 (a0.To-a0.From))+360)).tmod 360)
namespace N278
theorem DD:DOk Tryz.prog (Go.Ab.DD []):=yc _
theorem den (a0:Sector)  : Den Tryz.prog 278 [.ep (yk a0)] (.int .i64 (zyh a0)):=by
 generalize hR:zyh a0=r
 unfold zyh at hR
 refine di Tryz.func278 Tryz.ntmps278 Tryz.results278 ?_
 intro c hL hc hk
 obtain⟨hL0,_⟩:=hL
 have hw0:bwSector a0:=yt a0 hL0
 clear hL0
 simp only[pars,Nat.zero_add]
 refine rS ?_
 refine rD 11 ?_
 refine rS ?_
 refine AWP.cond rfl (fun hb => ?_) (fun hb => ?_)
 ·replace hR:=ct hR
  refine rS ?_
  refine AWP.ret ?_
  subst hR
  exact es
 ·replace hR:=cf hR
  refine rS ?_
  refine AWP.ret ?_
  subst hR
  exact es
end N278
def D_zyh : DF
 | [x0]=>some (.int .i64 (zyh (rdP yq x0)),false,[wP yk yq x0])
 | _=>none
theorem y77:OkD Tryz.prog 278 D_zyh:=by unfold D_zyh;exact dk N278.den
end Go.Ab

namespace Go.Ab
open Go Go.Proofs
def y20 (a0:(List Sector)) (i1:Nat) (s1:Unit):Except (Bool) (Unit):=
 (bif ((!(zde (a0.getD i1 default))) || (decide (0<(i1:Int)) && decide (((a0.getD i1 default).From)≤((a0.getD ((IntKind.wrap .i64 ((i1:Int)-1)).toNat) default).From))))then .error false else .ok ())
def ymv (a0:(List Sector)) (s1:Unit) (s2:Int):Except (Sum (Bool) (Int)) (Int):=
 (bif (decide (s2<(a0.length:Int)) && decide (1<(a0.length:Int)))then(bif decide (((IntKind.wrap .i64 ((IntKind.wrap .i64 (((a0.getD (((IntKind.wrap .i64 (s2+1)).tmod (a0.length:Int)).toNat) default).From)-((a0.getD ((s2).toNat) default).From)))+360)).tmod 360)<(zyh (a0.getD ((s2).toNat) default)))then .error (.inl false)else .ok (IntKind.wrap .i64 (s2+1)))else .error (.inr s2))
def zx (a0:(List Sector)):Bool:=
 (bif decide (12<(a0.length:Int))then false else(match ye (y20 a0) (a0.length-0) 0 ()with|.error e=>e|.ok s1=>(match y3 (ymv a0 s1) ((a0.length-((0:Int)).toNat)+1) 0 with|.error (.inl e)=>e|.error (.inr s2)=>true|.ok _=>default)))
namespace N200
theorem DD:DOk Tryz.prog (Go.Ab.DD [(277,dP D_zde),(278,dP D_zyh)]):=ya y85.e <| ya y77.e <| yc _
theorem dn:type_of% (And.intro @D_zde.eq_1 <| @D_zyh.eq_1):=by and_intros<;>intros<;>rfl
theorem o0 {p:Prop} (h:p:=by(first|(have hb2:=hb;simp only[Bool.and_eq_true,decide_eq_true_eq]at hb2;have h9:=y0bb hW2.1 hb2.1 (by omega);and_intros<;>first|omega|exact h9.1|exact h9.2));first|done|fail):p:=h
theorem den (a0:(List Sector))  : Den Tryz.prog 200 [encL 3 yk a0] (.bool (zx a0)):=by
 generalize hR:zx a0=r
 unfold zx at hR
 refine di Tryz.func200 Tryz.ntmps200 Tryz.results200 ?_
 intro c hL hc hk
 obtain⟨hL0,_⟩:=hL
 have hw0:a0.length<9223372036854775808:=Nat.lt_succ_of_le (yf hL0).1
 have hw1:∀ v∈a0,bwSector v:=fun v hv=>yt v ((yf hL0).2 v hv)
 clear hL0
 simp only[pars,Nat.zero_add]
 iterate 3 refine rS ?_
 refine AWP.cond rfl (fun hb => ?_) (fun hb => ?_)
 ·replace hR:=ct hR
  refine rS ?_
  refine AWP.ret ?_
  subst hR
  exact es
 ·replace hR:=cf hR
  refine rS ?_
  refine AWP.block ?_
  generalize hz1:ye (y20 a0) (a0.length-0) 0 ()=z1 at hR
  refine AWP.range (y20 a0) (fun i1 s1=>⟨[(0,encL 3 yk a0),(3,.int .i64 (a0.length:Int)),(4,.int .i64 (i1:Int))],[]⟩) (fun i1 s1=>True) (a0.length) 0 () [] hz1 ot wt sm ?_
  clear hz1
  intro i1 s1 hi1 hW1 hz1
  refine rS ?_
  refine AWP.cond rfl (fun hb => ?_) (fun hb => ?_)
  ·have hlt1:i1<a0.length:=ot
   rw[yj hlt1]at hz1;simp only[y20]at hz1
   refine rD 23 ?_
   refine AWP.cond rfl (fun hb => ?_) (fun hb => ?_)
   ·simp only[hb,cond_true]at hz1
    refine rS ?_
    refine AWP.ret ?_
    subst hz1
    dsimp only at hR
    subst hR
    exact es
   ·simp only[hb,cond_false]at hz1
    refine rS ?_
    exact⟨_,[],hlt1,wt,hz1,sm⟩
  ·obtain rfl:i1=a0.length:=ot
   rw[yi (Nat.le_refl _)]at hz1;subst hz1;dsimp only at hR
   refine AWP.exit ?_;refine yb ?_
   refine rS ?_
   refine AWP.block ?_
   generalize hz2:y3 (ymv a0 s1) ((a0.length-((0:Int)).toNat)+1) 0=z2 at hR
   refine AWP.whileW (ymv a0 s1) (fun s2=>⟨[(0,encL 3 yk a0),(3,.int .i64 (a0.length:Int)),(5,.int .i64 s2)],[]⟩) (fun s2=>0≤s2∧s2≤a0.length) (fun s2=>a0.length-(s2).toNat) ((a0.length-((0:Int)).toNat)+1) 0 [] hz2 m0 wt sm ?_
   clear hz2
   intro s2 k2 hW2 hm2 hz2
   simp only[ymv]at hz2
   refine rS ?_
   refine AWP.cond rfl (fun hb => ?_) (fun hb => ?_)
   ·simp only[hb,cond_true]at hz2
    refine rD 21 ?_
    refine AWP.cond rfl (fun hb => ?_) (fun hb => ?_)
    ·simp only[hb,cond_true]at hz2
     refine rS ?_
     refine AWP.ret ?_
     subst hz2
     dsimp only at hR
     subst hR
     exact es
    ·simp only[hb,cond_false]at hz2
     refine rS ?_
     exact⟨_,[],ms,wt,hz2,sm⟩
   ·simp only[hb,cond_false]at hz2
    refine AWP.exit ?_
    refine yb ?_
    subst hz2;dsimp only at hR
    refine rS ?_
    refine AWP.ret ?_
    subst hR
    exact es
end N200
def D_zx : DF
 | [x0]=>some (.bool (zx (rdL yq x0)),false,[wL 3 yk yq x0])
 | _=>none
theorem y70:OkD Tryz.prog 200 D_zx:=by unfold D_zx;exact dk N200.den
end Go.Ab

namespace Go.Ab
open Go Go.Proofs
def znd (a0:Int):(List UInt8):=
 (([[],[82],[71],[66,89],[66,89,66],[89,66],[89,66,89],[66,82,66],[82,87],[89]]:List (List UInt8)).getD ((a0).toNat) default)
namespace N173
theorem DD:DOk Tryz.prog (Go.Ab.DD []):=yc _
theorem lx {p:Prop} (h:p:=by(exact lxx);first|done|fail):p:=h
theorem den (a0:Int) (hp0:0≤a0) (hp1:a0≤9):Den Tryz.prog 173 [.int .i64 a0] (.str (znd a0)):=by
 generalize hR:znd a0=r
 unfold znd at hR
 refine di Tryz.func173 Tryz.ntmps173 Tryz.results173 ?_
 intro c hL hc hk
 clear hL
 simp only[pars,Nat.zero_add]
 iterate 2 refine rS ?_
 refine AWP.ret ?_
 subst hR
 exact es
end N173
def D_znd : DF
 | [x0]=>some (.str (znd (rdI x0)),false,[wI .i64 x0,0≤(rdI x0),(rdI x0)≤9])
 | _=>none
theorem ybw:OkD Tryz.prog 173 D_znd:=by unfold D_znd;exact dk N173.den
end Go.Ab

namespace Go.Ab
open Go Go.Proofs
def zne (a0:Int):(List UInt8):=
 (([[],[99,97,110],[99,111,110,101],[117,112],[98,97,115,101],[100,111,119,110],[112,111,105,110,116],[98,97,108,108,115],[98,97,108,108],[99,114,111,115,115]]:List (List UInt8)).getD ((a0).toNat) default)
namespace N174
theorem DD:DOk Tryz.prog (Go.Ab.DD []):=yc _
theorem lx {p:Prop} (h:p:=by(exact lxx);first|done|fail):p:=h
theorem den (a0:Int) (hp0:0≤a0) (hp1:a0≤9):Den Tryz.prog 174 [.int .i64 a0] (.str (zne a0)):=by
 generalize hR:zne a0=r
 unfold zne at hR
 refine di Tryz.func174 Tryz.ntmps174 Tryz.results174 ?_
 intro c hL hc hk
 clear hL
 simp only[pars,Nat.zero_add]
 iterate 2 refine rS ?_
 refine AWP.ret ?_
 subst hR
 exact es
end N174
def D_zne : DF
 | [x0]=>some (.str (zne (rdI x0)),false,[wI .i64 x0,0≤(rdI x0),(rdI x0)≤9])
 | _=>none
theorem yrw:OkD Tryz.prog 174 D_zne:=by unfold D_zne;exact dk N174.den
end Go.Ab

namespace Go.Ab
open Go Go.Proofs
def zy (a0:Int):(List (List UInt8)):=
 (bif (a0 == 1)then[[99,97,110],[112,105,108,108,97,114],[115,112,97,114]]else(bif (a0 == 2)then[[99,111,110,101],[112,105,108,108,97,114],[115,112,97,114]]else(bif (a0 == 8)then[[115,112,104,101,114,101],[112,105,108,108,97,114],[115,112,97,114]]else(bif (a0 == 9)then[[99,97,110],[99,111,110,101],[112,105,108,108,97,114],[115,112,97,114],[115,112,104,101,114,101]]else[[112,105,108,108,97,114],[115,112,97,114]]))))
namespace N176
theorem DD:DOk Tryz.prog (Go.Ab.DD []):=yc _
theorem lx {p:Prop} (h:p:=by(exact lxx);first|done|fail):p:=h
theorem den (a0:Int)  : Den Tryz.prog 176 [.int .i64 a0] (ownL 9 1 eS (zy a0)):=by
 generalize hR:zy a0=r
 unfold zy at hR
 refine di Tryz.func176 Tryz.ntmps176 Tryz.results176 ?_
 intro c hL hc hk
 clear hL
 simp only[pars,Nat.zero_add]
 iterate 3 refine rS ?_
 refine AWP.cond rfl (fun hb => ?_) (fun hb => ?_)
 ·replace hR:=ct hR
  refine rS ?_
  refine AWP.ret ?_
  subst hR
  exact es
 ·replace hR:=cf hR
  refine rS ?_
  refine AWP.cond rfl (fun hb => ?_) (fun hb => ?_)
  ·replace hR:=ct hR
   refine rS ?_
   refine AWP.ret ?_
   subst hR
   exact es
  ·replace hR:=cf hR
   refine rS ?_
   refine AWP.cond rfl (fun hb => ?_) (fun hb => ?_)
   ·replace hR:=ct hR
    refine rS ?_
    refine AWP.ret ?_
    subst hR
    exact es
   ·replace hR:=cf hR
    refine rS ?_
    refine AWP.cond rfl (fun hb => ?_) (fun hb => ?_)
    ·replace hR:=ct hR
     refine rS ?_
     refine AWP.ret ?_
     subst hR
     exact es
    ·replace hR:=cf hR
     refine rS ?_
     refine AWP.ret ?_
     subst hR
     exact es
end N176
def D_zy : DF
 | [x0]=>some (ownL 9 1 eS (zy (rdI x0)),false,[wI .i64 x0])
 | _=>none
theorem yf1:OkD Tryz.prog 176 D_zy:=by unfold D_zy;exact dk N176.den
end Go.Ab

namespace Go.Ab
open Go Go.Proofs
def zbc (a0:Int):Bool:=
 (zg a0 1 9)
namespace N307
theorem DD:DOk Tryz.prog (Go.Ab.DD [(170,dP D_zg)]):=ya yrd.e <| yc _
theorem dn:type_of% (@D_zg.eq_1):=by and_intros<;>intros<;>rfl
theorem ol:type_of% (@zg.eq_1):=@zg.eq_1
theorem den (a0:Int)  : Den Tryz.prog 307 [.int .i64 a0] (.bool (zbc a0)):=by
 generalize hR:zbc a0=r
 unfold zbc at hR
 refine di Tryz.func307 Tryz.ntmps307 Tryz.results307 ?_
 intro c hL hc hk
 clear hL
 simp only[pars,Nat.zero_add]
 iterate 2 refine rS ?_
 refine AWP.ret ?_
 subst hR
 exact es
end N307
def D_zbc : DF
 | [x0]=>some (.bool (zbc (rdI x0)),false,[wI .i64 x0])
 | _=>none
theorem y1y:OkD Tryz.prog 307 D_zbc:=by unfold D_zbc;exact dk N307.den
end Go.Ab

namespace Go.Ab
open Go Go.Proofs
def ygn (a0:Mark) (i1:Nat) (s1:Unit):Except (Bool) (Unit):=
 (bif (((zy a0.Kind).getD i1 default) == a0.Shape)then .error true else .ok ())
def zgb (a0:Mark):Bool:=
 (bif (a0.Kind == 0)then(a0.Kind == 0 && (a0.Colors == [] && (a0.Shape == [] && a0.Topmark == [])))else(bif (((!(zbc a0.Kind)) || (a0.Colors != (znd a0.Kind))) || ((a0.Topmark != []) && (a0.Topmark != (zne a0.Kind))))then false else(match ye (ygn a0) (((zy a0.Kind).length)-0) 0 ()with|.error e=>e|.ok s1=>false)))
namespace N273
theorem DD:DOk Tryz.prog (Go.Ab.DD [(173,dP D_znd),(174,dP D_zne),(176,dP D_zy),(307,dP D_zbc)]):=ya ybw.e <| ya yrw.e <| ya yf1.e <| ya y1y.e <| yc _
theorem dn:type_of% (And.intro @D_znd.eq_1 <| And.intro @D_zne.eq_1 <| And.intro @D_zy.eq_1 <| @D_zbc.eq_1):=by and_intros<;>intros<;>rfl
theorem o0 {p:Prop} (h:p:=by(first|(simp only[zbc,zg];refine⟨fun h => ?_,fun h _ => ?_⟩<;>(simp at h;omega)));first|done|fail):p:=h
theorem den (a0:Mark)  : Den Tryz.prog 273 [.ep (y1c a0)] (.bool (zgb a0)):=by
 generalize hR:zgb a0=r
 unfold zgb at hR
 refine di Tryz.func273 Tryz.ntmps273 Tryz.results273 ?_
 intro c hL hc hk
 obtain⟨hL0,_⟩:=hL
 have hw0:bwMark a0:=y0d a0 hL0
 clear hL0
 simp only[pars,Nat.zero_add]
 have hs5:(zy a0.Kind).length≤5:=by unfold zy;simp only[Bool.cond_eq_ite];(repeat' split)<;>simp
 iterate 2 refine rS ?_
 refine AWP.cond rfl (fun hb => ?_) (fun hb => ?_)
 ·replace hR:=ct hR
  refine rS ?_
  refine AWP.ret ?_
  subst hR
  exact es
 ·replace hR:=cf hR
  refine rD 37 ?_
  refine AWP.cond rfl (fun hb => ?_) (fun hb => ?_)
  ·replace hR:=ct hR
   refine rS ?_
   refine AWP.ret ?_
   subst hR
   exact es
  ·replace hR:=cf hR
   iterate 2 refine rS ?_
   refine AWP.block ?_
   generalize hz1:ye (ygn a0) (((zy a0.Kind).length)-0) 0 ()=z1 at hR
   refine AWP.range (ygn a0) (fun i1 s1=>⟨[(0,.ep (y1c a0)),(3,.ref 0 1 0 ((zy a0.Kind).length)),(4,.int .i64 (i1:Int))],[.arr 9 1 (zy a0.Kind).length (fun j=>eS ((zy a0.Kind).getD j default))]⟩) (fun i1 s1=>True) (((zy a0.Kind).length)) 0 () [0] hz1 ot wt sm ?_
   clear hz1
   intro i1 s1 hi1 hW1 hz1
   refine rS ?_
   refine AWP.cond rfl (fun hb => ?_) (fun hb => ?_)
   ·have hlt1:i1<((zy a0.Kind).length):=ot
    rw[yj hlt1]at hz1;simp only[ygn]at hz1
    refine rD 8 ?_
    refine AWP.cond rfl (fun hb => ?_) (fun hb => ?_)
    ·simp only[hb,cond_true]at hz1
     refine rS ?_
     refine AWP.ret ?_
     subst hz1
     dsimp only at hR
     subst hR
     exact es
    ·simp only[hb,cond_false]at hz1
     refine rS ?_
     exact⟨_,[0],hlt1,wt,hz1,sm⟩
   ·obtain rfl:i1=((zy a0.Kind).length):=ot
    rw[yi (Nat.le_refl _)]at hz1;subst hz1;dsimp only at hR
    refine AWP.exit ?_;refine yb ?_
    refine rS ?_
    refine AWP.ret ?_
    subst hR
    exact es
end N273
def D_zgb : DF
 | [x0]=>some (.bool (zgb (rdP ybf x0)),false,[wP y1c ybf x0])
 | _=>none
theorem y1x:OkD Tryz.prog 273 D_zgb:=by unfold D_zgb;exact dk N273.den
end Go.Ab

namespace Go.Ab
open Go Go.Proofs
def zie (a0:Mark):Bool:=
 (zgb a0)
namespace N197
theorem DD:DOk Tryz.prog (Go.Ab.DD [(273,dP D_zgb)]):=ya y1x.e <| yc _
theorem dn:type_of% (@D_zgb.eq_1):=by and_intros<;>intros<;>rfl
theorem den (a0:Mark)  : Den Tryz.prog 197 [.agg (y1c a0)] (.bool (zie a0)):=by
 generalize hR:zie a0=r
 unfold zie at hR
 refine di Tryz.func197 Tryz.ntmps197 Tryz.results197 ?_
 intro c hL hc hk
 obtain⟨hL0,_⟩:=hL
 have hw0:bwMark a0:=y0d a0 hL0
 clear hL0
 simp only[pars,Nat.zero_add]
 iterate 2 refine rS ?_
 refine AWP.ret ?_
 subst hR
 exact es
end N197
def D_zie : DF
 | [x0]=>some (.bool (zie (rdG ybf x0)),false,[wG y1c ybf x0])
 | _=>none
theorem ye8:OkD Tryz.prog 197 D_zie:=by unfold D_zie;exact dk N197.den
end Go.Ab

namespace Go.Ab
open Go Go.Proofs
def zzf (a0:Int):Bool:=
 (decide (97≤a0) && decide (a0≤122))
namespace N272
theorem DD:DOk Tryz.prog (Go.Ab.DD []):=yc _
theorem den (a0:Int)  : Den Tryz.prog 272 [.int .u8 a0] (.bool (zzf a0)):=by
 generalize hR:zzf a0=r
 unfold zzf at hR
 refine di Tryz.func272 Tryz.ntmps272 Tryz.results272 ?_
 intro c hL hc hk
 clear hL
 simp only[pars,Nat.zero_add]
 iterate 2 refine rS ?_
 refine AWP.ret ?_
 subst hR
 exact es
end N272
def D_zzf : DF
 | [x0]=>some (.bool (zzf (rdI x0)),false,[wI .u8 x0])
 | _=>none
theorem yc8:OkD Tryz.prog 272 D_zzf:=by unfold D_zzf;exact dk N272.den
end Go.Ab

namespace Go.Ab
open Go Go.Proofs
def yvx (a0:(List UInt8)) (i1:Nat) (s1:Unit):Except (Bool) (Unit):=
 (bif ((!(zzf ((a0.getD i1 0).toNat:Int))) && (!(zyf ((a0.getD i1 0).toNat:Int))))then .error false else .ok ())
def zvd (a0:(List UInt8)):Bool:=
 (bif (((a0 == []) || decide (10<(a0.length:Int))) || (!(zzf ((a0.getD 0 0).toNat:Int))))then false else(match ye (yvx a0) (a0.length-0) 0 ()with|.error e=>e|.ok s1=>true))
namespace N195
theorem DD:DOk Tryz.prog (Go.Ab.DD [(253,dP D_zyf),(272,dP D_zzf)]):=ya ydy.e <| ya yc8.e <| yc _
theorem dn:type_of% (And.intro @D_zyf.eq_1 <| @D_zzf.eq_1):=by and_intros<;>intros<;>rfl
theorem den (a0:(List UInt8))  : Den Tryz.prog 195 [.str a0] (.bool (zvd a0)):=by
 generalize hR:zvd a0=r
 unfold zvd at hR
 refine di Tryz.func195 Tryz.ntmps195 Tryz.results195 ?_
 intro c hL hc hk
 obtain⟨hL0,_⟩:=hL
 have hw0:a0.length<9223372036854775808:=Nat.lt_succ_of_le hL0
 clear hL0
 simp only[pars,Nat.zero_add]
 iterate 2 refine rS ?_
 refine AWP.cond rfl (fun hb => ?_) (fun hb => ?_)
 ·replace hR:=ct hR
  refine rS ?_
  refine AWP.ret ?_
  subst hR
  exact es
 ·replace hR:=cf hR
  refine rS ?_
  refine AWP.block ?_
  generalize hz1:ye (yvx a0) (a0.length-0) 0 ()=z1 at hR
  refine AWP.range (yvx a0) (fun i1 s1=>⟨[(0,.str a0),(3,.int .i64 (i1:Int))],[]⟩) (fun i1 s1=>True) (a0.length) 0 () [] hz1 ot wt sm ?_
  clear hz1
  intro i1 s1 hi1 hW1 hz1
  refine rS ?_
  refine AWP.cond rfl (fun hb => ?_) (fun hb => ?_)
  ·have hlt1:i1<a0.length:=ot
   rw[yj hlt1]at hz1;simp only[yvx]at hz1
   refine rS ?_
   refine AWP.cond rfl (fun hb => ?_) (fun hb => ?_)
   ·simp only[hb,cond_true]at hz1
    refine rS ?_
    refine AWP.ret ?_
    subst hz1
    dsimp only at hR
    subst hR
    exact es
   ·simp only[hb,cond_false]at hz1
    refine rS ?_
    exact⟨_,[],hlt1,wt,hz1,sm⟩
  ·obtain rfl:i1=a0.length:=ot
   rw[yi (Nat.le_refl _)]at hz1;subst hz1;dsimp only at hR
   refine AWP.exit ?_;refine yb ?_
   refine rS ?_
   refine AWP.ret ?_
   subst hR
   exact es
end N195
def D_zvd : DF
 | [x0]=>some (.bool (zvd (rdS x0)),false,[wS x0])
 | _=>none
theorem yd5:OkD Tryz.prog 195 D_zvd:=by unfold D_zvd;exact dk N195.den
end Go.Ab

namespace Go.Ab
open Go Go.Proofs
def ywt (a0:(List Int)) (i1:Nat) (s1:Int):Except (Int) (Int):=
 .ok (IntKind.wrap .i64 (s1+(a0.getD i1 default)))
def zqf (a0:(List Int)):Int:=
 (bif ((a0.length:Int) == 0)then 1 else(match ye (ywt a0) (a0.length-0) 0 0 with|.error e=>e|.ok s1=>s1))
namespace N356
theorem DD:DOk Tryz.prog (Go.Ab.DD []):=yc _
theorem den (a0:(List Int))  : Den Tryz.prog 356 [encL 1 yr a0] (.int .i64 (zqf a0)):=by
 generalize hR:zqf a0=r
 unfold zqf at hR
 refine di Tryz.func356 Tryz.ntmps356 Tryz.results356 ?_
 intro c hL hc hk
 obtain⟨hL0,_⟩:=hL
 have hw0:a0.length<9223372036854775808:=Nat.lt_succ_of_le (yf hL0).1
 clear hL0
 simp only[pars,Nat.zero_add]
 iterate 2 refine rS ?_
 refine AWP.cond rfl (fun hb => ?_) (fun hb => ?_)
 ·replace hR:=ct hR
  refine rS ?_
  refine AWP.ret ?_
  subst hR
  exact es
 ·replace hR:=cf hR
  iterate 2 refine rS ?_
  refine AWP.block ?_
  generalize hz1:ye (ywt a0) (a0.length-0) 0 0=z1 at hR
  refine AWP.range (ywt a0) (fun i1 s1=>⟨[(0,encL 1 yr a0),(3,.int .i64 s1),(4,.int .i64 (i1:Int))],[]⟩) (fun i1 s1=>True) (a0.length) 0 0 [] hz1 ot wt sm ?_
  clear hz1
  intro i1 s1 hi1 hW1 hz1
  refine rS ?_
  refine AWP.cond rfl (fun hb => ?_) (fun hb => ?_)
  ·have hlt1:i1<a0.length:=ot
   rw[yj hlt1]at hz1;simp only[ywt]at hz1
   iterate 2 refine rS ?_
   exact⟨_,[],hlt1,wt,hz1,sm⟩
  ·obtain rfl:i1=a0.length:=ot
   rw[yi (Nat.le_refl _)]at hz1;subst hz1;dsimp only at hR
   refine AWP.exit ?_;refine yb ?_
   refine rS ?_
   refine AWP.ret ?_
   subst hR
   exact es
end N356
def D_zqf : DF
 | [x0]=>some (.int .i64 (zqf (rdL ywb x0)),false,[wL 1 yr ywb x0])
 | _=>none
theorem yy7:OkD Tryz.prog 356 D_zqf:=by unfold D_zqf;exact dk N356.den
end Go.Ab

namespace Go.Ab
open Go Go.Proofs
def yws (a0:(List Int)) (i1:Nat) (s1:Unit):Except (Bool) (Unit):=
 (bif (!(zg (a0.getD i1 default) 1 9))then .error false else .ok ())
def zoe (a0:(List Int)):Bool:=
 (match ye (yws a0) (a0.length-0) 0 ()with|.error e=>e|.ok s1=>((decide ((a0.length:Int)≤4) && (!(((a0.length:Int) == 1) && ((a0.getD 0 default) == 1)))) && decide ((zqf a0)≤12)))
namespace N309
theorem DD:DOk Tryz.prog (Go.Ab.DD [(170,dP D_zg),(356,dP D_zqf)]):=ya yrd.e <| ya yy7.e <| yc _
theorem dn:type_of% (And.intro @D_zg.eq_1 <| @D_zqf.eq_1):=by and_intros<;>intros<;>rfl
theorem ol:type_of% (@zg.eq_1):=@zg.eq_1
theorem den (a0:(List Int))  : Den Tryz.prog 309 [encL 1 yr a0] (.bool (zoe a0)):=by
 generalize hR:zoe a0=r
 unfold zoe at hR
 refine di Tryz.func309 Tryz.ntmps309 Tryz.results309 ?_
 intro c hL hc hk
 obtain⟨hL0,_⟩:=hL
 have hw0:a0.length<9223372036854775808:=Nat.lt_succ_of_le (yf hL0).1
 clear hL0
 simp only[pars,Nat.zero_add]
 iterate 2 refine rS ?_
 refine AWP.block ?_
 generalize hz1:ye (yws a0) (a0.length-0) 0 ()=z1 at hR
 refine AWP.range (yws a0) (fun i1 s1=>⟨[(0,encL 1 yr a0),(3,.int .i64 (i1:Int))],[]⟩) (fun i1 s1=>True) (a0.length) 0 () [] hz1 ot wt sm ?_
 clear hz1
 intro i1 s1 hi1 hW1 hz1
 refine rS ?_
 refine AWP.cond rfl (fun hb => ?_) (fun hb => ?_)
 ·have hlt1:i1<a0.length:=ot
  rw[yj hlt1]at hz1;simp only[yws]at hz1
  refine rS ?_
  refine AWP.cond rfl (fun hb => ?_) (fun hb => ?_)
  ·simp only[hb,cond_true]at hz1
   refine rS ?_
   refine AWP.ret ?_
   subst hz1
   dsimp only at hR
   subst hR
   exact es
  ·simp only[hb,cond_false]at hz1
   refine rS ?_
   exact⟨_,[],hlt1,wt,hz1,sm⟩
 ·obtain rfl:i1=a0.length:=ot
  rw[yi (Nat.le_refl _)]at hz1;subst hz1;dsimp only at hR
  refine AWP.exit ?_;refine yb ?_
  refine rS ?_
  refine AWP.ret ?_
  subst hR
  exact es
end N309
def D_zoe : DF
 | [x0]=>some (.bool (zoe (rdL ywb x0)),false,[wL 1 yr ywb x0])
 | _=>none
theorem yp7:OkD Tryz.prog 309 D_zoe:=by unfold D_zoe;exact dk N309.den
end Go.Ab

namespace Go.Ab
open Go Go.Proofs
def zig (a0:Int):Int:=
 (bif (a0 == 87)then 1 else(bif (a0 == 82)then 2 else(bif (a0 == 71)then 3 else(bif (a0 == 89)then 4 else 0))))
namespace N366
theorem DD:DOk Tryz.prog (Go.Ab.DD []):=yc _
theorem den (a0:Int)  : Den Tryz.prog 366 [.int .u8 a0] (.int .i64 (zig a0)):=by
 generalize hR:zig a0=r
 unfold zig at hR
 refine di Tryz.func366 Tryz.ntmps366 Tryz.results366 ?_
 intro c hL hc hk
 clear hL
 simp only[pars,Nat.zero_add]
 iterate 3 refine rS ?_
 refine AWP.cond rfl (fun hb => ?_) (fun hb => ?_)
 ·replace hR:=ct hR
  refine rS ?_
  refine AWP.ret ?_
  subst hR
  exact es
 ·replace hR:=cf hR
  refine rS ?_
  refine AWP.cond rfl (fun hb => ?_) (fun hb => ?_)
  ·replace hR:=ct hR
   refine rS ?_
   refine AWP.ret ?_
   subst hR
   exact es
  ·replace hR:=cf hR
   refine rS ?_
   refine AWP.cond rfl (fun hb => ?_) (fun hb => ?_)
   ·replace hR:=ct hR
    refine rS ?_
    refine AWP.ret ?_
    subst hR
    exact es
   ·replace hR:=cf hR
    refine rS ?_
    refine AWP.cond rfl (fun hb => ?_) (fun hb => ?_)
    ·replace hR:=ct hR
     refine rS ?_
     refine AWP.ret ?_
     subst hR
     exact es
    ·replace hR:=cf hR
     refine rS ?_
     refine AWP.ret ?_
     subst hR
     exact es
end N366
def D_zig : DF
 | [x0]=>some (.int .i64 (zig (rdI x0)),false,[wI .u8 x0])
 | _=>none
theorem y76:OkD Tryz.prog 366 D_zig:=by unfold D_zig;exact dk N366.den
end Go.Ab

namespace Go.Ab
open Go Go.Proofs
def y0i (a0:(List UInt8)) (i1:Nat) (s1:Unit):Except (Bool) (Unit):=
 (bif (((zig ((a0.getD i1 0).toNat:Int)) == 0) || (decide (0<(i1:Int)) && decide ((zig ((a0.getD i1 0).toNat:Int))≤(zig ((a0.getD ((IntKind.wrap .i64 ((i1:Int)-1)).toNat) 0).toNat:Int)))))then .error false else .ok ())
def zfd (a0:(List UInt8)):Bool:=
 (match ye (y0i a0) (a0.length-0) 0 ()with|.error e=>e|.ok s1=>(decide (1≤(a0.length:Int)) && decide ((a0.length:Int)≤3)))
namespace N327
theorem DD:DOk Tryz.prog (Go.Ab.DD [(366,dP D_zig)]):=ya y76.e <| yc _
theorem dn:type_of% (@D_zig.eq_1):=by and_intros<;>intros<;>rfl
theorem den (a0:(List UInt8))  : Den Tryz.prog 327 [.str a0] (.bool (zfd a0)):=by
 generalize hR:zfd a0=r
 unfold zfd at hR
 refine di Tryz.func327 Tryz.ntmps327 Tryz.results327 ?_
 intro c hL hc hk
 obtain⟨hL0,_⟩:=hL
 have hw0:a0.length<9223372036854775808:=Nat.lt_succ_of_le hL0
 clear hL0
 simp only[pars,Nat.zero_add]
 iterate 2 refine rS ?_
 refine AWP.block ?_
 generalize hz1:ye (y0i a0) (a0.length-0) 0 ()=z1 at hR
 refine AWP.range (y0i a0) (fun i1 s1=>⟨[(0,.str a0),(3,.int .i64 (i1:Int))],[]⟩) (fun i1 s1=>True) (a0.length) 0 () [] hz1 ot wt sm ?_
 clear hz1
 intro i1 s1 hi1 hW1 hz1
 refine rS ?_
 refine AWP.cond rfl (fun hb => ?_) (fun hb => ?_)
 ·have hlt1:i1<a0.length:=ot
  rw[yj hlt1]at hz1;simp only[y0i]at hz1
  refine rD 21 ?_
  refine AWP.cond rfl (fun hb => ?_) (fun hb => ?_)
  ·simp only[hb,cond_true]at hz1
   refine rS ?_
   refine AWP.ret ?_
   subst hz1
   dsimp only at hR
   subst hR
   exact es
  ·simp only[hb,cond_false]at hz1
   refine rS ?_
   exact⟨_,[],hlt1,wt,hz1,sm⟩
 ·obtain rfl:i1=a0.length:=ot
  rw[yi (Nat.le_refl _)]at hz1;subst hz1;dsimp only at hR
  refine AWP.exit ?_;refine yb ?_
  refine rS ?_
  refine AWP.ret ?_
  subst hR
  exact es
end N327
def D_zfd : DF
 | [x0]=>some (.bool (zfd (rdS x0)),false,[wS x0])
 | _=>none
theorem yn5:OkD Tryz.prog 327 D_zfd:=by unfold D_zfd;exact dk N327.den
end Go.Ab

namespace Go.Ab
open Go Go.Proofs
def zdi (a0:Int):Bool:=
 (zg a0 1 8)
namespace N326
theorem DD:DOk Tryz.prog (Go.Ab.DD [(170,dP D_zg)]):=ya yrd.e <| yc _
theorem dn:type_of% (@D_zg.eq_1):=by and_intros<;>intros<;>rfl
theorem ol:type_of% (@zg.eq_1):=@zg.eq_1
theorem den (a0:Int)  : Den Tryz.prog 326 [.int .i64 a0] (.bool (zdi a0)):=by
 generalize hR:zdi a0=r
 unfold zdi at hR
 refine di Tryz.func326 Tryz.ntmps326 Tryz.results326 ?_
 intro c hL hc hk
 clear hL
 simp only[pars,Nat.zero_add]
 iterate 2 refine rS ?_
 refine AWP.ret ?_
 subst hR
 exact es
end N326
def D_zdi : DF
 | [x0]=>some (.bool (zdi (rdI x0)),false,[wI .i64 x0])
 | _=>none
theorem y07:OkD Tryz.prog 326 D_zdi:=by unfold D_zdi;exact dk N326.den
end Go.Ab

namespace Go.Ab
open Go Go.Proofs
def zag (a0:Character):Bool:=
 (bif ((!(zdi a0.Kind)) || (!(zfd a0.Colors)))then false else(bif (a0.Kind == 1)then(((a0.Group.length:Int) == 0) && (a0.Letter == []))else(bif (a0.Kind == 3)then(((a0.Group.length:Int) == 0) && (a0.Letter == []))else(bif (a0.Kind == 6)then(bif (a0.Letter == [76])then(((a0.Group.length:Int) == 1) && ((a0.Group.getD 0 default) == 6))else(((a0.Letter == []) && decide ((a0.Group.length:Int)≤1)) && (zoe a0.Group)))else(bif (a0.Kind == 7)then(bif (a0.Letter == [76])then(((a0.Group.length:Int) == 1) && ((a0.Group.getD 0 default) == 6))else(((a0.Letter == []) && decide ((a0.Group.length:Int)≤1)) && (zoe a0.Group)))else(bif (a0.Kind == 8)then(((((a0.Group.length:Int) == 0) && ((a0.Letter.length:Int) == 1)) && decide (65≤((a0.Letter.getD 0 0).toNat:Int))) && decide (((a0.Letter.getD 0 0).toNat:Int)≤90))else((a0.Letter == []) && (zoe a0.Group))))))))
namespace N274
theorem DD:DOk Tryz.prog (Go.Ab.DD [(309,dP D_zoe),(326,dP D_zdi),(327,dP D_zfd)]):=ya yp7.e <| ya y07.e <| ya yn5.e <| yc _
theorem dn:type_of% (And.intro @D_zoe.eq_1 <| And.intro @D_zdi.eq_1 <| @D_zfd.eq_1):=by and_intros<;>intros<;>rfl
theorem den (a0:Character)  : Den Tryz.prog 274 [.ep (yg a0)] (.bool (zag a0)):=by
 generalize hR:zag a0=r
 unfold zag at hR
 refine di Tryz.func274 Tryz.ntmps274 Tryz.results274 ?_
 intro c hL hc hk
 obtain⟨hL0,_⟩:=hL
 have hw0:bwCharacter a0:=yn a0 hL0
 clear hL0
 simp only[pars,Nat.zero_add]
 iterate 2 refine rS ?_
 refine AWP.cond rfl (fun hb => ?_) (fun hb => ?_)
 ·replace hR:=ct hR
  refine rS ?_
  refine AWP.ret ?_
  subst hR
  exact es
 ·replace hR:=cf hR
  iterate 2 refine rS ?_
  refine AWP.cond rfl (fun hb => ?_) (fun hb => ?_)
  ·replace hR:=ct hR
   refine AWP.skip ?_
   refine AWP.cond rfl (fun hb => ?_) (fun hb => ?_)
   ·refine rS ?_
    refine AWP.ret ?_
    subst hR
    exact es
   ·exfalso;simp_all
  ·replace hR:=cf hR
   refine rS ?_
   refine AWP.cond rfl (fun hb => ?_) (fun hb => ?_)
   ·replace hR:=ct hR
    refine rS ?_
    refine AWP.ret ?_
    subst hR
    exact es
   ·replace hR:=cf hR
    refine rS ?_
    refine AWP.cond rfl (fun hb => ?_) (fun hb => ?_)
    ·replace hR:=ct hR
     refine AWP.skip ?_
     refine AWP.cond rfl (fun hb => ?_) (fun hb => ?_)
     ·refine rS ?_
      refine AWP.cond rfl (fun hb => ?_) (fun hb => ?_)
      ·replace hR:=ct hR
       refine rS ?_
       refine AWP.ret ?_
       subst hR
       exact es
      ·replace hR:=cf hR
       refine rS ?_
       refine AWP.ret ?_
       subst hR
       exact es
     ·exfalso;simp_all
    ·replace hR:=cf hR
     refine rS ?_
     refine AWP.cond rfl (fun hb => ?_) (fun hb => ?_)
     ·replace hR:=ct hR
      refine rS ?_
      refine AWP.cond rfl (fun hb => ?_) (fun hb => ?_)
      ·replace hR:=ct hR
       refine rS ?_
       refine AWP.ret ?_
       subst hR
       exact es
      ·replace hR:=cf hR
       refine rS ?_
       refine AWP.ret ?_
       subst hR
       exact es
     ·replace hR:=cf hR
      refine rS ?_
      refine AWP.cond rfl (fun hb => ?_) (fun hb => ?_)
      ·replace hR:=ct hR
       refine rS ?_
       refine AWP.ret ?_
       subst hR
       exact es
      ·replace hR:=cf hR
       refine rS ?_
       refine AWP.ret ?_
       subst hR
       exact es
end N274
def D_zag : DF
 | [x0]=>some (.bool (zag (rdP yd x0)),false,[wP yg yd x0])
 | _=>none
theorem yj8:OkD Tryz.prog 274 D_zag:=by unfold D_zag;exact dk N274.den
end Go.Ab

namespace Go.Ab
open Go Go.Proofs
def ymo (a0:Int) (i1:Nat) (s1:List Int):Except ((List Int)) (List Int):=
 (bif ((((([[46,45],[45,46,46,46],[45,46,45,46],[45,46,46],[46],[46,46,45,46],[45,45,46],[46,46,46,46],[46,46],[46,45,45,45],[45,46,45],[46,45,46,46],[45,45],[45,46],[45,45,45],[46,45,45,46],[45,45,46,45],[46,45,46],[46,46,46],[45],[46,46,45],[46,46,46,45],[46,45,45],[45,46,46,45],[45,46,45,45],[45,45,46,46]]:List (List UInt8)).getD ((IntKind.wrap .u8 (a0-65)).toNat) default).getD i1 0).toNat:Int) == 46)then .ok (s1++([5]:List Int))else .ok (s1++([15]:List Int)))
def zgc (a0:Int):(List Int):=
 (match ye (ymo a0) (((([[46,45],[45,46,46,46],[45,46,45,46],[45,46,46],[46],[46,46,45,46],[45,45,46],[46,46,46,46],[46,46],[46,45,45,45],[45,46,45],[46,45,46,46],[45,45],[45,46],[45,45,45],[46,45,45,46],[45,45,46,45],[46,45,46],[46,46,46],[45],[46,46,45],[46,46,46,45],[46,45,45],[45,46,46,45],[45,46,45,45],[45,45,46,46]]:List (List UInt8)).getD ((IntKind.wrap .u8 (a0-65)).toNat) default).length)-0) 0 ([]:List Int)with|.error e=>e|.ok s1=>s1)
namespace N367
theorem DD:DOk Tryz.prog (Go.Ab.DD []):=yc _
theorem lx {p:Prop} (h:p:=by(exact lxx);first|done|fail):p:=h
theorem den (a0:Int) (hp0:65≤a0) (hp1:a0≤90):Den Tryz.prog 367 [.int .u8 a0] (ownL 2 1 yr (zgc a0)):=by
 generalize hR:zgc a0=r
 unfold zgc at hR
 refine di Tryz.func367 Tryz.ntmps367 Tryz.results367 ?_
 intro c hL hc hk
 clear hL
 simp only[pars,Nat.zero_add]
 have hs9:=yu6 (IntKind.wrap .u8 (a0-65)).toNat
 have hw9:IntKind.wrap .u8 (a0-65)=a0-65:=ytm _ (by omega) (by omega)
 iterate 5 refine rS ?_
 refine AWP.block ?_
 generalize hz1:ye (ymo a0) (((([[46,45],[45,46,46,46],[45,46,45,46],[45,46,46],[46],[46,46,45,46],[45,45,46],[46,46,46,46],[46,46],[46,45,45,45],[45,46,45],[46,45,46,46],[45,45],[45,46],[45,45,45],[46,45,45,46],[45,45,46,45],[46,45,46],[46,46,46],[45],[46,46,45],[46,46,46,45],[46,45,45],[45,46,46,45],[45,46,45,45],[45,45,46,46]]:List (List UInt8)).getD ((IntKind.wrap .u8 (a0-65)).toNat) default).length)-0) 0 ([]:List Int)=z1 at hR
 refine AWP.range (ymo a0) (fun i1 s1=>⟨[(4,.str (([[46,45],[45,46,46,46],[45,46,45,46],[45,46,46],[46],[46,46,45,46],[45,45,46],[46,46,46,46],[46,46],[46,45,45,45],[45,46,45],[46,45,46,46],[45,45],[45,46],[45,45,45],[46,45,45,46],[45,45,46,45],[46,45,46],[46,46,46],[45],[46,46,45],[46,46,46,45],[46,45,45],[45,46,46,45],[45,46,45,45],[45,45,46,46]]:List (List UInt8)).getD ((IntKind.wrap .u8 (a0-65)).toNat) default)),(5,.ref 0 1 0 s1.length),(6,.int .i64 (i1:Int))],[.arr 2 1 s1.length (fun j=>yr (s1.getD j default))]⟩) (fun i1 s1=>s1.length≤([]:List Int).length+1 * i1∧s1.length≤i1) (((([[46,45],[45,46,46,46],[45,46,45,46],[45,46,46],[46],[46,46,45,46],[45,45,46],[46,46,46,46],[46,46],[46,45,45,45],[45,46,45],[46,45,46,46],[45,45],[45,46],[45,45,45],[46,45,45,46],[45,45,46,45],[46,45,46],[46,46,46],[45],[46,46,45],[46,46,46,45],[46,45,45],[45,46,46,45],[45,46,45,45],[45,45,46,46]]:List (List UInt8)).getD ((IntKind.wrap .u8 (a0-65)).toNat) default).length)) 0 ([]:List Int) [1] hz1 ot wt sm ?_
 clear hz1
 intro i1 s1 hi1 hW1 hz1
 refine rS ?_
 refine AWP.cond rfl (fun hb => ?_) (fun hb => ?_)
 ·have hlt1:i1<((([[46,45],[45,46,46,46],[45,46,45,46],[45,46,46],[46],[46,46,45,46],[45,45,46],[46,46,46,46],[46,46],[46,45,45,45],[45,46,45],[46,45,46,46],[45,45],[45,46],[45,45,45],[46,45,45,46],[45,45,46,45],[46,45,46],[46,46,46],[45],[46,46,45],[46,46,46,45],[46,45,45],[45,46,46,45],[45,46,45,45],[45,45,46,46]]:List (List UInt8)).getD ((IntKind.wrap .u8 (a0-65)).toNat) default).length):=ot
  rw[yj hlt1]at hz1;simp only[ymo]at hz1
  refine rS ?_
  refine AWP.cond rfl (fun hb => ?_) (fun hb => ?_)
  ·simp only[hb,cond_true]at hz1
   iterate 2 refine rS ?_
   exact⟨_,[2],hlt1,wt,hz1,sm⟩
  ·simp only[hb,cond_false]at hz1
   iterate 2 refine rS ?_
   exact⟨_,[2],hlt1,wt,hz1,sm⟩
 ·obtain rfl:i1=((([[46,45],[45,46,46,46],[45,46,45,46],[45,46,46],[46],[46,46,45,46],[45,45,46],[46,46,46,46],[46,46],[46,45,45,45],[45,46,45],[46,45,46,46],[45,45],[45,46],[45,45,45],[46,45,45,46],[45,45,46,45],[46,45,46],[46,46,46],[45],[46,46,45],[46,46,46,45],[46,45,45],[45,46,46,45],[45,46,45,45],[45,45,46,46]]:List (List UInt8)).getD ((IntKind.wrap .u8 (a0-65)).toNat) default).length):=ot
  rw[yi (Nat.le_refl _)]at hz1;subst hz1;dsimp only at hR
  refine AWP.exit ?_;refine yb ?_
  refine rS ?_
  refine AWP.ret ?_
  subst hR
  exact es
end N367
def D_zgc : DF
 | [x0]=>some (ownL 2 1 yr (zgc (rdI x0)),false,[wI .u8 x0,65≤(rdI x0),(rdI x0)≤90])
 | _=>none
theorem yi5:OkD Tryz.prog 367 D_zgc:=by unfold D_zgc;exact dk N367.den
end Go.Ab
