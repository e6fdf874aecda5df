/- A part of a proof: walks of functions and lemmas of our own. No conditions. -/
import Derived.Test.YtaneiddiakjgdaaGreatDoorWAl
import Derived.Test.YtaneiddiakjgdaaGreatDoorWAi
import Derived.Test.YtaneiddiakjgdaaGreatDoorWAm
import Derived.Shelf.Strings.Prefix
import Derived.Shelf.Strings.Search3
import Derived.Shelf.Strings.Cut
import Derived.Shelf.Small.Strs
import Derived.Shelf.Strings.Search1
import Derived.Shelf.Strings.Search2
import Derived.Shelf.LaysM
import Derived.Shelf.Strings.Shaped
import Derived.Shelf.Strings.Fields
import Derived.Shelf.Unicode.Latin
import Derived.Shelf.Unicode.Is16White
import Derived.Shelf.Unicode.IsSpaceAny
import Derived.Shelf.Unicode.Is16Any
import Derived.Shelf.Unicode.Is32Any
import Derived.Shelf.Unicode.ExclAny
import Derived.Test.YtaneiddiakjgdaaGreatDoorProg
import Derived.Handy
set_option linter.unusedSectionVars false
set_option linter.unusedVariables false
set_option linter.unusedSimpArgs false
set_option maxHeartbeats 1000000
namespace Go.Ab
open Go Go.Proofs
def yem (a0:(List Int)) (a1:(List Int)) (i1:Nat) (s1:Unit):Except (Bool) (Unit):=
 (bif ((a0.getD i1 default) != (a1.getD i1 default))then .error false else .ok ())
def zbc (a0:(List Int)) (a1:(List Int)):Bool:=
 (bif ((a0.length:Int) != (a1.length:Int))then false else(match yh (yem a0 a1) (a0.length-0) 0 ()with|.error e=>e|.ok s1=>true))
namespace N256
theorem DD:DOk Tryz.prog (Go.Ab.DD []):=ye _
theorem den (a0:(List Int)) (a1:(List Int))  : Den Tryz.prog 256 [encL 1 yp a0,encL 1 yp a1] (.bool (zbc a0 a1)):=by
 generalize hR:zbc a0 a1=r
 unfold zbc at hR
 refine di Tryz.func256 Tryz.ntmps256 Tryz.results256 ?_
 intro c hL hc hk
 obtain⟨hL0,hL1,_⟩:=hL
 have hw0:a0.length<9223372036854775808:=Nat.lt_succ_of_le (yb hL0).1
 have hw1:a1.length<9223372036854775808:=Nat.lt_succ_of_le (yb hL1).1
 clear hL0 hL1
 simp only[pars,Nat.zero_add]
 iterate 2 refine rS ?_
 refine AWP.cond rfl (fun hb => ?_) (fun hb => ?_)
 ·replace hR:=ct hR
  refine rS ?_
  refine AWP.ret ?_
  subst hR
  exact es
 ·replace hR:=cf hR
  refine rS ?_
  refine AWP.block ?_
  generalize hz1:yh (yem a0 a1) (a0.length-0) 0 ()=z1 at hR
  refine AWP.range (yem a0 a1) (fun i1 s1=>⟨[(0,encL 1 yp a0),(1,encL 1 yp a1),(12,.int .i64 (a0.length:Int)),(13,.int .i64 (i1:Int))],[]⟩) (fun i1 s1=>True) (a0.length) 0 () [] hz1 ot wt sm ?_
  clear hz1
  intro i1 s1 hi1 hW1 hz1
  refine rS ?_
  refine AWP.seq ?_
  refine AWP.cond rfl (fun hb => ?_) (fun hb => ?_)
  ·have hlt1:i1<a0.length:=ot
   rw[yj hlt1]at hz1;simp only[yem]at hz1
   refine rS ?_
   refine rD 8 ?_
   refine AWP.cond rfl (fun hb => ?_) (fun hb => ?_)
   ·simp only[hb,cond_true]at hz1
    refine rS ?_
    refine AWP.ret ?_
    subst hz1
    dsimp only at hR
    subst hR
    exact es
   ·simp only[hb,cond_false]at hz1
    refine rS ?_
    exact⟨_,[],hlt1,wt,hz1,sm⟩
  ·obtain rfl:i1=a0.length:=ot
   rw[yi (Nat.le_refl _)]at hz1;subst hz1;dsimp only at hR
   refine AWP.exit ?_;refine yd ?_
   refine rS ?_
   refine AWP.ret ?_
   subst hR
   exact es
end N256
def D_zbc : DF
 | [x0,x1]=>some (.bool (zbc (rdL ylb x0) (rdL ylb x1)),false,[wL 1 yp ylb x0,wL 1 yp ylb x1])
 | _=>none
theorem ymt:OkD Tryz.prog 256 D_zbc:=by unfold D_zbc;exact dk N256.den
end Go.Ab

namespace Go.Ab
open Go Go.Proofs
def yfj {α ρ σ : Type} (g : α → σ → Except ρ σ) : List α → σ → Except ρ σ
  | [],s=>.ok s
  | x :: t, s => match g x s with
    | .error r=>.error r
    | .ok s'=>yfj g t s'
theorem yzf {α ρ σ : Type} (g : α → σ → Except ρ σ) (x : α) (t : List α) (s : σ) : yfj g (x :: t) s = match g x s with
  | .error r=>.error r
  | .ok s'=>yfj g t s':=rfl
theorem ypl {α ρ σ : Type} [Inhabited α] {b : Nat → σ → Except ρ σ} (g : α → σ → Except ρ σ) (l : List α) : ∀ (k i : Nat) (s : σ), i + k = l.length → (∀ j u, i ≤ j → j < l.length → b j u = g (l.getD j default) u) → yh b k i s = yfj g (l.drop i) s
 | 0,i,s,h,_=>by rw[List.drop_eq_nil_of_le (by omega)];rfl
 | k+1,i,s,h,hb=>by
  have hi:i<l.length:=by omega
  rw[List.drop_eq_getElem_cons hi]
  simp only[yh,yfj]
  rw[hb i s (Nat.le_refl _) hi,List.getD_eq_getElem?_getD,List.getElem?_eq_getElem hi,Option.getD_some]
  cases g l[i] s with
  | error r=>rfl
  | ok s'=>exact ypl g l k (i+1) s' (by omega) (fun j u h1 h2=>hb j u (by omega) h2)
theorem ytd {α ρ σ:Type} [Inhabited α] {b:Nat→σ→Except ρ σ} (g:α→σ→Except ρ σ) (l:List α) (s:σ) (hb:∀ j u,j<l.length→b j u=g (l.getD j default) u):yh b (l.length-0) 0 s=yfj g l s:=by
 rw[ypl g l (l.length-0) 0 s (by omega) (fun j u _ h=>hb j u h),List.drop_zero]
theorem ybp {j:Nat} (h:0<j) (hn:j<9223372036854775808):(IntKind.wrap .i64 ((j:Int)-1)).toNat=j-1:=by
 rw[IntKind.wrap_i64];omega
end Go.Ab


namespace Go.Proofs
open Go.Shelf
def Tryz.lays137_ren:Go.Shelf.Ren:=⟨fun|137=>254|217=>267|266=>271|n=>n,fun|9=>9|5=>5|3=>3|n=>n,fun|n=>n⟩
theorem Tryz.lays137 : Go.Proofs.Lays.n137 Tryz.prog Tryz.lays137_ren := {
 mixed:=by kernel_rfl
 f137:=Tryz.func254.trans (congrArg some (by kernel_rfl))
 f217:=Tryz.func267.trans (congrArg some (by kernel_rfl))
 f266:=Tryz.func271.trans (congrArg some (by kernel_rfl))
 t3:=Tryz.underlying3
 a3:=Tryz.isAgg3
 z3:=Tryz.sizeOf3
 v3:=Tryz.zeroValue3
 t5:=Tryz.underlying5
 a5:=Tryz.isAgg5
 z5:=Tryz.sizeOf5
 v5:=Tryz.zeroValue5
 t9:=Tryz.underlying9
 a9:=Tryz.isAgg9
 z9:=Tryz.sizeOf9
 v9:=Tryz.zeroValue9 }
def Tryz.lays144_ren:Go.Shelf.Ren:=⟨fun|144=>242|143=>265|219=>268|217=>267|225=>272|224=>273|267=>274|266=>271|314=>275|n=>n,fun|9=>9|4=>4|3=>3|5=>5|46=>240|146=>276|51=>258|n=>n,fun|1=>2|n=>n⟩
theorem Tryz.lays144 : Go.Proofs.Lays.n144 Tryz.prog Tryz.lays144_ren := {
 mixed:=by kernel_rfl
 f143:=Tryz.func265.trans (congrArg some (by kernel_rfl))
 f144:=Tryz.func242.trans (congrArg some (by kernel_rfl))
 f217:=Tryz.func267.trans (congrArg some (by kernel_rfl))
 f219:=Tryz.func268.trans (congrArg some (by kernel_rfl))
 f224:=Tryz.func273.trans (congrArg some (by kernel_rfl))
 f225:=Tryz.func272.trans (congrArg some (by kernel_rfl))
 f266:=Tryz.func271.trans (congrArg some (by kernel_rfl))
 f267:=Tryz.func274.trans (congrArg some (by kernel_rfl))
 f314:=Tryz.func275.trans (congrArg some (by kernel_rfl))
 t3:=Tryz.underlying3
 a3:=Tryz.isAgg3
 z3:=Tryz.sizeOf3
 v3:=Tryz.zeroValue3
 t4:=Tryz.underlying4
 a4:=Tryz.isAgg4
 z4:=Tryz.sizeOf4
 v4:=Tryz.zeroValue4
 t5:=Tryz.underlying5
 a5:=Tryz.isAgg5
 z5:=Tryz.sizeOf5
 v5:=Tryz.zeroValue5
 t9:=Tryz.underlying9
 a9:=Tryz.isAgg9
 z9:=Tryz.sizeOf9
 v9:=Tryz.zeroValue9
 t46:=Tryz.underlying240
 a46:=Tryz.isAgg240
 z46:=Tryz.sizeOf240
 v46:=Tryz.zeroValue240
 t51:=Tryz.underlying258
 a51:=Tryz.isAgg258
 z51:=Tryz.sizeOf258
 v51:=Tryz.zeroValue258
 t146:=Tryz.underlying276
 a146:=Tryz.isAgg276
 z146:=Tryz.sizeOf276
 v146:=Tryz.zeroValue276
 g1:=by kernel_rfl }
def Tryz.lays157_ren:Go.Shelf.Ren:=⟨fun|157=>234|229=>252|199=>253|261=>266|311=>269|312=>270|n=>n,fun|9=>9|31=>218|3=>3|5=>5|4=>4|119=>246|0=>0|40=>248|152=>255|21=>21|154=>257|51=>258|141=>260|196=>265|193=>262|198=>268|49=>266|194=>263|201=>271|226=>274|46=>240|227=>275|n=>n,fun|0=>0|6=>1|n=>n⟩
theorem Tryz.lays157 : Go.Proofs.Lays.n157 Tryz.prog Tryz.lays157_ren := {
 mixed:=by kernel_rfl
 f157:=Tryz.func234.trans (congrArg some (by kernel_rfl))
 f199:=Tryz.func253.trans (congrArg some (by kernel_rfl))
 f229:=Tryz.func252.trans (congrArg some (by kernel_rfl))
 f261:=Tryz.func266.trans (congrArg some (by kernel_rfl))
 f311:=Tryz.func269.trans (congrArg some (by kernel_rfl))
 f312:=Tryz.func270.trans (congrArg some (by kernel_rfl))
 t0:=Tryz.underlying0
 a0:=Tryz.isAgg0
 z0:=Tryz.sizeOf0
 v0:=Tryz.zeroValue0
 t3:=Tryz.underlying3
 a3:=Tryz.isAgg3
 z3:=Tryz.sizeOf3
 v3:=Tryz.zeroValue3
 t4:=Tryz.underlying4
 a4:=Tryz.isAgg4
 z4:=Tryz.sizeOf4
 v4:=Tryz.zeroValue4
 t5:=Tryz.underlying5
 a5:=Tryz.isAgg5
 z5:=Tryz.sizeOf5
 v5:=Tryz.zeroValue5
 t9:=Tryz.underlying9
 a9:=Tryz.isAgg9
 z9:=Tryz.sizeOf9
 v9:=Tryz.zeroValue9
 t21:=Tryz.underlying21
 a21:=Tryz.isAgg21
 z21:=Tryz.sizeOf21
 v21:=Tryz.zeroValue21
 t31:=Tryz.underlying218
 a31:=Tryz.isAgg218
 z31:=Tryz.sizeOf218
 v31:=Tryz.zeroValue218
 t40:=Tryz.underlying248
 a40:=Tryz.isAgg248
 z40:=Tryz.sizeOf248
 v40:=Tryz.zeroValue248
 t46:=Tryz.underlying240
 a46:=Tryz.isAgg240
 z46:=Tryz.sizeOf240
 v46:=Tryz.zeroValue240
 t49:=Tryz.underlying266
 a49:=Tryz.isAgg266
 z49:=Tryz.sizeOf266
 v49:=Tryz.zeroValue266
 t51:=Tryz.underlying258
 a51:=Tryz.isAgg258
 z51:=Tryz.sizeOf258
 v51:=Tryz.zeroValue258
 t119:=Tryz.underlying246
 a119:=Tryz.isAgg246
 z119:=Tryz.sizeOf246
 t141:=Tryz.underlying260
 a141:=Tryz.isAgg260
 z141:=Tryz.sizeOf260
 v141:=Tryz.zeroValue260
 t152:=Tryz.underlying255
 a152:=Tryz.isAgg255
 z152:=Tryz.sizeOf255
 v152:=Tryz.zeroValue255
 t154:=Tryz.underlying257
 a154:=Tryz.isAgg257
 z154:=Tryz.sizeOf257
 v154:=Tryz.zeroValue257
 t193:=Tryz.underlying262
 a193:=Tryz.isAgg262
 z193:=Tryz.sizeOf262
 v193:=Tryz.zeroValue262
 t194:=Tryz.underlying263
 a194:=Tryz.isAgg263
 z194:=Tryz.sizeOf263
 v194:=Tryz.zeroValue263
 t196:=Tryz.underlying265
 a196:=Tryz.isAgg265
 z196:=Tryz.sizeOf265
 v196:=Tryz.zeroValue265
 t198:=Tryz.underlying268
 a198:=Tryz.isAgg268
 z198:=Tryz.sizeOf268
 v198:=Tryz.zeroValue268
 t201:=Tryz.underlying271
 a201:=Tryz.isAgg271
 z201:=Tryz.sizeOf271
 v201:=Tryz.zeroValue271
 t226:=Tryz.underlying274
 a226:=Tryz.isAgg274
 z226:=Tryz.sizeOf274
 v226:=Tryz.zeroValue274
 t227:=Tryz.underlying275
 a227:=Tryz.isAgg275
 z227:=Tryz.sizeOf275
 v227:=Tryz.zeroValue275
 g0:=by kernel_rfl
 g6:=by kernel_rfl }
end Go.Proofs

namespace Go.Ab
open Go Go.Proofs
def zme (a0:(List UInt8)) (a1:Int):Int:=Go.Lib.indexByte a0 a1.toNat.toUInt8
theorem yl3 (a0:(List UInt8)) (a1:Int)  : Den Tryz.prog 254 [.str a0,.int .u8 a1] (.int .i64 (zme a0 a1)):=by
 refine Den.plain ⟨_,Tryz.func254,rfl,rfl⟩ (by simp[NoOwnL,NoOwn]) ?_
 intro w M vs hI hr
 simp only[RepL]at hr
 obtain⟨u0,us0,f0,g0,rfl,h0e,h0,u1,us1,f1,g1,rfl,h1e,h1,rfl,_⟩:=hr
 have e0:=h0.val_str
 have e1:=h1.val_int
 subst e0 e1
 refine(Any.strings_IndexByte Tryz.lays137 ⟨a0.toArray⟩ a1 w).mono ?_
 rintro e w' ⟨rfl,rfl⟩
 exact⟨_,rfl,Grow.refl _,fun M'=>y2b _ _⟩
def D_zme : DF
 | [x0,x1]=>some (.int .i64 (zme (rdS x0) (rdI x1)),false,[wS x0,wI .u8 x1])
 | _=>none
theorem ypz:OkD Tryz.prog 254 D_zme:=by
 intro xs r z ob h ho
 unfold D_zme at h
 split at h
 ·simp only[Option.some.injEq,Prod.mk.injEq]at h
  obtain⟨rfl,rfl,rfl⟩:=h
  obtain⟨h0,h1,_⟩:=ho
  exact Den.sim (yl3 _ _ ) (yy (ylf h0).1 <| yy (y8h h1).1 <| trivial) (ykb (ylf h0).2 <| ykb (y8h h1).2 <| rfl) rfl
 ·cases h
end Go.Ab

namespace Go.Ab
open Go
def ynd:List (List UInt8):=[[46,45],[45,46,46,46],[45,46,45,46],[45,46,46],[46],[46,46,45,46],[45,45,46],[46,46,46,46],[46,46],[46,45,45,45],[45,46,45],[46,45,46,46],[45,45],[45,46],[45,45,45],[46,45,45,46],[45,45,46,45],[46,45,46],[46,46,46],[45],[46,46,45],[46,46,46,45],[46,45,45],[45,46,46,45],[45,46,45,45],[45,45,46,46]]
theorem ysh:∀ x∈ynd,1≤x.length∧x.length≤4∧∀ c∈x,c=45∨c=46:=by decide
theorem ytj (n:Nat):(ynd.getD n default).length≤4:=by
 rw[List.getD_eq_getElem?_getD]
 cases h:ynd[n]? with
 | none=>show(0:Nat)≤4;omega
 | some x=>exact(ysh x (List.mem_of_getElem? h)).2.1
theorem y7y (n:Nat):(([[46,45],[45,46,46,46],[45,46,45,46],[45,46,46],[46],[46,46,45,46],[45,45,46],[46,46,46,46],[46,46],[46,45,45,45],[45,46,45],[46,45,46,46],[45,45],[45,46],[45,45,45],[46,45,45,46],[45,45,46,45],[46,45,46],[46,46,46],[45],[46,46,45],[46,46,46,45],[46,45,45],[45,46,46,45],[45,46,45,45],[45,45,46,46]]:List (List UInt8)).getD n default).length≤4:=ytj n
end Go.Ab

namespace Go.Ab
open Go
theorem yih (a:List UInt8) (c:UInt8) (h:a.length=1):Op.bytesLess a [c]=decide ((a.getD 0 0).toNat<c.toNat):=by
 obtain⟨x,rfl⟩:=List.length_eq_one_iff.1 h
 simp only[Op.bytesLess,Bool.and_false,Bool.or_false,List.getD_cons_zero]
 rfl
theorem y3v (a:List UInt8) (c:UInt8) (h:a.length=1):(a == [c])=decide ((a.getD 0 0).toNat=c.toNat):=by
 obtain⟨x,rfl⟩:=List.length_eq_one_iff.1 h
 apply Bool.eq_iff_iff.2
 simp[UInt8.toNat_inj]
theorem ylj (n:Int) (h1:0≤n) (h2:n<256):IntKind.wrap .u8 n=n:=by
 have:IntKind.wrap .u8 n=n % 256:=rfl
 rw[this];omega
theorem yi1 (a:List UInt8) (h:((a.length:Int)=1∧Op.bytesLess a [65]=false)∧(Op.bytesLess a [90]=true∨(a == [90])=true)) :
  0≤IntKind.wrap .u8 (((a.getD 0 0).toNat:Int)-65)∧IntKind.wrap .u8 (((a.getD 0 0).toNat:Int)-65)<26∧0≤IntKind.wrap .u8 (((a.getD 0 0).toNat:Int) + -65)∧IntKind.wrap .u8 (((a.getD 0 0).toNat:Int) + -65)<26:=by
 have h1:a.length=1:=by omega
 rw[yih a 65 h1,yih a 90 h1,y3v a 90 h1]at h
 have e1:(65:UInt8).toNat=65:=rfl
 have e2:(90:UInt8).toNat=90:=rfl
 rw[e1,e2]at h
 simp only[decide_eq_true_eq,decide_eq_false_iff_not]at h
 have hx:65≤(a.getD 0 0).toNat∧(a.getD 0 0).toNat≤90:=by omega
 rw[ylj _ (by omega) (by omega),ylj _ (by omega) (by omega)]
 omega
end Go.Ab

namespace Go.Ab
open Go
theorem yfo {ρ α : Type} (b : Nat → List α → Except ρ (List α)) (f : Nat → List α) : ∀ (n i : Nat) (s : List α), (∀ j s, i ≤ j → j < i + n → b j s = .ok (s ++ f j)) → yh b n i s = .ok (s ++ (List.range' i n).flatMap f)
 | 0,i,s,_=>by simp[yh]
 | n+1,i,s,h=>by
  simp only[yh]
  rw[h i s (Nat.le_refl _) (by omega)]
  simp only
  rw[yfo b f n (i+1) _ (fun j s h1 h2=>h j s (by omega) (by omega)),List.range'_succ,List.flatMap_cons,List.append_assoc]
theorem yml {ρ σ:Type} {b b':Nat→σ→Except ρ σ} (n i:Nat) (s:σ) (h:∀ j u,i≤j→j<i+n→b j u=b' j u):yh b n i s=yh b' n i s:=loopR_congr0 n i s h
where
 loopR_congr0 {ρ σ:Type} {b b':Nat→σ→Except ρ σ}:∀ (n i:Nat) (s:σ),(∀ j u,i≤j→j<i+n→b j u=b' j u)→yh b n i s=yh b' n i s
 | 0,i,s,_=>rfl
 | n+1,i,s,h=>by
  simp only[yh]
  rw[h i s (Nat.le_refl _) (by omega)]
  cases b' i s with
  | error r=>rfl
  | ok t=>exact loopR_congr0 n (i+1) t (fun j u h1 h2=>h j u (by omega) (by omega))
theorem ytw {α β:Type} (l:List α) (d:α) (f:α→β):(List.range' 0 l.length).flatMap (fun j=>[f (l.getD j d)])=l.map f:=by
 rw[← List.map_eq_flatMap]
 apply List.ext_getElem
 ·simp
 ·intro i h1 h2
  simp only[List.length_map]at h2
  simp[List.getD_eq_getElem?_getD,h2]
end Go.Ab

namespace Go.Ab
open Go Go.Proofs
theorem y5m {l:List Int} (h:∀ v∈l,v≤9) (i:Nat):l.getD i default≤9:=by
 rw[List.getD_eq_getElem?_getD]
 cases hg:l[i]? with
 | none=>show(0:Int)≤9;omega
 | some x=>have:=h x (List.mem_of_getElem? hg);simpa only[Option.getD_some]
end Go.Ab

namespace Go.Ab
open Go
theorem yui (s:List Int) (a b:Int) (i:Nat) (hi:i<s.length+2):(bif i.blt s.length then[AV.int .i64 (s.getD i default)]else borrowL (elt [[AV.int .i64 a],[AV.int .i64 b]] (i-s.length)))=[AV.int .i64 ((s++[a,b]).getD i default)]:=by
 by_cases h:i<s.length
 ·have:i.blt s.length=true:=by rw[Nat.blt_eq];exact h
  rw[this]
  simp[List.getD_eq_getElem?_getD,List.getElem?_append_left h]
 ·have:i.blt s.length=false:=by rw[← Bool.not_eq_true,Nat.blt_eq];exact h
  rw[this]
  rcases(show i=s.length∨i=s.length+1 by omega)with h1|h1
  ·subst h1
   simp[elt,borrowL,borrow,List.getD_eq_getElem?_getD]
  ·subst h1
   simp[elt,borrowL,borrow,List.getD_eq_getElem?_getD]
theorem ysm (s:List Int) (a:Int) (i:Nat) (hi:i<s.length+1):(bif i.blt s.length then[AV.int .i64 (s.getD i default)]else borrowL (elt [[AV.int .i64 a]] (i-s.length)))=[AV.int .i64 ((s++[a]).getD i default)]:=by
 by_cases h:i<s.length
 ·have:i.blt s.length=true:=by rw[Nat.blt_eq];exact h
  rw[this]
  simp[List.getD_eq_getElem?_getD,List.getElem?_append_left h]
 ·have:i.blt s.length=false:=by rw[← Bool.not_eq_true,Nat.blt_eq];exact h
  rw[this]
  have h1:i=s.length:=by omega
  subst h1
  simp[elt,borrowL,borrow,List.getD_eq_getElem?_getD]
theorem ydo (s:List Int) (a b:Int) (i:Nat) (hi:i<s.length+1+1):(bif i.blt (s.length+1)then bif i.blt s.length then[AV.int .i64 (s.getD i default)]else borrowL (elt [[AV.int .i64 a]] (i-s.length))else borrowL (elt [[AV.int .i64 b]] (i-(s.length+1))))=[AV.int .i64 ((s++[a]++[b]).getD i default)]:=by
 by_cases h:i<s.length+1
 ·have:i.blt (s.length+1)=true:=by rw[Nat.blt_eq];exact h
  rw[this,cond_true]
  refine(ysm s a i h).trans ?_
  rw[List.getD_eq_getElem?_getD,List.getD_eq_getElem?_getD,List.getElem?_append_left (l₁:=s++[a]) (l₂:=[b]) (by simpa using h)]
 ·have:i.blt (s.length+1)=false:=by rw[← Bool.not_eq_true,Nat.blt_eq];exact h
  rw[this]
  have h1:i=s.length+1:=by omega
  subst h1
  simp[elt,borrowL,borrow,List.getD_eq_getElem?_getD]
theorem yuo (s:List Int) (a b:Int) (i:Nat) (hi:i<s.length+2):(i.blt s.length || pureL (borrowL (elt [[AV.int .i64 a],[AV.int .i64 b]] (i-s.length))))=true:=by
 by_cases h:i<s.length
 ·have:i.blt s.length=true:=by rw[Nat.blt_eq];exact h
  rw[this];rfl
 ·rcases(show i-s.length=0∨i-s.length=1 by omega)with h1|h1<;>rw[h1]<;>simp[elt,borrowL,borrow,pureL,pureV]
end Go.Ab

namespace Go.Ab
theorem yds {f : Nat → Int} {n : Nat} (hs : ∀ i, i + 1 < n → f i < f (i + 1)) : ∀ (d i : Nat), i + d + 1 < n → f i < f (i + d + 1)
 | 0,i,h=>hs i h
 | d+1,i,h=>by
  have h1:=yds hs d i (by omega)
  have h2:=hs (i+d+1) (by omega)
  have:i+(d+1)+1=i+d+1+1:=by omega
  rw[this];omega
theorem yje {f:Nat→Int} {n:Nat} (hs:∀ i,i+1<n→f i<f (i+1)) {i k:Nat} (h:i<k) (hk:k<n):f i<f k:=by
 have:=yds hs (k-i-1) i (by omega)
 rwa [show i+(k-i-1)+1=k by omega]at this
theorem y2u {f arc:Nat→Int} {n:Nat} (hf:∀ i,i<n→0≤f i∧f i≤359) (hs:∀ i,i+1<n→f i<f (i+1)) :
  (∀ i,i<n→∀ k,k<n→k≠i→arc i≤(f k-f i) % 360)↔(1<n→∀ i,i<n→arc i≤(f ((i+1) % n)-f i+360) % 360):=by
 constructor
 ·intro h hn i hi
  have hne:(i+1) % n≠i:=by
   by_cases h2:i+1<n
   ·rw[Nat.mod_eq_of_lt h2];omega
   ·have:i+1=n:=by omega
    rw[this,Nat.mod_self];omega
  have:=h i hi ((i+1) % n) (Nat.mod_lt _ (by omega)) hne
  omega
 ·intro h i hi k hk hki
  have hn:1<n:=by omega
  have h1:=h hn i hi
  have fi:=hf i hi
  have fk:=hf k hk
  by_cases h2:i+1<n
  ·rw[Nat.mod_eq_of_lt h2]at h1
   have g:=hs i h2
   have fn:=hf (i+1) h2
   have e1:(f (i+1)-f i+360) % 360=f (i+1)-f i:=by omega
   rw[e1]at h1
   by_cases h3:i<k
   ·have:f (i+1)≤f k:=by
     by_cases h4:k=i+1
     ·rw[h4];omega
     ·have:=yje hs (i:=i+1) (k:=k) (by omega) hk;omega
    have:(f k-f i) % 360=f k-f i:=by omega
    omega
   ·have:=yje hs (i:=k) (k:=i) (by omega) hi
    have:(f k-f i) % 360=f k-f i+360:=by omega
    omega
  ·have hin:i+1=n:=by omega
   rw[hin,Nat.mod_self]at h1
   have f0:=hf 0 (by omega)
   have g:=yje hs (i:=0) (k:=i) (by omega) hi
   have e1:(f 0-f i+360) % 360=f 0-f i+360:=by omega
   rw[e1]at h1
   have:f 0≤f k:=by
    by_cases h4:k=0
    ·rw[h4];omega
    ·have:=yje hs (i:=0) (k:=k) (by omega) hk;omega
   have:=yje hs (i:=k) (k:=i) (by omega) hi
   have:(f k-f i) % 360=f k-f i+360:=by omega
   omega
theorem y3y {f arc S : Nat → Int} {n : Nat} (hf : ∀ i, i < n → 0 ≤ f i ∧ f i ≤ 359) (hs : ∀ i, i + 1 < n → f i < f (i + 1)) (ha : ∀ i, i < n → 1 ≤ arc i ∧ arc i ≤ 360)
  (h:1<n→∀ i,i<n→arc i≤(f ((i+1) % n)-f i+360) % 360) (h0:S 0=0) (hS:∀ i,i<n→S (i+1)=S i+arc i):S n≤360:=by
 by_cases hn:1<n
 ·have key:∀ j,j<n→S j≤f j-f 0:=by
   intro j
   induction j with
   | zero=>intro _;rw[h0];omega
   | succ j ih=>
    intro hj
    have i1:=ih (by omega)
    have i2:=h hn j (by omega)
    rw[Nat.mod_eq_of_lt hj]at i2
    have g:=hs j hj
    have fj:=hf j (by omega)
    have fj1:=hf (j+1) hj
    have e1:(f (j+1)-f j+360) % 360=f (j+1)-f j:=by omega
    rw[hS j (by omega)];omega
  have k1:=key (n-1) (by omega)
  have i2:=h hn (n-1) (by omega)
  rw[show n-1+1=n by omega,Nat.mod_self]at i2
  have f0:=hf 0 (by omega)
  have fn:=hf (n-1) (by omega)
  have g:=yje hs (i:=0) (k:=n-1) (by omega) (by omega)
  have e1:(f 0-f (n-1)+360) % 360=f 0-f (n-1)+360:=by omega
  have:=hS (n-1) (by omega)
  rw[show n-1+1=n by omega]at this
  omega
 ·by_cases h1:n=1
  ·subst h1
   have:=hS 0 (by omega)
   have a0:=ha 0 (by omega)
   simp only[Nat.zero_add]at this
   omega
  ·have:n=0:=by omega
   subst this
   omega
end Go.Ab

namespace Go.Ab
open Go Go.Proofs
def zfb (a0:(List UInt8)) (a1:(List UInt8)):Bool:=decide (0≤Go.Lib.indexByte a0 (a1.getD 0 0))
theorem ya3 (a0:(List UInt8)) (a1:(List UInt8)) (hp0:a1.length=1):Den Tryz.prog 242 [.str a0,.str a1] (.bool (zfb a0 a1)):=by
 obtain⟨c,rfl⟩:∃ c,a1=[c]:=List.length_eq_one_iff.1 hp0
 refine Den.plain ⟨_,Tryz.func242,rfl,rfl⟩ (by simp[NoOwnL,NoOwn]) ?_
 intro w M vs hI hr
 simp only[RepL]at hr
 obtain⟨u0,us0,f0,g0,rfl,h0e,h0,u1,us1,f1,g1,rfl,h1e,h1,rfl,_⟩:=hr
 have e0:=h0.val_str
 have e1:=h1.val_str
 subst e0 e1
 refine(Any.strings_Contains_one Tryz.lays144 ⟨a0.toArray⟩ c w).mono ?_
 rintro e w' ⟨rfl,rfl⟩
 exact⟨_,rfl,Grow.refl _,fun M'=>yid _⟩
def D_zfb : DF
 | [x0,x1]=>some (.bool (zfb (rdS x0) (rdS x1)),false,[wS x0,wS x1,(rdS x1).length=1])
 | _=>none
theorem y2s:OkD Tryz.prog 242 D_zfb:=by
 intro xs r z ob h ho
 unfold D_zfb at h
 split at h
 ·simp only[Option.some.injEq,Prod.mk.injEq]at h
  obtain⟨rfl,rfl,rfl⟩:=h
  obtain⟨h0,h1,hp0,_⟩:=ho
  exact Den.sim (ya3 _ _ hp0) (yy (ylf h0).1 <| yy (ylf h1).1 <| trivial) (ykb (ylf h0).2 <| ykb (ylf h1).2 <| rfl) rfl
 ·cases h
end Go.Ab

namespace Go.Ab
open Go Go.Proofs
theorem yl4 {s n:Int} (h0:0≤s) (h1:s<n) (hn:n<9223372036854775808):0≤(IntKind.wrap .i64 (s+1)).tmod n∧(IntKind.wrap .i64 (s+1)).tmod n<n:=by
 have e:IntKind.wrap .i64 (s+1)=s+1:=by rw[IntKind.wrap_i64];omega
 rw[e,Int.tmod_eq_emod_of_nonneg (by omega)]
 exact⟨Int.emod_nonneg _ (by omega),Int.emod_lt_of_pos _ (by omega)⟩
end Go.Ab

namespace Go.Ab
open Go Go.Proofs
theorem y4s {i:Nat} (h:i<4):(([87,82,71,89]:List UInt8).take (IntKind.wrap .i64 ((i:Int)+1)).toNat |>.drop i).length=1:=by
 rw[show(IntKind.wrap .i64 ((i:Int)+1)).toNat=i+1 from by rw[IntKind.wrap_i64];omega]
 rcases i with _|_|_|_|i<;>first|rfl|omega
theorem ygy (i:Nat):(([87,82,71,89]:List UInt8).take (IntKind.wrap .i64 ((i:Int)+1)).toNat |>.drop i).length≤1∨4≤i:=by
 by_cases h:i<4
 ·left;rw[y4s h];exact Nat.le_refl _
 ·right;omega
end Go.Ab

namespace Go.Ab
open Go Go.Proofs
def ywo (a0:(List (List UInt8))) (a1:(List UInt8)) (i1:Nat) (s1:Unit):Except (Int) (Unit):=
 (bif (a1 == (a0.getD i1 default))then .error (i1:Int)else .ok ())
def zie (a0:(List (List UInt8))) (a1:(List UInt8)):Int:=
 (match yh (ywo a0 a1) (a0.length-0) 0 ()with|.error e=>e|.ok s1=>(-1))
namespace N233
theorem DD:DOk Tryz.prog (Go.Ab.DD []):=ye _
theorem den (a0:(List (List UInt8))) (a1:(List UInt8))  : Den Tryz.prog 233 [encL 1 eS a0,.str a1] (.int .i64 (zie a0 a1)):=by
 generalize hR:zie a0 a1=r
 unfold zie at hR
 refine di Tryz.func233 Tryz.ntmps233 Tryz.results233 ?_
 intro c hL hc hk
 obtain⟨hL0,hL1,_⟩:=hL
 have hw0:a0.length<9223372036854775808:=Nat.lt_succ_of_le (yb hL0).1
 have hw1:∀ v∈a0,bwS v:=fun v hv=>yjx v ((yb hL0).2 v hv)
 have hw2:a1.length<9223372036854775808:=Nat.lt_succ_of_le hL1
 clear hL0 hL1
 simp only[pars,Nat.zero_add]
 iterate 2 refine rS ?_
 refine AWP.block ?_
 generalize hz1:yh (ywo a0 a1) (a0.length-0) 0 ()=z1 at hR
 refine AWP.range (ywo a0 a1) (fun i1 s1=>⟨[(0,encL 1 eS a0),(1,.str a1),(7,.int .i64 (a0.length:Int)),(8,.int .i64 (i1:Int))],[]⟩) (fun i1 s1=>True) (a0.length) 0 () [] hz1 ot wt sm ?_
 clear hz1
 intro i1 s1 hi1 hW1 hz1
 refine rS ?_
 refine AWP.seq ?_
 refine AWP.cond rfl (fun hb => ?_) (fun hb => ?_)
 ·have hlt1:i1<a0.length:=ot
  rw[yj hlt1]at hz1;simp only[ywo]at hz1
  iterate 2 refine rS ?_
  refine AWP.cond rfl (fun hb => ?_) (fun hb => ?_)
  ·simp only[hb,cond_true]at hz1
   refine rS ?_
   refine AWP.ret ?_
   subst hz1
   dsimp only at hR
   subst hR
   exact es
  ·simp only[hb,cond_false]at hz1
   refine rS ?_
   exact⟨_,[],hlt1,wt,hz1,sm⟩
 ·obtain rfl:i1=a0.length:=ot
  rw[yi (Nat.le_refl _)]at hz1;subst hz1;dsimp only at hR
  refine AWP.exit ?_;refine yd ?_
  refine rS ?_
  refine AWP.ret ?_
  subst hR
  exact es
end N233
def D_zie : DF
 | [x0,x1]=>some (.int .i64 (zie (rdL dS x0) (rdS x1)),false,[wL 1 eS dS x0,wS x1])
 | _=>none
theorem yrx:OkD Tryz.prog 233 D_zie:=by unfold D_zie;exact dk N233.den
end Go.Ab

namespace Go.Ab
open Go Go.Proofs
def zef (a0:(List (List UInt8))) (a1:(List UInt8)):Bool:=
 decide (0≤(zie a0 a1))
namespace N198
theorem DD:DOk Tryz.prog (Go.Ab.DD [(233,dP D_zie)]):=ya yrx.e <| ye _
theorem dn:type_of% (@D_zie.eq_1):=by and_intros<;>intros<;>rfl
theorem den (a0:(List (List UInt8))) (a1:(List UInt8))  : Den Tryz.prog 198 [encL 1 eS a0,.str a1] (.bool (zef a0 a1)):=by
 generalize hR:zef a0 a1=r
 unfold zef at hR
 refine di Tryz.func198 Tryz.ntmps198 Tryz.results198 ?_
 intro c hL hc hk
 obtain⟨hL0,hL1,_⟩:=hL
 have hw0:a0.length<9223372036854775808:=Nat.lt_succ_of_le (yb hL0).1
 have hw1:∀ v∈a0,bwS v:=fun v hv=>yjx v ((yb hL0).2 v hv)
 have hw2:a1.length<9223372036854775808:=Nat.lt_succ_of_le hL1
 clear hL0 hL1
 simp only[pars,Nat.zero_add]
 iterate 2 refine rS ?_
 refine AWP.ret ?_
 subst hR
 exact es
end N198
def D_zef : DF
 | [x0,x1]=>some (.bool (zef (rdL dS x0) (rdS x1)),false,[wL 1 eS dS x0,wS x1])
 | _=>none
theorem yos:OkD Tryz.prog 198 D_zef:=by unfold D_zef;exact dk N198.den
end Go.Ab

namespace Go.Ab
open Go Go.Proofs
theorem y2d : ∀ (l cur : List UInt8) (m : Nat), cur.length + l.length ≤ m → (Go.Lib.fieldsGo cur l).length ≤ cur.length + l.length ∧ ∀ x ∈ Go.Lib.fieldsGo cur l, x.length ≤ m
 | [],cur,m,h=>by
  cases cur with
  | nil=>simp[Go.Lib.fieldsGo]
  | cons a c=>
   simp only[Go.Lib.fieldsGo,List.isEmpty_cons,List.length_cons,List.length_nil]
   refine⟨by simp,fun x hx => ?_⟩
   simp at hx
   subst hx
   simpa using h
 | b::l,cur,m,h=>by
  simp only[List.length_cons]at h ⊢
  simp only[Go.Lib.fieldsGo]
  split
  ·split
   ·have:=y2d l [] m (by simp;omega)
    simp only[List.length_nil]at this
    exact⟨by omega,this.2⟩
   ·rename_i hc
    have:=y2d l [] m (by simp;omega)
    simp only[List.length_nil]at this
    have hcl:0<cur.length:=by cases cur with|nil=>simp at hc|cons _ _=>simp
    refine⟨by simp only[List.length_cons];omega,fun x hx => ?_⟩
    rcases List.mem_cons.1 hx with rfl|hx
    ·omega
    ·exact this.2 x hx
  ·have:=y2d l (cur++[b]) m (by simp;omega)
   simp only[List.length_append,List.length_cons,List.length_nil]at this
   exact⟨by omega,this.2⟩
theorem ywt (s:List UInt8):(Go.Lib.fields s).length≤s.length∧∀ x∈Go.Lib.fields s,x.length≤s.length:=by
 have:=y2d s [] s.length (by simp)
 simpa [Go.Lib.fields]using this
theorem ytu {f : FuncId} {T : TypeId} (hok : FnOk Tryz.prog f) (a0 : List UInt8) (hp0 : a0.length ≤ 1048576) (hp1 : ∀ x ∈ a0, x.toNat < 128)
  (hS:∀ (s:ByteArray) (w:World),s.size<4294967281→(∀ (j:Nat) b,s.data.toList[j]? = some b→b.toNat<128)→Go.Lib.TabIs Tryz.prog w tn0 .u8 Go.Lib.asciiSpaceTab→Calls Tryz.prog f #[.string s] w fun e w'=>
   e=.returned (.slice (some ⟨w.heap.size,0,none⟩) (Go.Lib.fields s.data.toList).length (Go.Lib.fields s.data.toList).length)∧w'=w.alloc (.cells ((Go.Lib.fields s.data.toList).map fun l=>Value.string ⟨l.toArray⟩).toArray T)) :
  Den Tryz.prog f [.str a0] (ownL T 1 (fun s:List UInt8=>[.str s]) (Go.Lib.fields a0)):=by
 obtain⟨l1,l2⟩:=ywt a0
 have hnth:∀ i,i<(Go.Lib.fields a0).length→((Go.Lib.fields a0).getD i default).length≤maxLen:=by
  intro i hi
  have:(Go.Lib.fields a0).getD i default∈Go.Lib.fields a0:=by
   rw[List.getD_eq_getElem?_getD,List.getElem?_eq_getElem hi]
   simp
  have:=l2 _ this
  unfold maxLen
  omega
 refine Den.fresh (T:=T) (e:=1) (enc:=fun s:List UInt8=>[.str s]) (l:=Go.Lib.fields a0) hok (by simp[NoOwnL,NoOwn]) (fun i=>[Value.string ⟨((Go.Lib.fields a0).getD i default).toArray⟩]) (fun w M i hi=>⟨?_,rfl,by simp[Value.oneCell']⟩) ?_
 ·simp only[RepL]
  exact⟨_,[],[],[],rfl,rfl,y0e _ (hnth i hi),rfl,rfl⟩
 ·intro w M vs hI hr
  simp only[RepL]at hr
  obtain⟨u0,us0,f0,g0,rfl,h0e,h0,rfl,_⟩:=hr
  have e0:=h0.val_str
  subst e0
  refine(hS ⟨a0.toArray⟩ w (by show a0.length<_;omega) (fun j b hb=>hp1 b (List.mem_of_getElem? hb)) hI).mono ?_
  rintro e w' ⟨rfl,rfl⟩
  refine⟨w.heap.size,(Go.Lib.fields a0).length,((Go.Lib.fields a0).map fun x=>Value.string ⟨x.toArray⟩).toArray,rfl,?_⟩
  have hfl:=yvq w T ((Go.Lib.fields a0).map fun x=>Value.string ⟨x.toArray⟩) (by rw[List.length_map];unfold maxLen;omega)
  rw[List.length_map]at hfl
  have hus:((List.range (Go.Lib.fields a0).length).flatMap fun i=>[((Go.Lib.fields a0).map fun x=>Value.string ⟨x.toArray⟩).getD i default])=(List.range (Go.Lib.fields a0).length).flatMap fun i=>[Value.string ⟨((Go.Lib.fields a0).getD i default).toArray⟩]:=by
   rw[List.flatMap_def,List.flatMap_def]
   congr 1
   apply List.map_congr_left
   intro i hi
   have hi:=List.mem_range.1 hi
   simp[List.getD_eq_getElem?_getD,List.getElem?_map,List.getElem?_eq_getElem hi]
  rw[hus]at hfl
  exact hfl
end Go.Ab

namespace Go.Ab
open Go Go.Proofs
def zdh (a0:(List UInt8)):(List (List UInt8)):=Go.Lib.fields a0
theorem yu2 (a0:(List UInt8)) (hp0:a0.length≤1048576) (hp1:∀ x∈a0,x.toNat<128):Den Tryz.prog 234 [.str a0] (ownL 9 1 eS (zdh a0)):=by
 exact ytu ⟨_,Tryz.func234,rfl,rfl⟩ a0 hp0 hp1 (fun s w h1 h2 h3=>Any.strings_Fields Tryz.lays157 (by kernel_rfl) (by kernel_rfl) s w h1 h2 h3)
def D_zdh : DF
 | [x0]=>some (ownL 9 1 eS (zdh (rdS x0)),false,[wS x0,(rdS x0).length≤1048576,∀ x∈(rdS x0),x.toNat<128])
 | _=>none
theorem ydz:OkD Tryz.prog 234 D_zdh:=by
 intro xs r z ob h ho
 unfold D_zdh at h
 split at h
 ·simp only[Option.some.injEq,Prod.mk.injEq]at h
  obtain⟨rfl,rfl,rfl⟩:=h
  obtain⟨h0,hp0,hp1,_⟩:=ho
  exact Den.sim (yu2 _ hp0 hp1) (yy (ylf h0).1 <| trivial) (ykb (ylf h0).2 <| rfl) rfl
 ·cases h
end Go.Ab

namespace Go.Ab
open Go Go.Proofs
theorem ned {α:Type} [DecidableEq α] (x y:α):(x != y) = !decide (x=y):=by by_cases h:x=y<;>simp[h]
end Go.Ab

namespace Go.Ab
open Go Go.Proofs Go.RowKit Go.Lib Go.Shelf
set_option maxHeartbeats 4000000 in
set_option maxRecDepth 100000 in
theorem yb3:y91 Tryz.prog 95 63 16 208:=by
 intro w v y n i m A B news hin hm hA hB hN oA oB oN hv hy hne hby hbig
 obtain⟨i0,z,ET⟩:=ElT.mk' (tS:=39) (tE:=63) G_ok rfl rfl rfl (by decide)
 obtain⟨u0,inf0,zero0,size0,byt0,zs0,pos0,zone0⟩:=ET
 have u3:Tryz.prog.underlying 3=some (.int .i64):=by kernel_rfl
 rcases hy with⟨_,h⟩|⟨vb,vc,vcur,rfl,hvh,hvs,hvm,hvc,hvn⟩
 ·omega
 have hz1:¬ ((m:Int)=0):=by omega
 have hsrc:∀ (j:Nat) (u:Value),news[j]? = some u→w.cell? ((⟨vb,0,none⟩:Addr).add j)=some u:=by
  intro j u hu
  have hj:j<m * 16:=by rw[← hN];exact(List.getElem?_eq_some_iff.1 hu).1
  rw[Addr.add_lit,Nat.zero_add,cell_of_row w vb j vcur 63 (0,0) hvh,hvn j hj]
  exact hu
 by_cases hend:i=n
 ·subst hend
  have hB0:B=[]:=List.eq_nil_of_length_eq_zero (by simpa using hB)
  subst hB0
  obtain⟨v',w',hr,ho⟩:=ydm (P:=Tryz.prog) (w:=w) (ty:=39) (y:=.slice (some ⟨vb,0,none⟩) m vc) u0 inf0 zero0 size0 byt0 zs0 hA hN oN (by
   rcases hv with h|⟨b,c,cur,h1,h2,h3,h4,h5,h6⟩
   ·exact .inl h
   ·exact .inr ⟨b,c,cur,h1,h2,h3,h4,h5,fun j hj=>by rw[h6 j hj,List.append_nil]⟩) (.inr ⟨_,_,rfl,hsrc⟩) hby hbig
  rcases ho with⟨_,h,_⟩|⟨b',cap',cur',rfl,ho⟩
  ·omega
  have fin:AppOut w w' 63 16 (i+m) 0 v.ownBlock (A++news++[]) [] b' cap' cur':=by
   refine⟨ho.os,ho.tape,ho.output,ho.size,ho.other,ho.row,ho.len,by have:=ho.fit;omega,ho.big,?_,fun j hj=>by omega,ho.place⟩
   intro j hj
   rw[List.append_nil]
   by_cases h:j<i * 16
   ·rw[List.getElem?_append_left (by omega)];exact ho.olds j h
   ·have:=ho.adds (j-i * 16) (by omega)
    rw[List.getElem?_append_right (by omega),hA, ← this]
    congr 1;omega
  rw[List.append_nil]at fin
  have hsh:(v=.slice none 0 0∧i=0)∨∃ b c,v=.slice (some ⟨b,0,none⟩) i c∧i≤c∧c≤9223372036854775807:=by
   rcases hv with h|⟨b,c,cur,h1,h2,h3,h4,h5,h6⟩
   ·exact .inl h
   ·exact .inr ⟨b,c,h1,h4,h5⟩
  clear hne ho hv hvh hvs hvn hsrc hA hB hN oA oB oN
  rcases hsh with⟨rfl,rfl⟩|⟨b,c,rfl,hic,hcm⟩
  ·go_enter Tryz.func95,Tryz.ntmps95
   go_wp2_with (at_builtin;refine yde _ rfl _ _ _ _ rfl _ _ rfl rfl hr ?_)
   go_ret
   rw[Nat.zero_add]at fin ⊢
   first|exact⟨b',cap',cur',rfl,by first|exact fin|(rw[List.append_nil];exact fin)⟩|exact⟨b',cap',rfl,cur',by first|exact fin|(rw[List.append_nil];exact fin)⟩
  ·go_enter Tryz.func95,Tryz.ntmps95
   go_wp2_with (at_builtin;refine yde _ rfl _ _ _ _ rfl _ _ rfl rfl hr ?_)
   all_goals go_ret
   all_goals first|exact⟨b',cap',cur',rfl,by first|exact fin|(rw[List.append_nil];exact fin)⟩|exact⟨b',cap',rfl,cur',by first|exact fin|(rw[List.append_nil];exact fin)⟩
 ·have hlt:i<n:=by omega
  rcases hv with⟨_,h⟩|⟨b,c,cur,rfl,hb,hcs,hnc,hcm,hold⟩
  ·omega
  have hvb:vb≠b:=fun h=>hne b rfl (by rw[h];rfl)
  have mixed:Tryz.prog.follows .mixedOrders=true:=by kernel_rfl
  have hz2:¬ ((i:Int)=(n:Int)):=by omega
  have hcSX:c≤9223372036854775807:=hcm
  have hw1:IntKind.i64.wrap ((i:Int)+(m:Int))=(i:Int)+(m:Int):=by rw[IntKind.wrap_i64];omega
  have hb1:(0:Int)≤(i:Int)+(m:Int):=by omega
  have hin:i≤n:=by omega
  have htn:((i:Int)+(m:Int)).toNat=i+m:=by omega
  have hb4:¬ (c=i):=by omega
  have hAn:A.length+B.length=n * 16:=by omega
  have hgA:∀ (j:Nat) (u:Value),A[j]? = some u→cur[j]? = some u:=by
   intro j u hu
   have hj:j<A.length:=(List.getElem?_eq_some_iff.1 hu).1
   rw[hold j (by omega),List.getElem?_append_left hj,hu]
  have hgB:∀ (j:Nat) (u:Value),B[j]? = some u→cur[i * 16+j]? = some u:=by
   intro j u hu
   have hj:j<B.length:=(List.getElem?_eq_some_iff.1 hu).1
   rw[hold _ (by omega),List.getElem?_append_right (by omega),hA,Nat.add_sub_cancel_left,hu]
  by_cases hroom:n+m≤c
  ·have hb2:¬ (c=i+m):=by omega
   have hb3:(i:Int)≤(n:Int)+(m:Int):=by omega
   have hmin:Nat.min (n+m-i) (n+m-(i+m))=n-i:=by simp only[Nat.min_def];split<;>omega
   have hmin2:Nat.min m (n+m-i)=m:=by simp only[Nat.min_def];split<;>omega
   obtain⟨cur1,hcur1⟩:∃ cur1,cur1=(putV ((i+m) * 16) B cur.toList).toArray:=⟨_,rfl⟩
   have hl1:cur1.size=cur.size:=by rw[hcur1];simp[yrb]
   have hov:∀ lb cb,(callFunc 165 #[.slice (some ⟨vb,0,none⟩) m vc,.slice (some ⟨b,(i+m) * 16,none⟩) lb cb]).run Tryz.prog w=.ok (.value (.bool false)) w:=fun lb cb=>by
    rw[run_callFunc_extern Tryz.func165 (by kernel_rfl) (by kernel_rfl) (by kernel_rfl) (e:=Extern.SlicesOverlaps.overlaps #[39,39] #[4]) (by kernel_rfl),
     ydn w 39 4 63 i0 u0 inf0 vb b 0 ((i+m) * 16) m vc lb cb hvb vcur cur 63 63 hvh hb (by omega)]
    rfl
   have hcp1:∀ ty dc sc,(Builtin.copy_ #[39,39] ty #[.slice (some ⟨b,(i+m) * 16,none⟩) (n+m-(i+m)) dc,.slice (some ⟨b,i * 16,none⟩) (n+m-i) sc]).run Tryz.prog w.drew=.ok (goInt ((n-i:Nat):Int)) (w.drew.setRow b cur1):=fun ty dc sc=>by
    rw[hcur1]
    exact ybh w.drew 39 39 ty 63 i0 b ((i + m) * 16) _ dc ⟨b, i * 16, none⟩ _ sc (n - i) cur 63 B u0 inf0 hb hmin (by rw [size0]; exact hB)
     (fun j u hj=>by rw[Addr.add_lit,cell_of_row w.drew b _ cur 63 (0,0) hb];exact hgB j u hj) (by omega) oB
   have hr1:∀ W:World,W.heap=(w.drew.setRow b cur1).heap→W.heap[b]? = some (.cells cur1 63 (0,0)):=fun W h=>by rw[h];exact setRow_heap w.drew b cur cur1 63 (0,0) hb
   have hcp2:∀ (W:World),W.heap=(w.drew.setRow b cur1).heap→∀ ty dc,(Builtin.copy_ #[39,39] ty #[.slice (some ⟨b,i * 16,none⟩) (n+m-i) dc,.slice (some ⟨vb,0,none⟩) m vc]).run Tryz.prog W=.ok (goInt m) (W.setRow b (putV (i * 16) news cur1.toList).toArray):=fun W hW ty dc=>
    ybh W 39 39 ty 63 i0 b (i * 16) _ dc ⟨vb, 0, none⟩ m vc m cur1 63 news u0 inf0 (hr1 W hW) hmin2 (by rw [size0]; exact hN)
     (fun j u hj=>by
      have hj2:j<m * 16:=by rw[← hN];exact(List.getElem?_eq_some_iff.1 hj).1
      have hvh2:W.heap[vb]? = some (.cells vcur 63 (0,0)):=by rw[hW,setRow_other w.drew b vb cur1 hvb];exact hvh
      rw[Addr.add_lit,Nat.zero_add,cell_of_row W vb j vcur 63 (0,0) hvh2,hvn j hj2];exact hj) (by omega) oN
   have fin:∀ W:World,W.heap=(w.drew.setRow b cur1).heap→W.os=w.os→W.tape=w.tape→W.output=w.output →
     AppOut w (W.setRow b (putV (i * 16) news cur1.toList).toArray) 63 16 (n+m) 0 (Value.ownBlock (.slice (some ⟨b,0,none⟩) n c)) (A++news++B) [] b c (putV (i * 16) news cur1.toList).toArray:=by
    intro W hW h1 h2 h3
    refine⟨h1,h2,h3,?_,?_,setRow_heap W b cur1 _ 63 (0,0) (hr1 W hW),by simp[yrb,hl1,hcs],by omega,hcm,?_,fun j hj=>by omega,.inl rfl⟩
    ·simp[hW]
    ·intro k hk hkb
     rw[setRow_other W b k _ hkb,hW,setRow_other w.drew b k _ hkb];rfl
    ·intro j hj
     simp only[List.getElem?_toArray,yvb]
     have hcl:cur1.toList.length=c * 16:=by simp[hl1,hcs]
     by_cases h1:j<i * 16
     ·rw[if_neg (by omega),List.append_assoc,List.getElem?_append_left (by omega),hcur1]
      simp only[yvb]
      rw[if_neg (by omega)]
      have:A[j]? = some A[j]:=List.getElem?_eq_getElem (by omega)
      rw[this];simpa using hgA j _ this
     ·by_cases h2:j<(i+m) * 16
      ·rw[if_pos (by rw[hcl,hN];omega),List.append_assoc,List.getElem?_append_right (by omega),List.getElem?_append_left (by omega),hA]
      ·rw[if_neg (by omega),List.getElem?_append_right (by simp only[List.length_append];omega),hcur1]
       simp only[yvb]
       rw[if_pos (by simp only[Array.length_toList];omega)]
       congr 1;simp only[List.length_append];omega
   clear hold hgA hgB hcs hb hvh hvs hvn hsrc hA hB hN oA oB oN hne hby hAn hr1 zero0 byt0 zs0 zone0 size0 hcur1 hl1 hmin hmin2
   go_enter Tryz.func95,Tryz.ntmps95
   go_wp2_with (simp only[hov])
   go_region_law_o (refine y5l rfl _ _ 39 39 rfl _ _ (by simp[Act.eval,Act.put]) (by simp[Act.eval,Act.put]) (hcp1 _ _ _) ?_)
   go_wp2_with (at_builtin;refine yco _ rfl _ _ 39 39 rfl _ _ rfl rfl (hcp2 _ rfl _ _) ?_)
   go_ret
   exact⟨b,c,_,rfl,fin _ rfl rfl rfl rfl⟩
  ·have hz3:(c:Int)<(n:Int)+(m:Int):=by omega
   have hbw:b<w.heap.size:=(Array.getElem?_eq_some_iff.1 hb).1
   have hvw:vb<w.heap.size:=(Array.getElem?_eq_some_iff.1 hvh).1
   have hik:i+(n+m-i)=n+m:=by omega
   have hrz:∀ ty,(Builtin.append_ #[39,3] ty #[.slice (some ⟨b,0,none⟩) i c,.int .i64 ((n:Int)+(m:Int)-(i:Int))]).run Tryz.prog w=.ok (.slice (some ⟨w.heap.size,0,none⟩) (n+m) (grownCap w (n+m) c 63)) (w.drew.alloc (.cells (A.toArray++Builtin.zeroCells z.cells (n+m-i)++Builtin.zeroCells z.cells (grownCap w (n+m) c 63-(n+m))) 63)):=fun ty=>by
    have h := yti (P := Tryz.prog) w 39 3 ty 63 i0 z u0 u3 inf0 zero0 ⟨b, 0, none⟩ i c A (by rw [size0]; exact hA)
     (fun j u hj=>by rw[Addr.add_lit,Nat.zero_add,cell_of_row w b _ cur 63 (0,0) hb];exact hgA j u hj) (n+m-i) (by omega) (by rw[size0];decide) (by omega) (by omega) (by rw[byt0,hik];exact hby)
    rw[hik,show((n+m-i:Nat):Int)=(n:Int)+(m:Int)-(i:Int)by omega]at h
    exact h
   obtain⟨N,hN0⟩:∃ N,N=w.heap.size:=⟨_,rfl⟩
   obtain⟨G9,hG⟩:∃ G9,G9=grownCap w (n+m) c 63:=⟨_,rfl⟩
   have hGn:n+m≤G9:=by rw[hG];exact grownCap_ge w _ _ _
   have hGSX:G9≤9223372036854775807:=by
    have:=grownCap_le_maxLen w (n+m) c 63 (by unfold maxLen;omega)
    rw[← hG]at this
    unfold maxLen at this
    omega
   obtain⟨row,hrow⟩:∃ row:Array Value,row=A.toArray++Builtin.zeroCells z.cells (n+m-i)++Builtin.zeroCells z.cells (G9-(n+m)):=⟨_,rfl⟩
   rw[← hG, ← hrow, ← hN0]at hrz
   have hrl:row.size=G9 * 16:=by
    rw[hrow];simp only[Array.size_append,List.size_toArray,size_zeroCells,zs0,hA];omega
   have hGi:¬ (G9=i):=by omega
   have hGim:¬ (G9=i+m):=by omega
   have hbN:b≠N:=by omega
   have hvN:vb≠N:=by omega
   have hmin1:Nat.min m (n+m-i)=m:=by simp only[Nat.min_def];split<;>omega
   have hmin2:Nat.min (n-i) (n+m-(i+m))=n-i:=by simp only[Nat.min_def];split<;>omega
   have hW1:∀ W:World,W.heap=w.heap.push (.cells row 63)→W.heap[N]? = some (.cells row 63 (0,0))∧W.heap[b]? = some (.cells cur 63 (0,0))∧W.heap[vb]? = some (.cells vcur 63 (0,0)):=by
    intro W h
    rw[h]
    refine⟨by rw[hN0];simp,?_,?_⟩
    ·rw[Array.getElem?_push,if_neg (by omega)];exact hb
    ·rw[Array.getElem?_push,if_neg (by omega)];exact hvh
   obtain⟨row2,hrow2⟩:∃ row2,row2=(putV (i * 16) news row.toList).toArray:=⟨_,rfl⟩
   have hl2:row2.size=G9 * 16:=by rw[hrow2];simp[yrb,hrl]
   have hcpA:∀ (W:World),W.heap=w.heap.push (.cells row 63)→∀ ty dc,(Builtin.copy_ #[39,39] ty #[.slice (some ⟨N,i * 16,none⟩) (n+m-i) dc,.slice (some ⟨vb,0,none⟩) m vc]).run Tryz.prog W=.ok (goInt m) (W.setRow N row2):=fun W hW ty dc=>by
    rw[hrow2]
    exact ybh W 39 39 ty 63 i0 N (i * 16) _ dc ⟨vb, 0, none⟩ m vc m row 63 news u0 inf0 (hW1 W hW).1 hmin1 (by rw [size0]; exact hN)
     (fun j u hj=>by
      have hj2:j<m * 16:=by rw[← hN];exact(List.getElem?_eq_some_iff.1 hj).1
      rw[Addr.add_lit,Nat.zero_add,cell_of_row W vb j vcur 63 (0,0) (hW1 W hW).2.2,hvn j hj2];exact hj) (by omega) oN
   have hW2:∀ W W0:World,W0.heap=w.heap.push (.cells row 63)→W.heap=(W0.setRow N row2).heap→W.heap[N]? = some (.cells row2 63 (0,0))∧W.heap[b]? = some (.cells cur 63 (0,0)):=by
    intro W W0 h0 h
    rw[h]
    exact⟨setRow_heap W0 N row row2 63 (0,0) (hW1 W0 h0).1,by rw[setRow_other W0 N b row2 hbN];exact(hW1 W0 h0).2.1⟩
   have hcpB:∀ (W W0:World),W0.heap=w.heap.push (.cells row 63)→W.heap=(W0.setRow N row2).heap→∀ ty dc sc,(Builtin.copy_ #[39,39] ty #[.slice (some ⟨N,(i+m) * 16,none⟩) (n+m-(i+m)) dc,.slice (some ⟨b,i * 16,none⟩) (n-i) sc]).run Tryz.prog W=.ok (goInt ((n-i:Nat):Int)) (W.setRow N (putV ((i+m) * 16) B row2.toList).toArray):=fun W W0 h0 hW ty dc sc=>
    ybh W 39 39 ty 63 i0 N ((i + m) * 16) _ dc ⟨b, i * 16, none⟩ _ sc (n - i) row2 63 B u0 inf0 (hW2 W W0 h0 hW).1 hmin2 (by rw [size0]; exact hB)
     (fun j u hj=>by rw[Addr.add_lit,cell_of_row W b _ cur 63 (0,0) (hW2 W W0 h0 hW).2];exact hgB j u hj) (by omega) oB
   have fin:∀ W W0:World,W0.heap=w.heap.push (.cells row 63)→W.heap=(W0.setRow N row2).heap→W.os=w.os→W.tape=w.tape→W.output=w.output →
     AppOut w (W.setRow N (putV ((i+m) * 16) B row2.toList).toArray) 63 16 (n+m) 0 (Value.ownBlock (.slice (some ⟨b,0,none⟩) n c)) (A++news++B) [] N G9 (putV ((i+m) * 16) B row2.toList).toArray:=by
    intro W W0 h0 hW h1 h2 h3
    refine⟨h1,h2,h3,?_,?_,setRow_heap W N row2 _ 63 (0,0) (hW2 W W0 h0 hW).1,by simp[yrb,hl2],by omega,hGSX,?_,fun j hj=>by omega,.inr hN0⟩
    ·simp[hW,h0]
    ·intro k hk hkb
     rw[setRow_other W N k _ hkb,hW,setRow_other W0 N k _ hkb,h0,Array.getElem?_push,if_neg (by omega)]
    ·intro j hj
     simp only[List.getElem?_toArray,yvb]
     have hcl:row2.toList.length=G9 * 16:=by simp[hl2]
     have hcl1:row.toList.length=G9 * 16:=by simp[hrl]
     by_cases h1:(i+m) * 16≤j
     ·rw[if_pos (by omega),List.getElem?_append_right (by simp only[List.length_append];omega)]
      congr 1;simp only[List.length_append];omega
     ·rw[if_neg (by omega),hrow2,List.getElem?_append_left (by simp only[List.length_append];omega)]
      simp only[yvb]
      by_cases h2:i * 16≤j
      ·rw[if_pos (by omega),List.getElem?_append_right (by omega),hA]
      ·rw[if_neg (by omega),List.getElem?_append_left (by omega),hrow]
       rw[Array.toList_append,Array.toList_append,List.append_assoc,List.getElem?_append_left (by simp;omega)]
   clear hold hgA hgB hcs hb hvh hvs hvn hsrc hA hB hN oA oB oN hne hby hAn zero0 byt0 zs0 zone0 size0 hW1 hW2 hrl hl2 hik hrow hrow2 hG hmin1 hmin2 hbw hvw
   subst hN0
   have hcpA1:=hcpA (w.alloc (.cells row 63)).drew rfl
   have hcpB1:=hcpB ((w.alloc (.cells row 63)).drew.setRow w.heap.size row2).drew (w.alloc (.cells row 63)).drew rfl rfl
   go_enter Tryz.func95,Tryz.ntmps95
   go_wp2_with (at_builtin;refine yde _ rfl _ _ _ _ rfl _ _ rfl rfl (hrz _) ?_)
   go_region_law_o (refine y5l rfl _ _ 39 39 rfl _ _ (by simp[Act.eval,Act.put]) (by simp[Act.eval,Act.put]) (hcpB1 _ _ _) ?_)
   go_wp2
   go_ret
   first|exact⟨_,_,_,rfl,fin _ (w.alloc (.cells row 63)).drew rfl rfl rfl rfl rfl⟩|exact⟨_,_,rfl,_,fin _ (w.alloc (.cells row 63)).drew rfl rfl rfl rfl rfl⟩
def zff (a0:(List Aid)) (a1:Int) (a2:(List Aid)):List Aid:=a0.take a1.toNat++a2++a0.drop a1.toNat
theorem yw2 (a0:(List Aid)) (a1:Int) (a2:(List Aid)) (hp0:0≤a1) (hp1:a1≤a0.length) (hp2:0<a2.length) (hp3:a0.length<338311270084) (hp4:a2.length<338311270084):DenM Tryz.prog 95 [ownL 63 16 ygb a0,.int .i64 a1,ownL 63 16 ygb a2] (ownL 63 16 ygb (zff a0 a1 a2)) [.any,.any,.any]:=
 yq3 ⟨_,Tryz.func95,rfl,rfl⟩ yb3 (fun v=>by simp[ygb,ownL,NoBorL,NoBor,yp,eSector]) a0 a2 a1 hp0 hp1 hp2 (by omega) (by omega)
def D_zff : List AV → Option (AV × List AV × List Prop)
 | [x0,x1,x2]=>some (ownL 63 16 ygb (zff (rdL dAid x0) (rdI x1) (rdL dAid x2)),[.any,.any,.any],[wO 63 16 ygb dAid x0,wI .i64 x1,wO 63 16 ygb dAid x2,0≤(rdI x1),(rdI x1)≤(rdL dAid x0).length,0<(rdL dAid x2).length,(rdL dAid x0).length<338311270084,(rdL dAid x2).length<338311270084])
 | _=>none
theorem yox:OkM Tryz.prog 95 D_zff:=by
 intro xs r outs ob h ho
 unfold D_zff at h
 split at h
 ·simp only[Option.some.injEq,Prod.mk.injEq]at h
  obtain⟨rfl,rfl,rfl⟩:=h
  obtain⟨h0,h1,h2,hp0,hp1,hp2,hp3,hp4,_⟩:=ho
  exact DenM.sim (yw2 _ _ _ hp0 hp1 hp2 hp3 hp4) (yy (y4p h0) <| yy (y8h h1).1 <| yy (y4p h2) <| trivial)
 ·cases h
end Go.Ab
