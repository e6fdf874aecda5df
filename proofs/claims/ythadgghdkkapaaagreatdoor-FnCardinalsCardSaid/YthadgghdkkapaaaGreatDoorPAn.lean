/- A part of a proof: walks of functions and lemmas of our own. No conditions. -/
import Derived.Test.YthadgghdkkapaaaGreatDoorPAl
import Derived.Test.YthadgghdkkapaaaGreatDoorPAi
import Derived.Test.YthadgghdkkapaaaGreatDoorPAm
import Derived.Shelf.Strings.Prefix
import Derived.Shelf.Strings.Search3
import Derived.Shelf.Strings.Cut
import Derived.Shelf.Small.Strs
import Derived.Shelf.Strings.Search1
import Derived.Shelf.Strings.Search2
import Derived.Shelf.LaysM
import Derived.Shelf.Strings.Shaped
import Derived.Shelf.Strings.Fields
import Derived.Shelf.Unicode.Latin
import Derived.Shelf.Unicode.Is16White
import Derived.Shelf.Unicode.IsSpaceAny
import Derived.Shelf.Unicode.Is16Any
import Derived.Shelf.Unicode.Is32Any
import Derived.Shelf.Unicode.ExclAny
import Derived.Test.YthadgghdkkapaaaGreatDoorProg
import Derived.Lib.ParseIntBTie
import Derived.Lib.ItoaNum
import Derived.Lib.Strings
import Derived.Lib.Join
set_option linter.unusedSectionVars false
set_option linter.unusedVariables false
set_option linter.unusedSimpArgs false
set_option maxHeartbeats 1000000
namespace Go.Ab
open Go Go.Proofs
theorem y4h {a b:Int} (h0:0<=a) (h:a<b) (h1:b<=3037000499) :
  a<IntKind.wrap .i64 ((IntKind.wrap .i64 ((IntKind.wrap .i64 (a+b))+1)).tdiv 2)/\IntKind.wrap .i64 ((IntKind.wrap .i64 ((IntKind.wrap .i64 (a+b))+1)).tdiv 2)<=b /\
  IntKind.wrap .i64 (IntKind.wrap .i64 ((IntKind.wrap .i64 ((IntKind.wrap .i64 (a+b))+1)).tdiv 2)-1)=IntKind.wrap .i64 ((IntKind.wrap .i64 ((IntKind.wrap .i64 (a+b))+1)).tdiv 2)-1:=by
 have e1:IntKind.wrap .i64 (a+b)=a+b:=by rw[IntKind.wrap_i64];omega
 have e2:IntKind.wrap .i64 (a+b+1)=a+b+1:=by rw[IntKind.wrap_i64];omega
 rw[e1,e2,Int.tdiv_eq_ediv_of_nonneg (by omega)];have e3:IntKind.wrap .i64 ((a+b+1) / 2)=(a+b+1) / 2:=by rw[IntKind.wrap_i64];omega
 rw[e3];have e4:IntKind.wrap .i64 ((a+b+1) / 2-1)=(a+b+1) / 2-1:=by rw[IntKind.wrap_i64];omega
 rw[e4];omega
theorem yeo (M:List Int):∀ (i:Nat),i<M.length->elt (M.map fun v=>[AV.int .i64 v]) i=[AV.int .i64 (M.getD i default)]:=by
 induction M with
 | nil=>intro i h;simp at h
 | cons a l ih=>
  intro i h
  cases i with
  | zero=>rfl
  | succ i=>
   simp only[List.map_cons,elt];rw[ih i (by simpa using h)];rfl
theorem y8y (M:List Int) (L:List (List AV)) (n:Nat) (h:L=M.map fun v=>[AV.int .i64 v]) (hn:n=M.length) :
  (∀ i,i<n->pureL (elt L i)=true)/\((∀ i,i<n->NoBorL (elt L i))\/∀ i,i<n->NoOwnL (elt L i))/\∀ i,i<n->simOL (elt L i) [AV.int .i64 (M.getD i default)]:=by
 subst h;subst hn;refine⟨fun i hi => ?_,Or.inl fun i hi => ?_,fun i hi => ?_⟩
 ·rw[yeo M i hi];rfl
 ·rw[yeo M i hi];simp[NoBorL,NoBor]
 ·rw[yeo M i hi];exact y9 _
end Go.Ab
namespace Go.Ab
open Go
theorem ykd {ρ σ : Type} {b : σ -> Except ρ σ} (I : σ -> Prop) (Q : ρ -> Prop) (m : σ -> Nat) (h : ∀ s, I s -> (∃ t, b s = .ok t /\ I t /\ m t < m s) \/ ∃ e, b s = .error e /\ Q e) : ∀ (k : Nat) (s : σ), I s -> m s < k -> ∃ e, ymb b k s = .error e /\ Q e
 | 0,s,_,hk=>by omega
 | k+1,s,hI,hk=>by
  rcases h s hI with⟨t,h1,h2,h3⟩|⟨e,h1,h2⟩
  ·obtain⟨e,h4,h5⟩:=ykd I Q m h k t h2 (by omega)
   exact⟨e,by simp only[ymb,h1];exact h4,h5⟩
  ·exact⟨e,by simp only[ymb,h1],h2⟩
end Go.Ab
namespace Go.Ab
open Go Go.Proofs
def yck (a0:(List Int)) (a1:(List Int)) (i1:Nat) (s1:Unit):Except (Bool) (Unit):=
 (bif ((a0.getD i1 default) != (a1.getD i1 default))then .error false else .ok ())
def zdc (a0:(List Int)) (a1:(List Int)):Bool:=
 (bif ((a0.length:Int) != (a1.length:Int))then false else(match yh (yck a0 a1) (a0.length-0) 0 ()with|.error e=>e|.ok s1=>true))
namespace N236
theorem DD:DOk Tryz.prog (Go.Ab.DD []):=yb _
theorem den (a0:(List Int)) (a1:(List Int))  : Den Tryz.prog 236 [encL 1 yq a0,encL 1 yq a1] (.bool (zdc a0 a1)):=by
 generalize hR:zdc a0 a1=r;unfold zdc at hR;refine di Tryz.func236 Tryz.ntmps236 Tryz.results236 ?_;intro c hL hc hk;obtain⟨hL0,hL1,_⟩:=hL;have hw0:a0.length<9223372036854775808:=Nat.lt_succ_of_le (yf hL0).1;have hw1:a1.length<9223372036854775808:=Nat.lt_succ_of_le (yf hL1).1;clear hL0 hL1;simp only[pars,Nat.zero_add];iterate 2 refine rS ?_
 refine AWP.cond rfl (fun hb => ?_) (fun hb => ?_)
 ·replace hR:=ct hR
  refine rS ?_;refine AWP.ret ?_;subst hR;exact es
 ·replace hR:=cf hR
  refine rS ?_;refine AWP.block ?_;generalize hz1:yh (yck a0 a1) (a0.length-0) 0 ()=z1 at hR;refine AWP.range (yck a0 a1) (fun i1 s1=>⟨[(0,encL 1 yq a0),(1,encL 1 yq a1),(12,.int .i64 (a0.length:Int)),(13,.int .i64 (i1:Int))],[]⟩) (fun i1 s1=>True) (a0.length) 0 () [] hz1 ot wt sm ?_;clear hz1;intro i1 s1 hi1 hW1 hz1;refine rS ?_;refine AWP.seq ?_;refine AWP.cond rfl (fun hb => ?_) (fun hb => ?_)
  ·have hlt1:i1<a0.length:=ot
   rw[yn hlt1]at hz1;simp only[yck]at hz1;refine rS ?_;refine rD 8 ?_;refine AWP.cond rfl (fun hb => ?_) (fun hb => ?_)
   ·simp only[hb,cond_true]at hz1
    refine rS ?_;refine AWP.ret ?_;subst hz1;dsimp only at hR;subst hR;exact es
   ·simp only[hb,cond_false]at hz1
    refine rS ?_;exact⟨_,[],hlt1,wt,hz1,sm⟩
  ·obtain rfl:i1=a0.length:=ot
   rw[yp (Nat.le_refl _)]at hz1;subst hz1;dsimp only at hR;refine AWP.exit ?_;refine yc ?_;refine rS ?_;refine AWP.ret ?_;subst hR;exact es
end N236
def D_zdc : DF
 | [x0,x1]=>some (.bool (zdc (rdL ydb x0) (rdL ydb x1)),false,[wL 1 yq ydb x0,wL 1 yq ydb x1])
 | _=>none
theorem ydp:OkD Tryz.prog 236 D_zdc:=by unfold D_zdc;exact dk N236.den
end Go.Ab
namespace Go.Ab
open Go Go.Proofs
def y5h {α ρ σ : Type} (g : α -> σ -> Except ρ σ) : List α -> σ -> Except ρ σ
  | [],s=>.ok s
  | x :: t, s => match g x s with
    | .error r=>.error r
    | .ok s'=>y5h g t s'
theorem yke {α ρ σ : Type} (g : α -> σ -> Except ρ σ) (x : α) (t : List α) (s : σ) : y5h g (x :: t) s = match g x s with
  | .error r=>.error r
  | .ok s'=>y5h g t s':=rfl
theorem yrj {α ρ σ : Type} [Inhabited α] {b : Nat -> σ -> Except ρ σ} (g : α -> σ -> Except ρ σ) (l : List α) : ∀ (k i : Nat) (s : σ), i + k = l.length -> (∀ j u, i <= j -> j < l.length -> b j u = g (l.getD j default) u) -> yh b k i s = y5h g (l.drop i) s
 | 0,i,s,h,_=>by rw[List.drop_eq_nil_of_le (by omega)];rfl
 | k+1,i,s,h,hb=>by
  have hi:i<l.length:=by omega
  rw[List.drop_eq_getElem_cons hi];simp only[yh,y5h];rw[hb i s (Nat.le_refl _) hi,List.getD_eq_getElem?_getD,List.getElem?_eq_getElem hi,Option.getD_some]
  cases g l[i] s with
  | error r=>rfl
  | ok s'=>exact yrj g l k (i+1) s' (by omega) (fun j u h1 h2=>hb j u (by omega) h2)
theorem y1c {α ρ σ:Type} [Inhabited α] {b:Nat->σ->Except ρ σ} (g:α->σ->Except ρ σ) (l:List α) (s:σ) (hb:∀ j u,j<l.length->b j u=g (l.getD j default) u):yh b (l.length-0) 0 s=y5h g l s:=by
 rw[yrj g l (l.length-0) 0 s (by omega) (fun j u _ h=>hb j u h),List.drop_zero]
theorem y5m {j:Nat} (h:0<j) (hn:j<9223372036854775808):(IntKind.wrap .i64 ((j:Int)-1)).toNat=j-1:=by
 rw[IntKind.wrap_i64];omega
end Go.Ab
namespace Go.Proofs
open Go.Shelf
def Tryz.lays137_ren:Go.Shelf.Ren:=⟨fun|137=>234|217=>276|266=>292|n=>n,fun|9=>9|5=>5|3=>3|n=>n,fun|n=>n⟩
theorem Tryz.lays137 : Go.Proofs.Lays.n137 Tryz.prog Tryz.lays137_ren := {
 mixed:=by kernel_rfl
 f137:=Tryz.func234.trans (congrArg some (by kernel_rfl))
 f217:=Tryz.func276.trans (congrArg some (by kernel_rfl))
 f266:=Tryz.func292.trans (congrArg some (by kernel_rfl))
 t3:=Tryz.underlying3
 a3:=Tryz.isAgg3
 z3:=Tryz.sizeOf3
 v3:=Tryz.zeroValue3
 t5:=Tryz.underlying5
 a5:=Tryz.isAgg5
 z5:=Tryz.sizeOf5
 v5:=Tryz.zeroValue5
 t9:=Tryz.underlying9
 a9:=Tryz.isAgg9
 z9:=Tryz.sizeOf9
 v9:=Tryz.zeroValue9 }
def Tryz.lays144_ren:Go.Shelf.Ren:=⟨fun|144=>131|143=>184|219=>241|217=>276|225=>277|224=>278|267=>279|266=>292|314=>293|n=>n,fun|9=>9|4=>4|3=>3|5=>5|46=>222|146=>268|51=>264|n=>n,fun|1=>1|n=>n⟩
theorem Tryz.lays144 : Go.Proofs.Lays.n144 Tryz.prog Tryz.lays144_ren := {
 mixed:=by kernel_rfl
 f143:=Tryz.func184.trans (congrArg some (by kernel_rfl))
 f144:=Tryz.func131.trans (congrArg some (by kernel_rfl))
 f217:=Tryz.func276.trans (congrArg some (by kernel_rfl))
 f219:=Tryz.func241.trans (congrArg some (by kernel_rfl))
 f224:=Tryz.func278.trans (congrArg some (by kernel_rfl))
 f225:=Tryz.func277.trans (congrArg some (by kernel_rfl))
 f266:=Tryz.func292.trans (congrArg some (by kernel_rfl))
 f267:=Tryz.func279.trans (congrArg some (by kernel_rfl))
 f314:=Tryz.func293.trans (congrArg some (by kernel_rfl))
 t3:=Tryz.underlying3
 a3:=Tryz.isAgg3
 z3:=Tryz.sizeOf3
 v3:=Tryz.zeroValue3
 t4:=Tryz.underlying4
 a4:=Tryz.isAgg4
 z4:=Tryz.sizeOf4
 v4:=Tryz.zeroValue4
 t5:=Tryz.underlying5
 a5:=Tryz.isAgg5
 z5:=Tryz.sizeOf5
 v5:=Tryz.zeroValue5
 t9:=Tryz.underlying9
 a9:=Tryz.isAgg9
 z9:=Tryz.sizeOf9
 v9:=Tryz.zeroValue9
 t46:=Tryz.underlying222
 a46:=Tryz.isAgg222
 z46:=Tryz.sizeOf222
 v46:=Tryz.zeroValue222
 t51:=Tryz.underlying264
 a51:=Tryz.isAgg264
 z51:=Tryz.sizeOf264
 v51:=Tryz.zeroValue264
 t146:=Tryz.underlying268
 a146:=Tryz.isAgg268
 z146:=Tryz.sizeOf268
 v146:=Tryz.zeroValue268
 g1:=by kernel_rfl }
def Tryz.lays157_ren:Go.Shelf.Ren:=⟨fun|157=>218|229=>261|199=>262|261=>287|311=>297|312=>298|n=>n,fun|9=>9|31=>102|3=>3|5=>5|4=>4|119=>247|0=>0|40=>249|152=>261|21=>21|154=>263|51=>264|141=>266|196=>274|193=>271|198=>277|49=>275|194=>272|201=>280|226=>283|46=>222|227=>284|n=>n,fun|0=>0|6=>2|n=>n⟩
theorem Tryz.lays157 : Go.Proofs.Lays.n157 Tryz.prog Tryz.lays157_ren := {
 mixed:=by kernel_rfl
 f157:=Tryz.func218.trans (congrArg some (by kernel_rfl))
 f199:=Tryz.func262.trans (congrArg some (by kernel_rfl))
 f229:=Tryz.func261.trans (congrArg some (by kernel_rfl))
 f261:=Tryz.func287.trans (congrArg some (by kernel_rfl))
 f311:=Tryz.func297.trans (congrArg some (by kernel_rfl))
 f312:=Tryz.func298.trans (congrArg some (by kernel_rfl))
 t0:=Tryz.underlying0
 a0:=Tryz.isAgg0
 z0:=Tryz.sizeOf0
 v0:=Tryz.zeroValue0
 t3:=Tryz.underlying3
 a3:=Tryz.isAgg3
 z3:=Tryz.sizeOf3
 v3:=Tryz.zeroValue3
 t4:=Tryz.underlying4
 a4:=Tryz.isAgg4
 z4:=Tryz.sizeOf4
 v4:=Tryz.zeroValue4
 t5:=Tryz.underlying5
 a5:=Tryz.isAgg5
 z5:=Tryz.sizeOf5
 v5:=Tryz.zeroValue5
 t9:=Tryz.underlying9
 a9:=Tryz.isAgg9
 z9:=Tryz.sizeOf9
 v9:=Tryz.zeroValue9
 t21:=Tryz.underlying21
 a21:=Tryz.isAgg21
 z21:=Tryz.sizeOf21
 v21:=Tryz.zeroValue21
 t31:=Tryz.underlying102
 a31:=Tryz.isAgg102
 z31:=Tryz.sizeOf102
 v31:=Tryz.zeroValue102
 t40:=Tryz.underlying249
 a40:=Tryz.isAgg249
 z40:=Tryz.sizeOf249
 v40:=Tryz.zeroValue249
 t46:=Tryz.underlying222
 a46:=Tryz.isAgg222
 z46:=Tryz.sizeOf222
 v46:=Tryz.zeroValue222
 t49:=Tryz.underlying275
 a49:=Tryz.isAgg275
 z49:=Tryz.sizeOf275
 v49:=Tryz.zeroValue275
 t51:=Tryz.underlying264
 a51:=Tryz.isAgg264
 z51:=Tryz.sizeOf264
 v51:=Tryz.zeroValue264
 t119:=Tryz.underlying247
 a119:=Tryz.isAgg247
 z119:=Tryz.sizeOf247
 t141:=Tryz.underlying266
 a141:=Tryz.isAgg266
 z141:=Tryz.sizeOf266
 v141:=Tryz.zeroValue266
 t152:=Tryz.underlying261
 a152:=Tryz.isAgg261
 z152:=Tryz.sizeOf261
 v152:=Tryz.zeroValue261
 t154:=Tryz.underlying263
 a154:=Tryz.isAgg263
 z154:=Tryz.sizeOf263
 v154:=Tryz.zeroValue263
 t193:=Tryz.underlying271
 a193:=Tryz.isAgg271
 z193:=Tryz.sizeOf271
 v193:=Tryz.zeroValue271
 t194:=Tryz.underlying272
 a194:=Tryz.isAgg272
 z194:=Tryz.sizeOf272
 v194:=Tryz.zeroValue272
 t196:=Tryz.underlying274
 a196:=Tryz.isAgg274
 z196:=Tryz.sizeOf274
 v196:=Tryz.zeroValue274
 t198:=Tryz.underlying277
 a198:=Tryz.isAgg277
 z198:=Tryz.sizeOf277
 v198:=Tryz.zeroValue277
 t201:=Tryz.underlying280
 a201:=Tryz.isAgg280
 z201:=Tryz.sizeOf280
 v201:=Tryz.zeroValue280
 t226:=Tryz.underlying283
 a226:=Tryz.isAgg283
 z226:=Tryz.sizeOf283
 v226:=Tryz.zeroValue283
 t227:=Tryz.underlying284
 a227:=Tryz.isAgg284
 z227:=Tryz.sizeOf284
 v227:=Tryz.zeroValue284
 g0:=by kernel_rfl
 g6:=by kernel_rfl }
end Go.Proofs
namespace Go.Ab
open Go Go.Proofs
def zyd (a0:(List UInt8)) (a1:Int):Int:=Go.Lib.indexByte a0 a1.toNat.toUInt8
theorem yaz (a0:(List UInt8)) (a1:Int)  : Den Tryz.prog 234 [.str a0,.int .u8 a1] (.int .i64 (zyd a0 a1)):=by
 refine Den.plain ⟨_,Tryz.func234,rfl,rfl⟩ (by simp[NoOwnL,NoOwn]) ?_;intro w M vs hI hr;simp only[RepL]at hr;obtain⟨u0,us0,f0,g0,rfl,h0e,h0,u1,us1,f1,g1,rfl,h1e,h1,rfl,_⟩:=hr;have e0:=h0.val_str;have e1:=h1.val_int;subst e0 e1;refine(Any.strings_IndexByte Tryz.lays137 ⟨a0.toArray⟩ a1 w).mono ?_;rintro e w' ⟨rfl,rfl⟩
 exact⟨_,rfl,Grow.refl _,fun M'=>yjb _ _⟩
def D_zyd : DF
 | [x0,x1]=>some (.int .i64 (zyd (rdS x0) (rdI x1)),false,[wS x0,wI .u8 x1])
 | _=>none
theorem y0v:OkD Tryz.prog 234 D_zyd:=by
 intro xs r z ob h ho;unfold D_zyd at h;split at h
 ·simp only[Option.some.injEq,Prod.mk.injEq]at h
  obtain⟨rfl,rfl,rfl⟩:=h;obtain⟨h0,h1,_⟩:=ho;exact Den.sim (yaz _ _ ) (yhb (y2d h0).1 <| yhb (yoh h1).1 <| trivial) (ypb (y2d h0).2 <| ypb (yoh h1).2 <| rfl) rfl
 ·cases h
end Go.Ab
namespace Go.Ab
open Go
def y4c:List (List UInt8):=[[46,45],[45,46,46,46],[45,46,45,46],[45,46,46],[46],[46,46,45,46],[45,45,46],[46,46,46,46],[46,46],[46,45,45,45],[45,46,45],[46,45,46,46],[45,45],[45,46],[45,45,45],[46,45,45,46],[45,45,46,45],[46,45,46],[46,46,46],[45],[46,46,45],[46,46,46,45],[46,45,45],[45,46,46,45],[45,46,45,45],[45,45,46,46]]
theorem yvf:∀ x∈y4c,1<=x.length/\x.length<=4/\∀ c∈x,c=45\/c=46:=by decide
theorem y2h (n:Nat):(y4c.getD n default).length<=4:=by
 rw[List.getD_eq_getElem?_getD]
 cases h:y4c[n]? with
 | none=>show(0:Nat)<=4;omega
 | some x=>exact(yvf x (List.mem_of_getElem? h)).2.1
theorem yiv (n:Nat):(([[46,45],[45,46,46,46],[45,46,45,46],[45,46,46],[46],[46,46,45,46],[45,45,46],[46,46,46,46],[46,46],[46,45,45,45],[45,46,45],[46,45,46,46],[45,45],[45,46],[45,45,45],[46,45,45,46],[45,45,46,45],[46,45,46],[46,46,46],[45],[46,46,45],[46,46,46,45],[46,45,45],[45,46,46,45],[45,46,45,45],[45,45,46,46]]:List (List UInt8)).getD n default).length<=4:=y2h n
theorem y8e (a:List UInt8) (c:UInt8) (h:a.length=1):Op.bytesLess a [c]=decide ((a.getD 0 0).toNat<c.toNat):=by
 obtain⟨x,rfl⟩:=List.length_eq_one_iff.1 h;simp only[Op.bytesLess,Bool.and_false,Bool.or_false,List.getD_cons_zero];rfl
theorem y1s (a:List UInt8) (c:UInt8) (h:a.length=1):(a == [c])=decide ((a.getD 0 0).toNat=c.toNat):=by
 obtain⟨x,rfl⟩:=List.length_eq_one_iff.1 h;apply Bool.eq_iff_iff.2;simp[UInt8.toNat_inj]
theorem yuh (n:Int) (h1:0<=n) (h2:n<256):IntKind.wrap .u8 n=n:=by
 have:IntKind.wrap .u8 n=n % 256:=rfl;rw[this];omega
theorem yyu (a:List UInt8) (h:((a.length:Int)=1/\Op.bytesLess a [65]=false)/\(Op.bytesLess a [90]=true\/(a == [90])=true)) :
  0<=IntKind.wrap .u8 (((a.getD 0 0).toNat:Int)-65)/\IntKind.wrap .u8 (((a.getD 0 0).toNat:Int)-65)<26/\0<=IntKind.wrap .u8 (((a.getD 0 0).toNat:Int) + -65)/\IntKind.wrap .u8 (((a.getD 0 0).toNat:Int) + -65)<26:=by
 have h1:a.length=1:=by omega
 rw[y8e a 65 h1,y8e a 90 h1,y1s a 90 h1]at h;have e1:(65:UInt8).toNat=65:=rfl;have e2:(90:UInt8).toNat=90:=rfl;rw[e1,e2]at h;simp only[decide_eq_true_eq,decide_eq_false_iff_not]at h;have hx:65<=(a.getD 0 0).toNat/\(a.getD 0 0).toNat<=90:=by omega
 rw[yuh _ (by omega) (by omega),yuh _ (by omega) (by omega)];omega
theorem yhm {ρ α : Type} (b : Nat -> List α -> Except ρ (List α)) (f : Nat -> List α) : ∀ (n i : Nat) (s : List α), (∀ j s, i <= j -> j < i + n -> b j s = .ok (s ++ f j)) -> yh b n i s = .ok (s ++ (List.range' i n).flatMap f)
 | 0,i,s,_=>by simp[yh]
 | n+1,i,s,h=>by
  simp only[yh];rw[h i s (Nat.le_refl _) (by omega)];simp only;rw[yhm b f n (i+1) _ (fun j s h1 h2=>h j s (by omega) (by omega)),List.range'_succ,List.flatMap_cons,List.append_assoc]
theorem y2j {ρ σ:Type} {b b':Nat->σ->Except ρ σ} (n i:Nat) (s:σ) (h:∀ j u,i<=j->j<i+n->b j u=b' j u):yh b n i s=yh b' n i s:=loopR_congr0 n i s h
where
 loopR_congr0 {ρ σ:Type} {b b':Nat->σ->Except ρ σ}:∀ (n i:Nat) (s:σ),(∀ j u,i<=j->j<i+n->b j u=b' j u)->yh b n i s=yh b' n i s
 | 0,i,s,_=>rfl
 | n+1,i,s,h=>by
  simp only[yh];rw[h i s (Nat.le_refl _) (by omega)]
  cases b' i s with
  | error r=>rfl
  | ok t=>exact loopR_congr0 n (i+1) t (fun j u h1 h2=>h j u (by omega) (by omega))
theorem yvu {α β:Type} (l:List α) (d:α) (f:α->β):(List.range' 0 l.length).flatMap (fun j=>[f (l.getD j d)])=l.map f:=by
 rw[<- List.map_eq_flatMap];apply List.ext_getElem
 ·simp
 ·intro i h1 h2
  simp only[List.length_map]at h2;simp[List.getD_eq_getElem?_getD,h2]
def yyy (l:List UInt8):Prop:=∀ b∈l,48<=b.toNat/\b.toNat<=57
instance (l:List UInt8):Decidable (yyy l):=by unfold yyy;infer_instance
end Go.Ab
namespace Go.Ab
open Go Go.Proofs
theorem ylk {l:List Int} (h:∀ v∈l,v<=9) (i:Nat):l.getD i default<=9:=by
 rw[List.getD_eq_getElem?_getD]
 cases hg:l[i]? with
 | none=>show(0:Int)<=9;omega
 | some x=>have:=h x (List.mem_of_getElem? hg);simpa only[Option.getD_some]
end Go.Ab
namespace Go.Ab
open Go
theorem ych (s:List Int) (a b:Int) (i:Nat) (hi:i<s.length+2):(bif i.blt s.length then[AV.int .i64 (s.getD i default)]else borrowL (elt [[AV.int .i64 a],[AV.int .i64 b]] (i-s.length)))=[AV.int .i64 ((s++[a,b]).getD i default)]:=by
 by_cases h:i<s.length
 ·have:i.blt s.length=true:=by rw[Nat.blt_eq];exact h
  rw[this];simp[List.getD_eq_getElem?_getD,List.getElem?_append_left h]
 ·have:i.blt s.length=false:=by rw[<- Bool.not_eq_true,Nat.blt_eq];exact h
  rw[this];rcases(show i=s.length\/i=s.length+1 by omega)with h1|h1
  ·subst h1
   simp[elt,borrowL,borrow,List.getD_eq_getElem?_getD]
  ·subst h1
   simp[elt,borrowL,borrow,List.getD_eq_getElem?_getD]
theorem ybl (s:List Int) (a:Int) (i:Nat) (hi:i<s.length+1):(bif i.blt s.length then[AV.int .i64 (s.getD i default)]else borrowL (elt [[AV.int .i64 a]] (i-s.length)))=[AV.int .i64 ((s++[a]).getD i default)]:=by
 by_cases h:i<s.length
 ·have:i.blt s.length=true:=by rw[Nat.blt_eq];exact h
  rw[this];simp[List.getD_eq_getElem?_getD,List.getElem?_append_left h]
 ·have:i.blt s.length=false:=by rw[<- Bool.not_eq_true,Nat.blt_eq];exact h
  rw[this];have h1:i=s.length:=by omega
  subst h1;simp[elt,borrowL,borrow,List.getD_eq_getElem?_getD]
theorem yhn (s:List Int) (a b:Int) (i:Nat) (hi:i<s.length+1+1):(bif i.blt (s.length+1)then bif i.blt s.length then[AV.int .i64 (s.getD i default)]else borrowL (elt [[AV.int .i64 a]] (i-s.length))else borrowL (elt [[AV.int .i64 b]] (i-(s.length+1))))=[AV.int .i64 ((s++[a]++[b]).getD i default)]:=by
 by_cases h:i<s.length+1
 ·have:i.blt (s.length+1)=true:=by rw[Nat.blt_eq];exact h
  rw[this,cond_true];refine(ybl s a i h).trans ?_;rw[List.getD_eq_getElem?_getD,List.getD_eq_getElem?_getD,List.getElem?_append_left (l₁:=s++[a]) (l₂:=[b]) (by simpa using h)]
 ·have:i.blt (s.length+1)=false:=by rw[<- Bool.not_eq_true,Nat.blt_eq];exact h
  rw[this];have h1:i=s.length+1:=by omega
  subst h1;simp[elt,borrowL,borrow,List.getD_eq_getElem?_getD]
theorem yqm (s:List Int) (a b:Int) (i:Nat) (hi:i<s.length+2):(i.blt s.length || pureL (borrowL (elt [[AV.int .i64 a],[AV.int .i64 b]] (i-s.length))))=true:=by
 by_cases h:i<s.length
 ·have:i.blt s.length=true:=by rw[Nat.blt_eq];exact h
  rw[this];rfl
 ·rcases(show i-s.length=0\/i-s.length=1 by omega)with h1|h1<;>rw[h1]<;>simp[elt,borrowL,borrow,pureL,pureV]
end Go.Ab
namespace Go.Ab
theorem ykp {f : Nat -> Int} {n : Nat} (hs : ∀ i, i + 1 < n -> f i < f (i + 1)) : ∀ (d i : Nat), i + d + 1 < n -> f i < f (i + d + 1)
 | 0,i,h=>hs i h
 | d+1,i,h=>by
  have h1:=ykp hs d i (by omega);have h2:=hs (i+d+1) (by omega);have:i+(d+1)+1=i+d+1+1:=by omega
  rw[this];omega
theorem ygd {f:Nat->Int} {n:Nat} (hs:∀ i,i+1<n->f i<f (i+1)) {i k:Nat} (h:i<k) (hk:k<n):f i<f k:=by
 have:=ykp hs (k-i-1) i (by omega);rwa [show i+(k-i-1)+1=k by omega]at this
theorem yzr {f arc:Nat->Int} {n:Nat} (hf:∀ i,i<n->0<=f i/\f i<=359) (hs:∀ i,i+1<n->f i<f (i+1)) :
  (∀ i,i<n->∀ k,k<n->k≠i->arc i<=(f k-f i) % 360)↔(1<n->∀ i,i<n->arc i<=(f ((i+1) % n)-f i+360) % 360):=by
 constructor
 ·intro h hn i hi
  have hne:(i+1) % n≠i:=by
   by_cases h2:i+1<n
   ·rw[Nat.mod_eq_of_lt h2];omega
   ·have:i+1=n:=by omega
    rw[this,Nat.mod_self];omega
  have:=h i hi ((i+1) % n) (Nat.mod_lt _ (by omega)) hne;omega
 ·intro h i hi k hk hki
  have hn:1<n:=by omega
  have h1:=h hn i hi;have fi:=hf i hi;have fk:=hf k hk;by_cases h2:i+1<n
  ·rw[Nat.mod_eq_of_lt h2]at h1
   have g:=hs i h2;have fn:=hf (i+1) h2;have e1:(f (i+1)-f i+360) % 360=f (i+1)-f i:=by omega
   rw[e1]at h1;by_cases h3:i<k
   ·have:f (i+1)<=f k:=by
     by_cases h4:k=i+1
     ·rw[h4];omega
     ·have:=ygd hs (i:=i+1) (k:=k) (by omega) hk;omega
    have:(f k-f i) % 360=f k-f i:=by omega
    omega
   ·have:=ygd hs (i:=k) (k:=i) (by omega) hi
    have:(f k-f i) % 360=f k-f i+360:=by omega
    omega
  ·have hin:i+1=n:=by omega
   rw[hin,Nat.mod_self]at h1;have f0:=hf 0 (by omega);have g:=ygd hs (i:=0) (k:=i) (by omega) hi;have e1:(f 0-f i+360) % 360=f 0-f i+360:=by omega
   rw[e1]at h1
   have:f 0<=f k:=by
    by_cases h4:k=0
    ·rw[h4];omega
    ·have:=ygd hs (i:=0) (k:=k) (by omega) hk;omega
   have:=ygd hs (i:=k) (k:=i) (by omega) hi;have:(f k-f i) % 360=f k-f i+360:=by omega
   omega
theorem yfw {f arc S : Nat -> Int} {n : Nat} (hf : ∀ i, i < n -> 0 <= f i /\ f i <= 359) (hs : ∀ i, i + 1 < n -> f i < f (i + 1)) (ha : ∀ i, i < n -> 1 <= arc i /\ arc i <= 360)
  (h:1<n->∀ i,i<n->arc i<=(f ((i+1) % n)-f i+360) % 360) (h0:S 0=0) (hS:∀ i,i<n->S (i+1)=S i+arc i):S n<=360:=by
 by_cases hn:1<n
 ·have key:∀ j,j<n->S j<=f j-f 0:=by
   intro j
   induction j with
   | zero=>intro _;rw[h0];omega
   | succ j ih=>
    intro hj;have i1:=ih (by omega);have i2:=h hn j (by omega);rw[Nat.mod_eq_of_lt hj]at i2;have g:=hs j hj;have fj:=hf j (by omega);have fj1:=hf (j+1) hj;have e1:(f (j+1)-f j+360) % 360=f (j+1)-f j:=by omega
    rw[hS j (by omega)];omega
  have k1:=key (n-1) (by omega);have i2:=h hn (n-1) (by omega);rw[show n-1+1=n by omega,Nat.mod_self]at i2;have f0:=hf 0 (by omega);have fn:=hf (n-1) (by omega);have g:=ygd hs (i:=0) (k:=n-1) (by omega) (by omega);have e1:(f 0-f (n-1)+360) % 360=f 0-f (n-1)+360:=by omega
  have:=hS (n-1) (by omega);rw[show n-1+1=n by omega]at this;omega
 ·by_cases h1:n=1
  ·subst h1
   have:=hS 0 (by omega);have a0:=ha 0 (by omega);simp only[Nat.zero_add]at this;omega
  ·have:n=0:=by omega
   subst this;omega
end Go.Ab
namespace Go.Ab
open Go Go.Proofs
def znb (a0:(List UInt8)) (a1:(List UInt8)):Bool:=decide (0<=Go.Lib.indexByte a0 (a1.getD 0 0))
theorem ybz (a0:(List UInt8)) (a1:(List UInt8)) (hp0:a1.length=1):Den Tryz.prog 131 [.str a0,.str a1] (.bool (znb a0 a1)):=by
 obtain⟨c,rfl⟩:∃ c,a1=[c]:=List.length_eq_one_iff.1 hp0;refine Den.plain ⟨_,Tryz.func131,rfl,rfl⟩ (by simp[NoOwnL,NoOwn]) ?_;intro w M vs hI hr;simp only[RepL]at hr;obtain⟨u0,us0,f0,g0,rfl,h0e,h0,u1,us1,f1,g1,rfl,h1e,h1,rfl,_⟩:=hr;have e0:=h0.val_str;have e1:=h1.val_str;subst e0 e1;refine(Any.strings_Contains_one Tryz.lays144 ⟨a0.toArray⟩ c w).mono ?_;rintro e w' ⟨rfl,rfl⟩
 exact⟨_,rfl,Grow.refl _,fun M'=>yuc _⟩
def D_znb : DF
 | [x0,x1]=>some (.bool (znb (rdS x0) (rdS x1)),false,[wS x0,wS x1,(rdS x1).length=1])
 | _=>none
theorem yop:OkD Tryz.prog 131 D_znb:=by
 intro xs r z ob h ho;unfold D_znb at h;split at h
 ·simp only[Option.some.injEq,Prod.mk.injEq]at h
  obtain⟨rfl,rfl,rfl⟩:=h;obtain⟨h0,h1,hp0,_⟩:=ho;exact Den.sim (ybz _ _ hp0) (yhb (y2d h0).1 <| yhb (y2d h1).1 <| trivial) (ypb (y2d h0).2 <| ypb (y2d h1).2 <| rfl) rfl
 ·cases h
theorem y00 {s n:Int} (h0:0<=s) (h1:s<n) (hn:n<9223372036854775808):0<=(IntKind.wrap .i64 (s+1)).tmod n/\(IntKind.wrap .i64 (s+1)).tmod n<n:=by
 have e:IntKind.wrap .i64 (s+1)=s+1:=by rw[IntKind.wrap_i64];omega
 rw[e,Int.tmod_eq_emod_of_nonneg (by omega)];exact⟨Int.emod_nonneg _ (by omega),Int.emod_lt_of_pos _ (by omega)⟩
theorem y9q {i:Nat} (h:i<4):(([87,82,71,89]:List UInt8).take (IntKind.wrap .i64 ((i:Int)+1)).toNat |>.drop i).length=1:=by
 rw[show(IntKind.wrap .i64 ((i:Int)+1)).toNat=i+1 from by rw[IntKind.wrap_i64];omega];rcases i with _|_|_|_|i<;>first|rfl|omega
theorem yuv (i:Nat):(([87,82,71,89]:List UInt8).take (IntKind.wrap .i64 ((i:Int)+1)).toNat |>.drop i).length<=1\/4<=i:=by
 by_cases h:i<4
 ·left;rw[y9q h];exact Nat.le_refl _
 ·right;omega
def yxm (a0:(List (List UInt8))) (a1:(List UInt8)) (i1:Nat) (s1:Unit):Except (Int) (Unit):=
 (bif (a1 == (a0.getD i1 default))then .error (i1:Int)else .ok ())
def zud (a0:(List (List UInt8))) (a1:(List UInt8)):Int:=
 (match yh (yxm a0 a1) (a0.length-0) 0 ()with|.error e=>e|.ok s1=>(-1))
namespace N217
theorem DD:DOk Tryz.prog (Go.Ab.DD []):=yb _
theorem den (a0:(List (List UInt8))) (a1:(List UInt8))  : Den Tryz.prog 217 [encL 1 eS a0,.str a1] (.int .i64 (zud a0 a1)):=by
 generalize hR:zud a0 a1=r;unfold zud at hR;refine di Tryz.func217 Tryz.ntmps217 Tryz.results217 ?_;intro c hL hc hk;obtain⟨hL0,hL1,_⟩:=hL;have hw0:a0.length<9223372036854775808:=Nat.lt_succ_of_le (yf hL0).1;have hw1:∀ v∈a0,bwS v:=fun v hv=>y7p v ((yf hL0).2 v hv)
 have hw2:a1.length<9223372036854775808:=Nat.lt_succ_of_le hL1;clear hL0 hL1;simp only[pars,Nat.zero_add];iterate 2 refine rS ?_
 refine AWP.block ?_;generalize hz1:yh (yxm a0 a1) (a0.length-0) 0 ()=z1 at hR;refine AWP.range (yxm a0 a1) (fun i1 s1=>⟨[(0,encL 1 eS a0),(1,.str a1),(7,.int .i64 (a0.length:Int)),(8,.int .i64 (i1:Int))],[]⟩) (fun i1 s1=>True) (a0.length) 0 () [] hz1 ot wt sm ?_;clear hz1;intro i1 s1 hi1 hW1 hz1;refine rS ?_;refine AWP.seq ?_;refine AWP.cond rfl (fun hb => ?_) (fun hb => ?_)
 ·have hlt1:i1<a0.length:=ot
  rw[yn hlt1]at hz1;simp only[yxm]at hz1;iterate 2 refine rS ?_
  refine AWP.cond rfl (fun hb => ?_) (fun hb => ?_)
  ·simp only[hb,cond_true]at hz1
   refine rS ?_;refine AWP.ret ?_;subst hz1;dsimp only at hR;subst hR;exact es
  ·simp only[hb,cond_false]at hz1
   refine rS ?_;exact⟨_,[],hlt1,wt,hz1,sm⟩
 ·obtain rfl:i1=a0.length:=ot
  rw[yp (Nat.le_refl _)]at hz1;subst hz1;dsimp only at hR;refine AWP.exit ?_;refine yc ?_;refine rS ?_;refine AWP.ret ?_;subst hR;exact es
end N217
def D_zud : DF
 | [x0,x1]=>some (.int .i64 (zud (rdL dS x0) (rdS x1)),false,[wL 1 eS dS x0,wS x1])
 | _=>none
theorem y0u:OkD Tryz.prog 217 D_zud:=by unfold D_zud;exact dk N217.den
def zke (a0:(List (List UInt8))) (a1:(List UInt8)):Bool:=
 decide (0<=(zud a0 a1))
namespace N157
theorem DD:DOk Tryz.prog (Go.Ab.DD [(217,dP D_zud)]):=ya y0u.e <| yb _
theorem dn:type_of% (@D_zud.eq_1):=by and_intros<;>intros<;>rfl
theorem den (a0:(List (List UInt8))) (a1:(List UInt8))  : Den Tryz.prog 157 [encL 1 eS a0,.str a1] (.bool (zke a0 a1)):=by
 generalize hR:zke a0 a1=r;unfold zke at hR;refine di Tryz.func157 Tryz.ntmps157 Tryz.results157 ?_;intro c hL hc hk;obtain⟨hL0,hL1,_⟩:=hL;have hw0:a0.length<9223372036854775808:=Nat.lt_succ_of_le (yf hL0).1;have hw1:∀ v∈a0,bwS v:=fun v hv=>y7p v ((yf hL0).2 v hv)
 have hw2:a1.length<9223372036854775808:=Nat.lt_succ_of_le hL1;clear hL0 hL1;simp only[pars,Nat.zero_add];iterate 2 refine rS ?_
 refine AWP.ret ?_;subst hR;exact es
end N157
def D_zke : DF
 | [x0,x1]=>some (.bool (zke (rdL dS x0) (rdS x1)),false,[wL 1 eS dS x0,wS x1])
 | _=>none
theorem y0p:OkD Tryz.prog 157 D_zke:=by unfold D_zke;exact dk N157.den
theorem y9c : ∀ (l cur : List UInt8) (m : Nat), cur.length + l.length <= m -> (Go.Lib.fieldsGo cur l).length <= cur.length + l.length /\ ∀ x ∈ Go.Lib.fieldsGo cur l, x.length <= m
 | [],cur,m,h=>by
  cases cur with
  | nil=>simp[Go.Lib.fieldsGo]
  | cons a c=>
   simp only[Go.Lib.fieldsGo,List.isEmpty_cons,List.length_cons,List.length_nil];refine⟨by simp,fun x hx => ?_⟩;simp at hx
   subst hx;simpa using h
 | b::l,cur,m,h=>by
  simp only[List.length_cons]at h ⊢;simp only[Go.Lib.fieldsGo];split
  ·split
   ·have:=y9c l [] m (by simp;omega)
    simp only[List.length_nil]at this;exact⟨by omega,this.2⟩
   ·rename_i hc
    have:=y9c l [] m (by simp;omega);simp only[List.length_nil]at this;have hcl:0<cur.length:=by cases cur with|nil=>simp at hc|cons _ _=>simp
    refine⟨by simp only[List.length_cons];omega,fun x hx => ?_⟩;rcases List.mem_cons.1 hx with rfl|hx
    ·omega
    ·exact this.2 x hx
  ·have:=y9c l (cur++[b]) m (by simp;omega)
   simp only[List.length_append,List.length_cons,List.length_nil]at this;exact⟨by omega,this.2⟩
theorem y1r (s:List UInt8):(Go.Lib.fields s).length<=s.length/\∀ x∈Go.Lib.fields s,x.length<=s.length:=by
 have:=y9c s [] s.length (by simp);simpa [Go.Lib.fields]using this
theorem ygr {f : FuncId} {T : TypeId} (hok : FnOk Tryz.prog f) (a0 : List UInt8) (hp0 : a0.length <= 1048576) (hp1 : ∀ x ∈ a0, x.toNat < 128)
  (hS:∀ (s:ByteArray) (w:World),s.size<4294967281->(∀ (j:Nat) b,s.data.toList[j]? = some b->b.toNat<128)->Go.Lib.TabIs Tryz.prog w tn0 .u8 Go.Lib.asciiSpaceTab->Calls Tryz.prog f #[.string s] w fun e w'=>
   e=.returned (.slice (some ⟨w.heap.size,0,none⟩) (Go.Lib.fields s.data.toList).length (Go.Lib.fields s.data.toList).length)/\w'=w.alloc (.cells ((Go.Lib.fields s.data.toList).map fun l=>Value.string ⟨l.toArray⟩).toArray T)) :
  Den Tryz.prog f [.str a0] (ownL T 1 (fun s:List UInt8=>[.str s]) (Go.Lib.fields a0)):=by
 obtain⟨l1,l2⟩:=y1r a0
 have hnth:∀ i,i<(Go.Lib.fields a0).length->((Go.Lib.fields a0).getD i default).length<=maxLen:=by
  intro i hi
  have:(Go.Lib.fields a0).getD i default∈Go.Lib.fields a0:=by
   rw[List.getD_eq_getElem?_getD,List.getElem?_eq_getElem hi];simp
  have:=l2 _ this;unfold maxLen;omega
 refine Den.fresh (T:=T) (e:=1) (enc:=fun s:List UInt8=>[.str s]) (l:=Go.Lib.fields a0) hok (by simp[NoOwnL,NoOwn]) (fun i=>[Value.string ⟨((Go.Lib.fields a0).getD i default).toArray⟩]) (fun w M i hi=>⟨?_,rfl,by simp[Value.oneCell']⟩) ?_
 ·simp only[RepL]
  exact⟨_,[],[],[],rfl,rfl,yrd _ (hnth i hi),rfl,rfl⟩
 ·intro w M vs hI hr
  simp only[RepL]at hr;obtain⟨u0,us0,f0,g0,rfl,h0e,h0,rfl,_⟩:=hr;have e0:=h0.val_str;subst e0;refine(hS ⟨a0.toArray⟩ w (by show a0.length<_;omega) (fun j b hb=>hp1 b (List.mem_of_getElem? hb)) hI).mono ?_;rintro e w' ⟨rfl,rfl⟩
  refine⟨w.heap.size,(Go.Lib.fields a0).length,((Go.Lib.fields a0).map fun x=>Value.string ⟨x.toArray⟩).toArray,rfl,?_⟩;have hfl:=y1n w T ((Go.Lib.fields a0).map fun x=>Value.string ⟨x.toArray⟩) (by rw[List.length_map];unfold maxLen;omega);rw[List.length_map]at hfl
  have hus:((List.range (Go.Lib.fields a0).length).flatMap fun i=>[((Go.Lib.fields a0).map fun x=>Value.string ⟨x.toArray⟩).getD i default])=(List.range (Go.Lib.fields a0).length).flatMap fun i=>[Value.string ⟨((Go.Lib.fields a0).getD i default).toArray⟩]:=by
   rw[List.flatMap_def,List.flatMap_def];congr 1
   apply List.map_congr_left;intro i hi;have hi:=List.mem_range.1 hi;simp[List.getD_eq_getElem?_getD,List.getElem?_map,List.getElem?_eq_getElem hi]
  rw[hus]at hfl;exact hfl
def zsf (a0:(List UInt8)):(List (List UInt8)):=Go.Lib.fields a0
theorem y1z (a0:(List UInt8)) (hp0:a0.length<=1048576) (hp1:∀ x∈a0,x.toNat<128):Den Tryz.prog 218 [.str a0] (ownL 9 1 eS (zsf a0)):=by
 exact ygr ⟨_,Tryz.func218,rfl,rfl⟩ a0 hp0 hp1 (fun s w h1 h2 h3=>Any.strings_Fields Tryz.lays157 (by kernel_rfl) (by kernel_rfl) s w h1 h2 h3)
def D_zsf : DF
 | [x0]=>some (ownL 9 1 eS (zsf (rdS x0)),false,[wS x0,(rdS x0).length<=1048576,∀ x∈(rdS x0),x.toNat<128])
 | _=>none
theorem y4v:OkD Tryz.prog 218 D_zsf:=by
 intro xs r z ob h ho;unfold D_zsf at h;split at h
 ·simp only[Option.some.injEq,Prod.mk.injEq]at h
  obtain⟨rfl,rfl,rfl⟩:=h;obtain⟨h0,hp0,hp1,_⟩:=ho;exact Den.sim (y1z _ hp0 hp1) (yhb (y2d h0).1 <| trivial) (ypb (y2d h0).2 <| rfl) rfl
 ·cases h
theorem ned {α:Type} [DecidableEq α] (x y:α):(x != y) = !decide (x=y):=by by_cases h:x=y<;>simp[h]
end Go.Ab
