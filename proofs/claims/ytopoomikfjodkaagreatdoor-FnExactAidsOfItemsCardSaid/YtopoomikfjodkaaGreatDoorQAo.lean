/- A part of a proof: walks of functions and lemmas of our own. No conditions. -/
import Derived.Test.YtopoomikfjodkaaGreatDoorQAm
import Derived.Test.YtopoomikfjodkaaGreatDoorQAl
import Derived.Shelf.Strings.Fields
import Derived.Test.YtopoomikfjodkaaGreatDoorQAn
import Derived.Test.YtopoomikfjodkaaGreatDoorQAi
import Derived.Below
import Derived.Lib.Join
import Derived.Shelf.Strings.OnBuilder
import Derived.Lib.IndexMore
import Derived.Lib.Split
import Derived.Lib.IndexLaws
import Derived.Lib.IndexBytes
import Derived.Lib.CountLaws
import Derived.Test.YtopoomikfjodkaaGreatDoorQAg
import Derived.ProofKit
import Derived.Shelf.Strings.Split
set_option linter.unusedSectionVars false
set_option linter.unusedVariables false
set_option linter.unusedSimpArgs false
set_option maxHeartbeats 1000000
namespace Go.Ab
open Go Go.Proofs
theorem yod : ∀ (l cur : List UInt8) (m : Nat), cur.length + l.length ≤ m → (Go.Lib.fieldsGo cur l).length ≤ cur.length + l.length ∧ ∀ x ∈ Go.Lib.fieldsGo cur l, x.length ≤ m
 | [],cur,m,h=>by
  cases cur with
  | nil=>simp[Go.Lib.fieldsGo]
  | cons a c=>
   simp only[Go.Lib.fieldsGo,List.isEmpty_cons,List.length_cons,List.length_nil]
   refine⟨by simp,fun x hx => ?_⟩
   simp at hx
   subst hx
   simpa using h
 | b::l,cur,m,h=>by
  simp only[List.length_cons]at h ⊢
  simp only[Go.Lib.fieldsGo]
  split
  ·split
   ·have:=yod l [] m (by simp;omega)
    simp only[List.length_nil]at this
    exact⟨by omega,this.2⟩
   ·rename_i hc
    have:=yod l [] m (by simp;omega)
    simp only[List.length_nil]at this
    have hcl:0<cur.length:=by cases cur with|nil=>simp at hc|cons _ _=>simp
    refine⟨by simp only[List.length_cons];omega,fun x hx => ?_⟩
    rcases List.mem_cons.1 hx with rfl|hx
    ·omega
    ·exact this.2 x hx
  ·have:=yod l (cur++[b]) m (by simp;omega)
   simp only[List.length_append,List.length_cons,List.length_nil]at this
   exact⟨by omega,this.2⟩
theorem y9u (s:List UInt8):(Go.Lib.fields s).length≤s.length∧∀ x∈Go.Lib.fields s,x.length≤s.length:=by
 have:=yod s [] s.length (by simp)
 simpa [Go.Lib.fields]using this
theorem yqv {f : FuncId} {T : TypeId} (hok : FnOk Tryz.prog f) (a0 : List UInt8) (hp0 : a0.length ≤ 1048576) (hp1 : ∀ x ∈ a0, x.toNat < 128)
  (hS:∀ (s:ByteArray) (w:World),s.size<4294967281→(∀ (j:Nat) b,s.data.toList[j]? = some b→b.toNat<128)→Go.Lib.TabIs Tryz.prog w tn1 .u8 Go.Lib.asciiSpaceTab→Calls Tryz.prog f #[.string s] w fun e w'=>
   e=.returned (.slice (some ⟨w.heap.size,0,none⟩) (Go.Lib.fields s.data.toList).length (Go.Lib.fields s.data.toList).length)∧w'=w.alloc (.cells ((Go.Lib.fields s.data.toList).map fun l=>Value.string ⟨l.toArray⟩).toArray T)) :
  Den Tryz.prog f [.str a0] (ownL T 1 (fun s:List UInt8=>[.str s]) (Go.Lib.fields a0)):=by
 obtain⟨l1,l2⟩:=y9u a0
 have hnth:∀ i,i<(Go.Lib.fields a0).length→((Go.Lib.fields a0).getD i default).length≤maxLen:=by
  intro i hi
  have:(Go.Lib.fields a0).getD i default∈Go.Lib.fields a0:=by
   rw[List.getD_eq_getElem?_getD,List.getElem?_eq_getElem hi]
   simp
  have:=l2 _ this
  unfold maxLen
  omega
 refine Den.fresh (T:=T) (e:=1) (enc:=fun s:List UInt8=>[.str s]) (l:=Go.Lib.fields a0) hok (by simp[NoOwnL,NoOwn]) (fun i=>[Value.string ⟨((Go.Lib.fields a0).getD i default).toArray⟩]) (fun w M i hi=>⟨?_,rfl,by simp[Value.oneCell']⟩) ?_
 ·simp only[RepL]
  exact⟨_,[],[],[],rfl,rfl,yvb _ (hnth i hi),rfl,rfl⟩
 ·intro w M vs hI hr
  simp only[RepL]at hr
  obtain⟨u0,us0,f0,g0,rfl,h0e,h0,rfl,_⟩:=hr
  have e0:=h0.val_str
  subst e0
  refine(hS ⟨a0.toArray⟩ w (by show a0.length<_;omega) (fun j b hb=>hp1 b (List.mem_of_getElem? hb)) hI.2.2.2).mono ?_
  rintro e w' ⟨rfl,rfl⟩
  refine⟨w.heap.size,(Go.Lib.fields a0).length,((Go.Lib.fields a0).map fun x=>Value.string ⟨x.toArray⟩).toArray,rfl,?_⟩
  have hfl:=yjj w T ((Go.Lib.fields a0).map fun x=>Value.string ⟨x.toArray⟩) (by rw[List.length_map];unfold maxLen;omega)
  rw[List.length_map]at hfl
  have hus:((List.range (Go.Lib.fields a0).length).flatMap fun i=>[((Go.Lib.fields a0).map fun x=>Value.string ⟨x.toArray⟩).getD i default])=(List.range (Go.Lib.fields a0).length).flatMap fun i=>[Value.string ⟨((Go.Lib.fields a0).getD i default).toArray⟩]:=by
   rw[List.flatMap_def,List.flatMap_def]
   congr 1
   apply List.map_congr_left
   intro i hi
   have hi:=List.mem_range.1 hi
   simp[List.getD_eq_getElem?_getD,List.getElem?_map,List.getElem?_eq_getElem hi]
  rw[hus]at hfl
  exact hfl
end Go.Ab

namespace Go.Ab
open Go Go.Proofs
def zfg (a0:(List UInt8)):(List (List UInt8)):=Go.Lib.fields a0
theorem yi6 (a0:(List UInt8)) (hp0:a0.length≤1048576) (hp1:∀ x∈a0,x.toNat<128):Den Tryz.prog 183 [.str a0] (ownL 9 1 eS (zfg a0)):=by
 exact yqv ⟨_,Tryz.func183,rfl,rfl⟩ a0 hp0 hp1 (fun s w h1 h2 h3=>Any.strings_Fields Tryz.lays157 (by kernel_rfl) (by kernel_rfl) s w h1 h2 h3)
def D_zfg : DF
 | [x0]=>some (ownL 9 1 eS (zfg (rdS x0)),false,[wS x0,(rdS x0).length≤1048576,∀ x∈(rdS x0),x.toNat<128])
 | _=>none
theorem y02:OkD Tryz.prog 183 D_zfg:=by
 intro xs r z ob h ho
 unfold D_zfg at h
 split at h
 ·simp only[Option.some.injEq,Prod.mk.injEq]at h
  obtain⟨rfl,rfl,rfl⟩:=h
  obtain⟨h0,hp0,hp1,_⟩:=ho
  exact Den.sim (yi6 _ hp0 hp1) (yy (yfb h0).1 <| trivial) (y4 (yfb h0).2 <| rfl) rfl
 ·cases h
end Go.Ab

namespace Go.Ab
open Go Go.Proofs
def yem (a0:(List Int)) (a1:(List Int)) (i1:Nat) (s1:Unit):Except (Bool) (Unit):=
 (bif ((a0.getD i1 default) != (a1.getD i1 default))then .error false else .ok ())
def zic (a0:(List Int)) (a1:(List Int)):Bool:=
 (bif ((a0.length:Int) != (a1.length:Int))then false else(match yd (yem a0 a1) (a0.length-0) 0 ()with|.error e=>e|.ok s1=>true))
namespace N93
theorem DD:DOk Tryz.prog (Go.Ab.DD []):=ye _
theorem den (a0:(List Int)) (a1:(List Int))  : Den Tryz.prog 93 [encL 1 yt a0,encL 1 yt a1] (.bool (zic a0 a1)):=by
 generalize hR:zic a0 a1=r
 unfold zic at hR
 refine di Tryz.func93 Tryz.ntmps93 Tryz.results93 ?_
 intro c hL hc hk
 obtain⟨hL0,hL1,_⟩:=hL
 have hw0:a0.length<9223372036854775808:=Nat.lt_succ_of_le (yf hL0).1
 have hw1:a1.length<9223372036854775808:=Nat.lt_succ_of_le (yf hL1).1
 clear hL0 hL1
 simp only[pars,Nat.zero_add]
 iterate 2 refine rS ?_
 refine AWP.cond rfl (fun hb => ?_) (fun hb => ?_)
 ·replace hR:=ct hR
  refine rS ?_
  refine AWP.ret ?_
  subst hR
  exact es
 ·replace hR:=cf hR
  refine rS ?_
  refine AWP.block ?_
  generalize hz1:yd (yem a0 a1) (a0.length-0) 0 ()=z1 at hR
  refine AWP.range (yem a0 a1) (fun i1 s1=>⟨[(0,encL 1 yt a0),(1,encL 1 yt a1),(12,.int .i64 (a0.length:Int)),(13,.int .i64 (i1:Int))],[]⟩) (fun i1 s1=>True) (a0.length) 0 () [] hz1 ot wt sm ?_
  clear hz1
  intro i1 s1 hi1 hW1 hz1
  refine rS ?_
  refine AWP.seq ?_
  refine AWP.cond rfl (fun hb => ?_) (fun hb => ?_)
  ·have hlt1:i1<a0.length:=ot
   rw[yh hlt1]at hz1;simp only[yem]at hz1
   refine rS ?_
   refine rD 8 ?_
   refine AWP.cond rfl (fun hb => ?_) (fun hb => ?_)
   ·simp only[hb,cond_true]at hz1
    refine rS ?_
    refine AWP.ret ?_
    subst hz1
    dsimp only at hR
    subst hR
    exact es
   ·simp only[hb,cond_false]at hz1
    refine rS ?_
    exact⟨_,[],hlt1,wt,hz1,sm⟩
  ·obtain rfl:i1=a0.length:=ot
   rw[yg (Nat.le_refl _)]at hz1;subst hz1;dsimp only at hR
   refine AWP.exit ?_;refine yb ?_
   refine rS ?_
   refine AWP.ret ?_
   subst hR
   exact es
end N93
def D_zic : DF
 | [x0,x1]=>some (.bool (zic (rdL y0b x0) (rdL y0b x1)),false,[wL 1 yt y0b x0,wL 1 yt y0b x1])
 | _=>none
theorem ywt:OkD Tryz.prog 93 D_zic:=by unfold D_zic;exact dk N93.den
end Go.Ab

namespace Go.Ab
open Go Go.Proofs
def zme (a0:(List UInt8)) (a1:Int):Int:=Go.Lib.indexByte a0 a1.toNat.toUInt8
theorem yw4 (a0:(List UInt8)) (a1:Int)  : Den Tryz.prog 265 [.str a0,.int .u8 a1] (.int .i64 (zme a0 a1)):=by
 refine Den.plain ⟨_,Tryz.func265,rfl,rfl⟩ (by simp[NoOwnL,NoOwn]) ?_
 intro w M vs hI hr
 simp only[RepL]at hr
 obtain⟨u0,us0,f0,g0,rfl,h0e,h0,u1,us1,f1,g1,rfl,h1e,h1,rfl,_⟩:=hr
 have e0:=h0.val_str
 have e1:=h1.val_int
 subst e0 e1
 refine(Any.strings_IndexByte Tryz.lays137 ⟨a0.toArray⟩ a1 w).mono ?_
 rintro e w' ⟨rfl,rfl⟩
 exact⟨_,rfl,Grow.refl _,fun M'=>yib _ _⟩
def D_zme : DF
 | [x0,x1]=>some (.int .i64 (zme (rdS x0) (rdI x1)),false,[wS x0,wI .u8 x1])
 | _=>none
theorem y00:OkD Tryz.prog 265 D_zme:=by
 intro xs r z ob h ho
 unfold D_zme at h
 split at h
 ·simp only[Option.some.injEq,Prod.mk.injEq]at h
  obtain⟨rfl,rfl,rfl⟩:=h
  obtain⟨h0,h1,_⟩:=ho
  exact Den.sim (yw4 _ _ ) (yy (yfb h0).1 <| yy (ymh h1).1 <| trivial) (y4 (yfb h0).2 <| y4 (ymh h1).2 <| rfl) rfl
 ·cases h
end Go.Ab

namespace Go.Ab
open Go
def y4c:List (List UInt8):=[[46,45],[45,46,46,46],[45,46,45,46],[45,46,46],[46],[46,46,45,46],[45,45,46],[46,46,46,46],[46,46],[46,45,45,45],[45,46,45],[46,45,46,46],[45,45],[45,46],[45,45,45],[46,45,45,46],[45,45,46,45],[46,45,46],[46,46,46],[45],[46,46,45],[46,46,46,45],[46,45,45],[45,46,46,45],[45,46,45,45],[45,45,46,46]]
theorem yah:∀ x∈y4c,1≤x.length∧x.length≤4∧∀ c∈x,c=45∨c=46:=by decide
theorem y6j (n:Nat):(y4c.getD n default).length≤4:=by
 rw[List.getD_eq_getElem?_getD]
 cases h:y4c[n]? with
 | none=>show(0:Nat)≤4;omega
 | some x=>exact(yah x (List.mem_of_getElem? h)).2.1
theorem yf3 (n:Nat):(([[46,45],[45,46,46,46],[45,46,45,46],[45,46,46],[46],[46,46,45,46],[45,45,46],[46,46,46,46],[46,46],[46,45,45,45],[45,46,45],[46,45,46,46],[45,45],[45,46],[45,45,45],[46,45,45,46],[45,45,46,45],[46,45,46],[46,46,46],[45],[46,46,45],[46,46,46,45],[46,45,45],[45,46,46,45],[45,46,45,45],[45,45,46,46]]:List (List UInt8)).getD n default).length≤4:=y6j n
end Go.Ab

namespace Go.Ab
open Go
theorem y9g (a:List UInt8) (c:UInt8) (h:a.length=1):Op.bytesLess a [c]=decide ((a.getD 0 0).toNat<c.toNat):=by
 obtain⟨x,rfl⟩:=List.length_eq_one_iff.1 h
 simp only[Op.bytesLess,Bool.and_false,Bool.or_false,List.getD_cons_zero]
 rfl
theorem y2y (a:List UInt8) (c:UInt8) (h:a.length=1):(a == [c])=decide ((a.getD 0 0).toNat=c.toNat):=by
 obtain⟨x,rfl⟩:=List.length_eq_one_iff.1 h
 apply Bool.eq_iff_iff.2
 simp[UInt8.toNat_inj]
theorem y9j (n:Int) (h1:0≤n) (h2:n<256):IntKind.wrap .u8 n=n:=by
 have:IntKind.wrap .u8 n=n % 256:=rfl
 rw[this];omega
theorem ye2 (a:List UInt8) (h:((a.length:Int)=1∧Op.bytesLess a [65]=false)∧(Op.bytesLess a [90]=true∨(a == [90])=true)) :
  0≤IntKind.wrap .u8 (((a.getD 0 0).toNat:Int)-65)∧IntKind.wrap .u8 (((a.getD 0 0).toNat:Int)-65)<26∧0≤IntKind.wrap .u8 (((a.getD 0 0).toNat:Int) + -65)∧IntKind.wrap .u8 (((a.getD 0 0).toNat:Int) + -65)<26:=by
 have h1:a.length=1:=by omega
 rw[y9g a 65 h1,y9g a 90 h1,y2y a 90 h1]at h
 have e1:(65:UInt8).toNat=65:=rfl
 have e2:(90:UInt8).toNat=90:=rfl
 rw[e1,e2]at h
 simp only[decide_eq_true_eq,decide_eq_false_iff_not]at h
 have hx:65≤(a.getD 0 0).toNat∧(a.getD 0 0).toNat≤90:=by omega
 rw[y9j _ (by omega) (by omega),y9j _ (by omega) (by omega)]
 omega
end Go.Ab

namespace Go.Ab
open Go
theorem yxc {ρ α : Type} (b : Nat → List α → Except ρ (List α)) (f : Nat → List α) : ∀ (n i : Nat) (s : List α), (∀ j s, i ≤ j → j < i + n → b j s = .ok (s ++ f j)) → yd b n i s = .ok (s ++ (List.range' i n).flatMap f)
 | 0,i,s,_=>by simp[yd]
 | n+1,i,s,h=>by
  simp only[yd]
  rw[h i s (Nat.le_refl _) (by omega)]
  simp only
  rw[yxc b f n (i+1) _ (fun j s h1 h2=>h j s (by omega) (by omega)),List.range'_succ,List.flatMap_cons,List.append_assoc]
theorem yol {ρ σ:Type} {b b':Nat→σ→Except ρ σ} (n i:Nat) (s:σ) (h:∀ j u,i≤j→j<i+n→b j u=b' j u):yd b n i s=yd b' n i s:=loopR_congr0 n i s h
where
 loopR_congr0 {ρ σ:Type} {b b':Nat→σ→Except ρ σ}:∀ (n i:Nat) (s:σ),(∀ j u,i≤j→j<i+n→b j u=b' j u)→yd b n i s=yd b' n i s
 | 0,i,s,_=>rfl
 | n+1,i,s,h=>by
  simp only[yd]
  rw[h i s (Nat.le_refl _) (by omega)]
  cases b' i s with
  | error r=>rfl
  | ok t=>exact loopR_congr0 n (i+1) t (fun j u h1 h2=>h j u (by omega) (by omega))
theorem yhf {α β:Type} (l:List α) (d:α) (f:α→β):(List.range' 0 l.length).flatMap (fun j=>[f (l.getD j d)])=l.map f:=by
 rw[← List.map_eq_flatMap]
 apply List.ext_getElem
 ·simp
 ·intro i h1 h2
  simp only[List.length_map]at h2
  simp[List.getD_eq_getElem?_getD,h2]
end Go.Ab

namespace Go.Ab
open Go
theorem y2i (s:List Int) (a b:Int) (i:Nat) (hi:i<s.length+2):(bif i.blt s.length then[AV.int .i64 (s.getD i default)]else borrowL (elt [[AV.int .i64 a],[AV.int .i64 b]] (i-s.length)))=[AV.int .i64 ((s++[a,b]).getD i default)]:=by
 by_cases h:i<s.length
 ·have:i.blt s.length=true:=by rw[Nat.blt_eq];exact h
  rw[this]
  simp[List.getD_eq_getElem?_getD,List.getElem?_append_left h]
 ·have:i.blt s.length=false:=by rw[← Bool.not_eq_true,Nat.blt_eq];exact h
  rw[this]
  rcases(show i=s.length∨i=s.length+1 by omega)with h1|h1
  ·subst h1
   simp[elt,borrowL,borrow,List.getD_eq_getElem?_getD]
  ·subst h1
   simp[elt,borrowL,borrow,List.getD_eq_getElem?_getD]
theorem yle (s:List Int) (a:Int) (i:Nat) (hi:i<s.length+1):(bif i.blt s.length then[AV.int .i64 (s.getD i default)]else borrowL (elt [[AV.int .i64 a]] (i-s.length)))=[AV.int .i64 ((s++[a]).getD i default)]:=by
 by_cases h:i<s.length
 ·have:i.blt s.length=true:=by rw[Nat.blt_eq];exact h
  rw[this]
  simp[List.getD_eq_getElem?_getD,List.getElem?_append_left h]
 ·have:i.blt s.length=false:=by rw[← Bool.not_eq_true,Nat.blt_eq];exact h
  rw[this]
  have h1:i=s.length:=by omega
  subst h1
  simp[elt,borrowL,borrow,List.getD_eq_getElem?_getD]
theorem yyq (s:List Int) (a b:Int) (i:Nat) (hi:i<s.length+1+1):(bif i.blt (s.length+1)then bif i.blt s.length then[AV.int .i64 (s.getD i default)]else borrowL (elt [[AV.int .i64 a]] (i-s.length))else borrowL (elt [[AV.int .i64 b]] (i-(s.length+1))))=[AV.int .i64 ((s++[a]++[b]).getD i default)]:=by
 by_cases h:i<s.length+1
 ·have:i.blt (s.length+1)=true:=by rw[Nat.blt_eq];exact h
  rw[this,cond_true]
  refine(yle s a i h).trans ?_
  rw[List.getD_eq_getElem?_getD,List.getD_eq_getElem?_getD,List.getElem?_append_left (l₁:=s++[a]) (l₂:=[b]) (by simpa using h)]
 ·have:i.blt (s.length+1)=false:=by rw[← Bool.not_eq_true,Nat.blt_eq];exact h
  rw[this]
  have h1:i=s.length+1:=by omega
  subst h1
  simp[elt,borrowL,borrow,List.getD_eq_getElem?_getD]
theorem yoq (s:List Int) (a b:Int) (i:Nat) (hi:i<s.length+2):(i.blt s.length || pureL (borrowL (elt [[AV.int .i64 a],[AV.int .i64 b]] (i-s.length))))=true:=by
 by_cases h:i<s.length
 ·have:i.blt s.length=true:=by rw[Nat.blt_eq];exact h
  rw[this];rfl
 ·rcases(show i-s.length=0∨i-s.length=1 by omega)with h1|h1<;>rw[h1]<;>simp[elt,borrowL,borrow,pureL,pureV]
end Go.Ab

namespace Go.Ab
open Go Go.Proofs
theorem ysu {i:Nat} (h:i<4):(([87,82,71,89]:List UInt8).take (IntKind.wrap .i64 ((i:Int)+1)).toNat |>.drop i).length=1:=by
 rw[show(IntKind.wrap .i64 ((i:Int)+1)).toNat=i+1 from by rw[IntKind.wrap_i64];omega]
 rcases i with _|_|_|_|i<;>first|rfl|omega
theorem ym1 (i:Nat):(([87,82,71,89]:List UInt8).take (IntKind.wrap .i64 ((i:Int)+1)).toNat |>.drop i).length≤1∨4≤i:=by
 by_cases h:i<4
 ·left;rw[ysu h];exact Nat.le_refl _
 ·right;omega
end Go.Ab

namespace Go.Ab
open Go Go.Proofs
theorem ned {α:Type} [DecidableEq α] (x y:α):(x != y) = !decide (x=y):=by by_cases h:x=y<;>simp[h]
end Go.Ab

namespace Go.Ab
open Go Go.Proofs
open Go.RowKit in
theorem ym2 {f : FuncId} (hok : FnOk Tryz.prog f) (a0 : List (List UInt8)) (a1 : List UInt8) (hp0 : a0.length ≤ 1048576) (hp1 : (Go.Lib.join a0 a1).length ≤ 1099511627776)
  (hS:∀ (bk o c:Nat) (xs:List ByteArray) (sep:ByteArray) (w:World),(∀ (j:Nat) x,xs[j]? = some x→w.cell? ⟨bk,o+j,none⟩=some (.string x))→bk<w.heap.size→xs.length≤140737488355328→xs.length≤c →
   (Go.Lib.join (xs.map (·.data.toList)) sep.data.toList).length≤140737488355328 →
   Calls Tryz.prog f #[.slice (some ⟨bk,o,none⟩) xs.length c,.string sep] w fun e w'=>e=.returned (.string ⟨(Go.Lib.join (xs.map (·.data.toList)) sep.data.toList).toArray⟩)∧Below w.heap.size w w')
  (hN:∀ (a:Option Addr) (c:Nat) (sep:ByteArray) (w:World),Calls Tryz.prog f #[.slice a 0 c,.string sep] w fun e w'=>e=.returned (.string ⟨#[]⟩)∧w'=w) :
  Den Tryz.prog f [encL 1 (fun s:List UInt8=>[.str s]) a0,.str a1] (.str (Go.Lib.join a0 a1)):=by
 refine Den.plain hok (by simp[NoOwnL,NoOwn,encL]) ?_
 intro w M vs hI hr
 simp only[RepL]at hr
 obtain⟨u0,us0,f0,g0,rfl,h0e,h0,u1,us1,f1,g1,rfl,h1e,h1,rfl,_⟩:=hr
 have e1:=h1.val_str
 subst e1
 simp only[encL,Rep]at h0
 rcases h0 with⟨hn,hev,_⟩|⟨b,o,cap,us,fps,rfl,⟨hc1,hc2⟩,hb,hcl,_⟩
 ·have h9:a0=[]:=List.length_eq_zero_iff.1 hn
  subst h9
  rcases hev with rfl|⟨a,c,rfl⟩
  ·refine(hN none 0 ⟨a1.toArray⟩ w).mono ?_
   rintro e w' ⟨rfl,rfl⟩
   exact⟨_,rfl,Grow.refl _,fun M'=>yvb [] (by unfold maxLen;simp)⟩
  ·refine(hN (some a) c ⟨a1.toArray⟩ w).mono ?_
   rintro e w' ⟨rfl,rfl⟩
   exact⟨_,rfl,Grow.refl _,fun M'=>yvb [] (by unfold maxLen;simp)⟩
 ·have hx:((a0.map fun x=>(⟨x.toArray⟩:ByteArray)).map fun x=>x.data.toList)=a0:=by
   rw[List.map_map]
   exact List.map_id'' (fun x=>rfl) _
  have hcall:=hS b o cap (a0.map fun x=>(⟨x.toArray⟩:ByteArray)) ⟨a1.toArray⟩ w (fun j x hj=>by
   rw[List.getElem?_map]at hj
   cases hg:a0[j]? with
   | none=>rw[hg]at hj;simp at hj
   | some y=>
    rw[hg]at hj
    simp only[Option.map_some,Option.some.injEq]at hj
    subst hj
    have hjl:=(List.getElem?_eq_some_iff.1 hg).1
    obtain⟨c1,c2,c3⟩:=hcl j hjl
    simp only[RepL]at c1
    obtain⟨v,vs',q1,q2,hus,_,hv,hvs,_⟩:=c1
    subst hvs
    have hv:=hv.val_str
    subst hv
    rw[hus]at c3
    have hgd:a0.getD j default=y:=by rw[List.getD_eq_getElem?_getD,hg];rfl
    rw[hgd]at c3
    have h0:=(c3 0 _ rfl).1
    rw[Nat.mul_one,Nat.add_zero]at h0
    exact h0) hb (by rw[List.length_map];omega) (by rw[List.length_map];exact hc1) (by rw[hx];exact Nat.le_trans hp1 (by omega))
  rw[List.length_map,hx]at hcall
  refine hcall.mono ?_
  rintro e w' ⟨rfl,hbl⟩
  exact⟨_,rfl,y7h hbl,fun M'=>yvb _ (by unfold maxLen;omega)⟩
end Go.Ab

namespace Go.Ab
open Go Go.Proofs
def zub (a0:(List (List UInt8))) (a1:(List UInt8)):(List UInt8):=Go.Lib.join a0 a1
theorem yk6 (a0:(List (List UInt8))) (a1:(List UInt8)) (hp0:a0.length≤1048576) (hp1:(Go.Lib.join a0 a1).length≤1099511627776):Den Tryz.prog 83 [encL 1 eS a0,.str a1] (.str (zub a0 a1)):=by
 exact ym2 ⟨_,Tryz.func83,rfl,rfl⟩ a0 a1 hp0 hp1 (fun bk o c xs sep w h1 h2 h3 h4 h5=>Any.strings_Join Tryz.lays156 Tryz.Builder_Extra_156 bk o c xs sep w h1 h2 h3 h4 h5) (fun a c sep w=>Any.strings_Join_none Tryz.lays156 Tryz.Builder_Extra_156 a c sep w)
def D_zub : DF
 | [x0,x1]=>some (.str (zub (rdL dS x0) (rdS x1)),false,[wL 1 eS dS x0,wS x1,(rdL dS x0).length≤1048576,(Go.Lib.join (rdL dS x0) (rdS x1)).length≤1099511627776])
 | _=>none
theorem ycj:OkD Tryz.prog 83 D_zub:=by
 intro xs r z ob h ho
 unfold D_zub at h
 split at h
 ·simp only[Option.some.injEq,Prod.mk.injEq]at h
  obtain⟨rfl,rfl,rfl⟩:=h
  obtain⟨h0,h1,hp0,hp1,_⟩:=ho
  exact Den.sim (yk6 _ _ hp0 hp1) (yy (yvo h0).1 <| yy (yfb h1).1 <| trivial) (y4 (yvo h0).2 <| y4 (yfb h1).2 <| rfl) rfl
 ·cases h
end Go.Ab

namespace Go.Ab
open Go Go.Proofs
theorem yrk (x:Int):(0≤x∧x.tdiv 10=x / 10)∨(x<0∧x.tdiv 10 = -((-x) / 10)):=by
 by_cases h:0≤x
 ·exact .inl ⟨h,Int.tdiv_eq_ediv_of_nonneg h⟩
 ·refine .inr ⟨by omega,?_⟩
  have h2:=Int.neg_tdiv (a:=x) (b:=10)
  rw[Int.tdiv_eq_ediv_of_nonneg (show 0 ≤ -x by omega)]at h2
  omega
end Go.Ab

namespace Go.Ab
open Go
theorem y5f : ∀ (l : List UInt8) (c : UInt8), c ∉ l → Lib.index l [c] = -1
 | [],c,_=>rfl
 | b::l,c,h=>by
  have h1:¬ c=b:=fun e=>h (by simp[e])
  have h2:=y5f l c (fun e=>h (by simp[e]))
  have h3:(c == b)=false:=by simpa using h1
  simp[Lib.index,h2,List.isPrefixOf,h3]
theorem y7g : ∀ (l t : List UInt8) (c : UInt8), c ∉ l → Lib.index (l ++ c :: t) [c] = l.length
 | [],t,c,_=>by simp[Lib.index,List.isPrefixOf]
 | b::l,t,c,h=>by
  have h1:¬ c=b:=fun e=>h (by simp[e])
  have h2:=y7g l t c (fun e=>h (by simp[e]))
  have h3:(c == b)=false:=by simpa using h1
  have h4:((l.length:Int) == -1)=false:=by rw[beq_eq_false_iff_ne];omega
  simp only[List.cons_append,Lib.index,h2,List.isPrefixOf,h3,h4,Bool.false_and,List.length_cons]
  simp
theorem yef (l t:List UInt8) (c:UInt8) (h:c∉l):Lib.cut (l++c::t) [c]=(l,t,true):=by
 unfold Lib.cut
 rw[y7g l t c h,if_pos (by omega)]
 simp only[Int.toNat_natCast,List.length_singleton]
 rw[List.take_left' rfl, ← List.drop_drop,List.drop_left' rfl]
 rfl
theorem ybj (l:List UInt8) (c:UInt8) (h:c∉l):Lib.cut l [c]=(l,[],false):=by
 unfold Lib.cut
 rw[y5f l c h,if_neg (by omega)]
theorem ylc (l p:List UInt8):Lib.hasSuffix (l++p) p=true:=by
 unfold Lib.hasSuffix
 rw[List.isSuffixOf_iff_suffix]
 exact List.suffix_append l p
theorem y7b (l p:List UInt8):Lib.trimSuffix (l++p) p=l:=by
 unfold Lib.trimSuffix
 rw[ylc]
 simp
theorem yhl (l p:List UInt8) (a b:UInt8) (h:a≠b):Lib.hasSuffix (l++[a]) (p++[b])=false:=by
 cases hs:Lib.hasSuffix (l++[a]) (p++[b])with
 | false=>rfl
 | true=>
  unfold Lib.hasSuffix at hs
  rw[List.isSuffixOf_iff_suffix]at hs
  obtain⟨t,ht⟩:=hs
  have:=congrArg List.getLast? ht
  rw[← List.append_assoc]at this
  simp at this
  exact absurd this.symm h
theorem yje (l p:List UInt8) (h:Lib.hasSuffix l p=false):Lib.trimSuffix l p=l:=by
 unfold Lib.trimSuffix
 rw[h];simp
end Go.Ab

namespace Go.Ab
open Go Go.Lib
def yn (c : UInt8) : List UInt8 → List (List UInt8)
  | []=>[[]]
  | b :: l => if b = c then [] :: yn c l else match yn c l with
    | []=>[[b]]
    | x::r=>(b::x)::r
theorem yjf (c : UInt8) : ∀ l, yn c l ≠ []
 | []=>by simp[yn]
 | b::l=>by
  simp only[yn]
  split
  ·simp
  ·split<;>simp
theorem yqb (c : UInt8) : ∀ l : List UInt8, c ∉ l → yn c l = [l]
 | [],_=>rfl
 | b::l,h=>by
  simp only[List.mem_cons,not_or]at h
  rw[yn,if_neg (fun e=>h.1 e.symm),yqb c l h.2]
theorem yrb (c : UInt8) : ∀ (a l : List UInt8), c ∉ a → yn c (a ++ c :: l) = a :: yn c l
 | [],l,_=>by simp[yn]
 | b::a,l,h=>by
  simp only[List.mem_cons,not_or]at h
  rw[List.cons_append,yn,if_neg (fun e=>h.1 e.symm),yrb c a l h.2]
theorem ysz (c:UInt8):∀ (n:Nat) (s:List UInt8),s.length≤n→splitK [c] 0 (count s [c]) s=yn c s:=by
 intro n
 induction n with
 | zero=>
  intro s h
  have:s=[]:=List.length_eq_zero_iff.1 (by omega)
  subst this
  have hi:index [] [c] = -1:=by rw[index_one];rfl
  rw[count_miss hi]
  rfl
 | succ n ih=>
  intro s h
  have h1:=index_one s c
  by_cases hm:indexByte s c = -1
  ·rw[count_miss (by rw[h1];exact hm)]
   have hn:=indexByte_none hm
   rw[yqb c s (fun hc=>by
    obtain⟨k,hk⟩:=List.getElem?_of_mem hc
    exact hn k hk)]
   rfl
  ·have hge:=indexByte_ge s c
   obtain⟨o,ho⟩:∃ o:Nat,indexByte s c=o:=⟨(indexByte s c).toNat,by omega⟩
   obtain⟨e1,e2⟩:=indexByte_some ho
   have hio:index s [c]=(o:Int):=h1.trans ho
   rw[count_hit (by simp) hio,Nat.add_comm,splitK,if_neg (by rw[hio];simp),hio]
   have hlt:o<s.length:=(List.getElem?_eq_some_iff.1 e1).1
   have hs:s=s.take o++c::s.drop (o+1):=by
    conv=>lhs;rw[← List.take_append_drop o s]
    rw[List.drop_eq_getElem_cons hlt]
    congr 2
    exact(List.getElem?_eq_some_iff.1 e1).2
   have hnot:c∉s.take o:=fun hc=>by
    obtain⟨k,hk⟩:=List.getElem?_of_mem hc
    have hko:k<o:=by
     have:=(List.getElem?_eq_some_iff.1 hk).1
     simp at this;omega
    rw[List.getElem?_take_of_lt hko]at hk
    exact e2 k hko hk
   have hd:s.drop ((o:Int).toNat+[c].length)=s.drop (o+1):=by simp
   rw[hd,show o+[c].length=o+1 from rfl,ih (s.drop (o+1)) (by simp;omega)]
   conv=>rhs;rw[hs]
   rw[yrb c _ _ hnot]
   simp
theorem y5 (c : UInt8) : ∀ (l : List UInt8), (yn c l).length ≤ l.length + 1 ∧ ∀ x ∈ yn c l, x.length ≤ l.length
 | []=>by simp[yn]
 | b::l=>by
  obtain⟨h1,h2⟩:=y5 c l
  simp only[yn]
  split
  ·simp only[List.length_cons,List.mem_cons]
   refine⟨by omega,fun x hx => ?_⟩
   rcases hx with rfl|hx
   ·simp
   ·have:=h2 x hx;omega
  ·split
   ·simp
   ·rename_i x r he
    rw[he]at h1 h2
    simp only[List.length_cons,List.mem_cons]at h1 ⊢
    refine⟨by omega,fun y hy => ?_⟩
    rcases hy with rfl|hy
    ·have:=h2 x (by simp);simp only[List.length_cons];omega
    ·have:=h2 y (by simp[hy]);omega
end Go.Ab

namespace Go.Ab
open Go
def y4b (y:Int):Bool:=(((y.tmod 4 == 0) && (y.tmod 100 != 0)) || (y.tmod 400 == 0))
theorem ybk {n:Int} (h1 : -9223372036854775808≤n) (h2:n≤9223372036854775807):IntKind.wrap .i64 n=n:=by
 rw[IntKind.wrap_i64];omega
theorem y6k {m:Int} (h1:1≤m) (h2:m≤12):m=1∨m=2∨m=3∨m=4∨m=5∨m=6∨m=7∨m=8∨m=9∨m=10∨m=11∨m=12:=by omega
def ybD (y:Int):Int:=365 * (y-2000)+(y-1997) / 4-(y-1901) / 100+(y-1601) / 400
def mbD (l:Bool) (m:Nat):Nat:=([0,0,31,59,90,120,151,181,212,243,273,304,334]:List Nat).getD m 0+(bif l && Nat.blt 2 m then 1 else 0)
def mdD (l:Bool) (m:Nat):Nat:=([0,31,28,31,30,31,30,31,31,30,31,30,31]:List Nat).getD m 0+(bif l && Nat.beq 2 m then 1 else 0)
theorem yqr:∀ (l:Bool) (m m':Fin 13),1≤m.val→m<m'→mbD l m+mdD l m≤mbD l m':=by decide
theorem y24:∀ (l:Bool) (m:Fin 13),mdD l m≤31:=by decide
theorem yv7 {l:Bool} {m:Int} (h1:1≤m) (h2:m≤12):mdD l m.toNat≤31:=y24 l ⟨m.toNat,by omega⟩
theorem yv4:∀ (l:Bool) (m:Fin 12),1≤m.val→mbD l (m.val+1)=mbD l m+mdD l m:=by decide
def ynp (a y m d:Int):Prop:=2000≤y∧1≤m∧m≤12∧1≤d∧d≤mdD (y4b y) m.toNat∧a=ybD y+mbD (y4b y) m.toNat+d-1
theorem yks (y:Int) (h:2000≤y):ybD (y+1)=ybD y+365+(bif y4b y then 1 else 0):=by
 have e1:y.tmod 4=y % 4:=Int.tmod_eq_emod_of_nonneg (by omega)
 have e2:y.tmod 100=y % 100:=Int.tmod_eq_emod_of_nonneg (by omega)
 have e3:y.tmod 400=y % 400:=Int.tmod_eq_emod_of_nonneg (by omega)
 by_cases hc:(y % 4=0∧y % 100≠0)∨y % 400=0
 ·have hl:y4b y=true:=by unfold y4b;rw[e1,e2,e3];simpa using hc
  rw[hl];simp only[cond_true];unfold ybD;omega
 ·have hl:y4b y=false:=by unfold y4b;rw[e1,e2,e3];simpa using hc
  rw[hl];simp only[cond_false];unfold ybD;omega
theorem yzp {y:Int} (h:2000≤y):0≤ybD y:=by unfold ybD;omega
theorem yzw (y y':Int) (h:y≤y'):ybD y≤ybD y':=by unfold ybD;omega
theorem yuy {y:Int} (h:ybD y≤99999):y≤2273:=by unfold ybD at h;omega
theorem y65 {l:Bool} {m:Int} (h1:1≤m) (h2:m≤11):mbD l (m+1).toNat=mbD l m.toNat+mdD l m.toNat:=by
 have:=yv4 l ⟨m.toNat,by omega⟩ (by show 1≤m.toNat;omega)
 rw[show(m+1).toNat=m.toNat+1 by omega]
 exact this
theorem y64 (l:Bool):mbD l 12+mdD l 12=365+(bif l then 1 else 0):=by cases l<;>rfl
theorem yl0 (l:Bool):mbD l 1=0:=by cases l<;>rfl
theorem y7w {l:Bool} {m:Int} (h1:1≤m) (h2:m≤12):mbD l m.toNat+mdD l m.toNat≤365+(bif l then 1 else 0):=by
 rw[← y64 l]
 by_cases h:m=12
 ·subst h;exact Nat.le_refl _
 ·have:=yqr l ⟨m.toNat,by omega⟩ ⟨12,by omega⟩ (by show 1≤m.toNat;omega) (by show m.toNat<12;omega)
  have h3:mbD l m.toNat+mdD l m.toNat≤mbD l 12:=this
  omega
theorem ynp.unique {a y m d y' m' d':Int} (h:ynp a y m d) (h':ynp a y' m' d'):y=y'∧m=m'∧d=d':=by
 obtain⟨hy,hm1,hm2,hd1,hd2,ha⟩:=h
 obtain⟨hy',hm1',hm2',hd1',hd2',ha'⟩:=h'
 have e1:=y7w (l:=y4b y) hm1 hm2
 have e1':=y7w (l:=y4b y') hm1' hm2'
 have l1:=yks y hy
 have l1':=yks y' hy'
 have hyy:y=y':=by
  by_cases h1:y<y'
  ·have:=yzw (y+1) y' (by omega)
   cases hl:y4b y<;>cases hl':y4b y'<;>simp only[hl,hl',cond_true,cond_false]at * <;> omega
  ·by_cases h2:y'<y
   ·have:=yzw (y'+1) y (by omega)
    cases hl:y4b y<;>cases hl':y4b y'<;>simp only[hl,hl',cond_true,cond_false]at * <;> omega
   ·omega
 subst hyy
 have hmm:m=m':=by
  by_cases h1:m<m'
  ·have:=yqr (y4b y) ⟨m.toNat,by omega⟩ ⟨m'.toNat,by omega⟩ (by show 1≤m.toNat;omega) (by show m.toNat<m'.toNat;omega)
   have h3:mbD (y4b y) m.toNat+mdD (y4b y) m.toNat≤mbD (y4b y) m'.toNat:=this
   omega
  ·by_cases h2:m'<m
   ·have:=yqr (y4b y) ⟨m'.toNat,by omega⟩ ⟨m.toNat,by omega⟩ (by show 1≤m'.toNat;omega) (by show m'.toNat<m.toNat;omega)
    have h3:mbD (y4b y) m'.toNat+mdD (y4b y) m'.toNat≤mbD (y4b y) m.toNat:=this
    omega
   ·omega
 subst hmm
 exact⟨rfl,rfl,by omega⟩
theorem y1k {ρ σ:Type} {body:σ→Except ρ σ} {I:σ→Prop} {Q:ρ→Prop} (hi:∀ s,I s→match body s with|.error r=>Q r|.ok t=>I t) :
  ∀ (k:Nat) (s:σ),I s→match y7 body k s with|.error r=>Q r|.ok t=>I t
 | 0,s,h=>by simpa [y7]using h
 | k+1,s,h=>by
  have:=hi s h
  simp only[y7]
  cases hb:body s with
  | error r=>simp only[hb]at this ⊢;exact this
  | ok t=>simp only[hb]at this ⊢;exact y1k hi k t this
theorem yej {ρ σ:Type} {body:σ→Except ρ σ} {I:σ→Prop} {Q:ρ→Prop} {M:σ→Nat} (hi:∀ s,I s→match body s with|.error r=>Q r|.ok t=>I t∧M t<M s) :
  ∀ (k:Nat) (s:σ),I s→M s<k→∃ r,y7 body k s=.error r∧Q r
 | 0,s,h,hk=>by omega
 | k+1,s,h,hk=>by
  have:=hi s h
  simp only[y7]
  cases hb:body s with
  | error r=>simp only[hb]at this ⊢;exact⟨r,rfl,this⟩
  | ok t=>simp only[hb]at this ⊢;exact yej hi k t this.1 (by omega)
end Go.Ab

namespace Go.Ab
open Go Go.Proofs
def zqg (a0:(List UInt8)) (a1:Int):(List UInt8):=Go.Lib.repeatL a0 a1.toNat
end Go.Ab


namespace Go.Ab
open Go Go.Proofs
theorem yjw {f : FuncId} {T : TypeId} (hok : FnOk Tryz.prog f) (a0 a1 : List UInt8) (hp0 : a0.length ≤ 1048576) (hp1 : a1.length = 1)
  (hS:∀ (s sep:ByteArray) (m:Int) (w:World),s.size<4294967281→w.cell? ⟨2,0,none⟩=some (.int .i64 m)→1≤sep.size→Calls Tryz.prog f #[.string s,.string sep] w fun e w'=>
   e=.returned (.slice (some ⟨w.heap.size,0,none⟩) (Go.Lib.countB s sep+1) (Go.Lib.countB s sep+1))∧w'=w.alloc (.cells ((Go.Lib.splitB sep 0 (Go.Lib.countB s sep) s).map Value.string).toArray T)) :
  Den Tryz.prog f [.str a0,.str a1] (ownL T 1 (fun s:List UInt8=>[.str s]) (yn (a1.getD 0 0) a0)):=by
 obtain⟨c,rfl⟩:∃ c,a1=[c]:=List.length_eq_one_iff.1 hp1
 have hl:Go.Lib.splitB ⟨#[c]⟩ 0 (Go.Lib.countB ⟨a0.toArray⟩ ⟨#[c]⟩) ⟨a0.toArray⟩=(yn c a0).map fun x=>(⟨x.toArray⟩:ByteArray):=by
  have h1:=Go.Lib.splitB_data ⟨#[c]⟩ 0 (Go.Lib.countB ⟨a0.toArray⟩ ⟨#[c]⟩) ⟨a0.toArray⟩
  rw[show Go.Lib.splitK (⟨#[c]⟩:ByteArray).data.toList 0 (Go.Lib.countB ⟨a0.toArray⟩ ⟨#[c]⟩) (⟨a0.toArray⟩:ByteArray).data.toList=yn c a0 from ysz c _ a0 (Nat.le_refl _)]at h1
  rw[← h1,List.map_map]
  refine(List.map_id'' (fun x => ?_) _).symm
  rfl
 have hcl:(yn c a0).length=Go.Lib.countB ⟨a0.toArray⟩ ⟨#[c]⟩+1:=by
  have h2:=Go.Lib.splitB_all ⟨#[c]⟩ (by show 1≤1;omega) 0 (Go.Lib.countB ⟨a0.toArray⟩ ⟨#[c]⟩) ⟨a0.toArray⟩ rfl
  rw[hl]at h2
  simpa using h2
 obtain⟨l1,l2⟩:=y5 c a0
 have hnth:∀ i,i<(yn c a0).length→((yn c a0).getD i default).length≤maxLen:=by
  intro i hi
  have:(yn c a0).getD i default∈yn c a0:=by
   rw[List.getD_eq_getElem?_getD,List.getElem?_eq_getElem hi]
   simp
  have:=l2 _ this
  unfold maxLen
  omega
 refine Den.fresh (T:=T) (e:=1) (enc:=fun s:List UInt8=>[.str s]) (l:=yn c a0) hok (by simp[NoOwnL,NoOwn]) (fun i=>[Value.string ⟨((yn c a0).getD i default).toArray⟩]) (fun w M i hi=>⟨?_,rfl,by simp[Value.oneCell']⟩) ?_
 ·simp only[RepL]
  exact⟨_,[],[],[],rfl,rfl,yvb _ (hnth i hi),rfl,rfl⟩
 ·intro w M vs hI hr
  simp only[RepL]at hr
  obtain⟨u0,us0,f0,g0,rfl,h0e,h0,u1,us1,f1,g1,rfl,h1e,h1,rfl,_⟩:=hr
  have e0:=h0.val_str
  have e1:=h1.val_str
  subst e0 e1
  obtain⟨m,hm⟩:=hI.1.2
  refine(hS ⟨a0.toArray⟩ ⟨#[c]⟩ m w (by show a0.length<_;omega) hm (by show 1≤1;omega)).mono ?_
  rintro e w' ⟨rfl,rfl⟩
  refine⟨w.heap.size,(yn c a0).length,((yn c a0).map fun x=>Value.string ⟨x.toArray⟩).toArray,by rw[← hcl],?_⟩
  have hmap:(Go.Lib.splitB ⟨#[c]⟩ 0 (Go.Lib.countB ⟨a0.toArray⟩ ⟨#[c]⟩) ⟨a0.toArray⟩).map Value.string=(yn c a0).map fun x=>Value.string ⟨x.toArray⟩:=by
   rw[hl,List.map_map];rfl
  rw[hmap]
  have hfl:=yjj w T ((yn c a0).map fun x=>Value.string ⟨x.toArray⟩) (by rw[List.length_map];unfold maxLen;omega)
  rw[List.length_map]at hfl
  have hus:((List.range (yn c a0).length).flatMap fun i=>[((yn c a0).map fun x=>Value.string ⟨x.toArray⟩).getD i default])=(List.range (yn c a0).length).flatMap fun i=>[Value.string ⟨((yn c a0).getD i default).toArray⟩]:=by
   rw[List.flatMap_def,List.flatMap_def]
   congr 1
   apply List.map_congr_left
   intro i hi
   have hi:=List.mem_range.1 hi
   simp[List.getD_eq_getElem?_getD,List.getElem?_map,List.getElem?_eq_getElem hi]
  rw[hus]at hfl
  exact hfl
end Go.Ab

namespace Go.Ab
open Go Go.Proofs
def zd (a0:(List UInt8)) (a1:(List UInt8)):(List (List UInt8)):=yn (a1.getD 0 0) a0
theorem yk7 (a0:(List UInt8)) (a1:(List UInt8)) (hp0:a0.length≤1048576) (hp1:a1.length=1):Den Tryz.prog 135 [.str a0,.str a1] (ownL 9 1 eS (zd a0 a1)):=by
 exact yjw ⟨_,Tryz.func135,rfl,rfl⟩ a0 a1 hp0 hp1 (fun s sep m w=>Any.strings_Split Tryz.lays146 (by kernel_rfl) s sep m w)
def D_zd : DF
 | [x0,x1]=>some (ownL 9 1 eS (zd (rdS x0) (rdS x1)),false,[wS x0,wS x1,(rdS x0).length≤1048576,(rdS x1).length=1])
 | _=>none
theorem yun:OkD Tryz.prog 135 D_zd:=by
 intro xs r z ob h ho
 unfold D_zd at h
 split at h
 ·simp only[Option.some.injEq,Prod.mk.injEq]at h
  obtain⟨rfl,rfl,rfl⟩:=h
  obtain⟨h0,h1,hp0,hp1,_⟩:=ho
  exact Den.sim (yk7 _ _ hp0 hp1) (yy (yfb h0).1 <| yy (yfb h1).1 <| trivial) (y4 (yfb h0).2 <| y4 (yfb h1).2 <| rfl) rfl
 ·cases h
end Go.Ab

namespace Go.Ab
open Go Go.Proofs
theorem y3t (a b:List UInt8) (h:a.length≤1048576):(zd a b).length≤1048577∧∀ x∈zd a b,x.length≤1048576:=by
 obtain⟨h1,h2⟩:=y5 (b.getD 0 0) a
 exact⟨by unfold zd;omega,fun x hx=>by have:=h2 x hx;omega⟩
end Go.Ab

namespace Go.Ab
open Go Go.Proofs
def zb (a0:(List UInt8)) (a1:(List UInt8)):((List UInt8)×(List UInt8)×Bool):=Go.Lib.cut a0 a1
theorem ym7 (a0:(List UInt8)) (a1:(List UInt8)) (hp0:a0.length≤1048576):Den Tryz.prog 184 [.str a0,.str a1] (.tup [.str ((zb a0 a1).1),.str ((zb a0 a1).2.1),.bool ((zb a0 a1).2.2)]):=by
 refine Den.plain ⟨_,Tryz.func184,rfl,rfl⟩ (by simp[NoOwnL,NoOwn]) ?_
 intro w M vs hI hr
 simp only[RepL]at hr
 obtain⟨u0,us0,f0,g0,rfl,h0e,h0,u1,us1,f1,g1,rfl,h1e,h1,rfl,_⟩:=hr
 have e0:=h0.val_str
 have e1:=h1.val_str
 subst e0 e1
 obtain⟨m,hm⟩:=hI.1.2
 refine(Any.strings_Cut Tryz.lays145 ⟨a0.toArray⟩ ⟨a1.toArray⟩ m w (by show a0.length<_;omega) hm).mono ?_
 rintro e w' ⟨rfl,k,rfl⟩
 exact⟨_,rfl,yxy w k,fun M'=>ylw (yvb _ (by have:=yas a0 a1;show(Go.Lib.cut a0 a1).1.length≤maxLen;unfold maxLen;omega)) (yvb _ (by have:=yas a0 a1;show(Go.Lib.cut a0 a1).2.1.length≤maxLen;unfold maxLen;omega)) (ycc _)⟩
def D_zb : DF
 | [x0,x1]=>some (.tup [.str ((zb (rdS x0) (rdS x1)).1),.str ((zb (rdS x0) (rdS x1)).2.1),.bool ((zb (rdS x0) (rdS x1)).2.2)],false,[wS x0,wS x1,(rdS x0).length≤1048576])
 | _=>none
theorem y1j:OkD Tryz.prog 184 D_zb:=by
 intro xs r z ob h ho
 unfold D_zb at h
 split at h
 ·simp only[Option.some.injEq,Prod.mk.injEq]at h
  obtain⟨rfl,rfl,rfl⟩:=h
  obtain⟨h0,h1,hp0,_⟩:=ho
  exact Den.sim (ym7 _ _ hp0) (yy (yfb h0).1 <| yy (yfb h1).1 <| trivial) (y4 (yfb h0).2 <| y4 (yfb h1).2 <| rfl) rfl
 ·cases h
end Go.Ab

namespace Go.Ab
open Go Go.Proofs
def ze (a0:(List UInt8)) (a1:(List UInt8)):((List UInt8)×Bool):=(Go.Lib.trimSuffix a0 a1,Go.Lib.hasSuffix a0 a1)
theorem y46 (a0:(List UInt8)) (a1:(List UInt8)) (hp0:a0.length≤1048576):Den Tryz.prog 262 [.str a0,.str a1] (.tup [.str ((ze a0 a1).1),.bool ((ze a0 a1).2)]):=by
 refine Den.plain ⟨_,Tryz.func262,rfl,rfl⟩ (by simp[NoOwnL,NoOwn]) ?_
 intro w M vs hI hr
 simp only[RepL]at hr
 obtain⟨u0,us0,f0,g0,rfl,h0e,h0,u1,us1,f1,g1,rfl,h1e,h1,rfl,_⟩:=hr
 have e0:=h0.val_str
 have e1:=h1.val_str
 subst e0 e1
 refine(Any.strings_CutSuffix Tryz.lays104 ⟨a0.toArray⟩ ⟨a1.toArray⟩ w (by show a0.length≤_;omega)).mono ?_
 rintro e w' ⟨rfl,rfl⟩
 exact⟨_,rfl,Grow.refl _,fun M'=>y14 (yvb _ (by have:=ytc a0 a1;show(Go.Lib.trimSuffix a0 a1).length≤maxLen;unfold maxLen;omega)) (ycc _)⟩
def D_ze : DF
 | [x0,x1]=>some (.tup [.str ((ze (rdS x0) (rdS x1)).1),.bool ((ze (rdS x0) (rdS x1)).2)],false,[wS x0,wS x1,(rdS x0).length≤1048576])
 | _=>none
theorem yo5:OkD Tryz.prog 262 D_ze:=by
 intro xs r z ob h ho
 unfold D_ze at h
 split at h
 ·simp only[Option.some.injEq,Prod.mk.injEq]at h
  obtain⟨rfl,rfl,rfl⟩:=h
  obtain⟨h0,h1,hp0,_⟩:=ho
  exact Den.sim (y46 _ _ hp0) (yy (yfb h0).1 <| yy (yfb h1).1 <| trivial) (y4 (yfb h0).2 <| y4 (yfb h1).2 <| rfl) rfl
 ·cases h
end Go.Ab

namespace Go.Ab
open Go Go.Proofs
theorem y3e (a b:List UInt8):(zb a b).1.length≤a.length∧(zb a b).2.1.length≤a.length:=yas a b
end Go.Ab

namespace Go.Ab
open Go Go.Proofs
theorem y2q (a b:List UInt8):(ze a b).1.length≤a.length:=ytc a b
end Go.Ab

namespace Go.Ab
open Go
structure RdOk {α:Type} (V:α→Prop) (T:α→List UInt8) (z:α) (f:List UInt8→α×Bool) (N:Nat):Prop where
 r1:∀ p,V p→(T p).length≤N→f (T p)=(p,true)
 r2:∀ a:List UInt8,a.length≤N→(f a).2=true→V (f a).1∧a=T (f a).1
 r3:∀ a:List UInt8,a.length≤N→(f a).2=false→(f a).1=z
theorem RdOk.eq {α:Type} {V:α→Prop} {T:α→List UInt8} {z:α} {f g:List UInt8→α×Bool} {N:Nat} (hf:RdOk V T z f N) (hg:RdOk V T z g N) (a:List UInt8) (h:a.length≤N):f a=g a:=by
 cases e:(f a).2 with
 | true=>
  obtain⟨h1,h2⟩:=hf.r2 a h e
  have h3:=hg.r1 _ h1 (by rw[← h2];exact h)
  rw[← h2]at h3
  rw[h3, ← e]
 | false=>
  cases e2:(g a).2 with
  | true=>
   obtain⟨h1,h2⟩:=hg.r2 a h e2
   have h3:=hf.r1 _ h1 (by rw[← h2];exact h)
   rw[← h2]at h3
   rw[h3]at e;cases e
  | false=>
   have h1:=hf.r3 a h e
   have h2:=hg.r3 a h e2
   exact Prod.ext (h1.trans h2.symm) (e.trans e2.symm)
theorem RdOk.of {α:Type} {V:α→Prop} {T:α→List UInt8} {z:α} {f:List UInt8→α×Bool} {N:Nat} (r1:∀ p,V p→(T p).length≤N→f (T p)=(p,true)) (inv:∀ a:List UInt8,a.length≤N→f a=(z,false)∨∃ p,f a=(p,true)∧V p∧a=T p):RdOk V T z f N:=
 ⟨r1,fun a h e=>by
  rcases inv a h with h1|⟨p,h1,h2,h3⟩
  ·rw[h1]at e;cases e
  ·rw[h1];exact⟨h2,h3⟩,fun a h e=>by
  rcases inv a h with h1|⟨p,h1,h2,h3⟩
  ·rw[h1]
  ·rw[h1]at e;cases e⟩
theorem ygi {α:Type} {V:α→Prop} {T:α→List UInt8} {z:α} (a:List UInt8) (m:α) (c:Bool) (hc:c=false→V m∧a=T m):(bif c then(z,false)else(m,true))=(z,false)∨∃ p,(bif c then(z,false)else(m,true))=(p,true)∧V p∧a=T p:=by
 cases c with
 | true=>exact .inl rfl
 | false=>exact .inr ⟨m,rfl,hc rfl⟩
theorem yaf {α:Type} [Inhabited α] (l:List α) (j:Nat) (hj:j<l.length):l.take j++[l.getD j default]=l.take (j+1):=by
 rw[List.take_succ_eq_append_getElem hj,List.getD_eq_getElem?_getD,List.getElem?_eq_getElem hj]
 rfl
end Go.Ab

namespace Go.Ab
open Go Go.Proofs
theorem y8c {ρ σ : Type} {b : Nat → σ → Except ρ σ} (I : Nat → σ → Prop) : ∀ {k i : Nat} {s t : σ}, yd b k i s = .ok t → I i s → (∀ j u v, i ≤ j → j < i + k → I j u → b j u = .ok v → I (j + 1) v) → I (i + k) t
 | 0,i,s,t,h,h0,_=>by simp only[yd,Except.ok.injEq]at h;subst h;exact h0
 | k+1,i,s,t,h,h0,hb=>by
  simp only[yd]at h
  cases hq:b i s with
  | error e=>rw[hq]at h;simp at h
  | ok v=>
   rw[hq]at h
   have:=y8c I (k:=k) (i:=i+1) h (hb i s v (Nat.le_refl _) (by omega) h0 hq) (fun j u v h1 h2=>hb j u v (by omega) (by omega))
   rw[show i+1+k=i+(k+1)by omega]at this
   exact this
end Go.Ab

namespace Go.Ab
open Go Go.Proofs
theorem yb4 {α:Type} [Inhabited α] {l:List α} {x:α} {j:Nat} (h:j<l.length):(l++[x]).getD j default=l.getD j default:=by
 rw[List.getD_eq_getElem?_getD,List.getD_eq_getElem?_getD,List.getElem?_append_left h]
theorem yu4 {α:Type} [Inhabited α] {l:List α} {x:α} {j:Nat} (h:¬ j<l.length) (h2:j<l.length+1):(l++[x]).getD j default=x:=by
 have:j=l.length:=by omega
 subst this
 simp
theorem ys7 {j n:Nat} (h:j<n):Nat.blt j n=true:=by
 cases hb:Nat.blt j n with
 | true=>rfl
 | false=>rw[← Bool.not_eq_true,Nat.blt_eq]at hb;exact absurd h hb
theorem yo6 {j n:Nat} (h:¬ j<n):Nat.blt j n=false:=by
 cases hb:Nat.blt j n with
 | true=>rw[Nat.blt_eq]at hb;exact absurd hb h
 | false=>rfl
end Go.Ab

namespace Go.Ab
open Go Go.Proofs
def zjd (a0:(List UInt8)) (a1:(List UInt8)):(List UInt8):=Go.Lib.trimSuffix a0 a1
theorem yy4 (a0:(List UInt8)) (a1:(List UInt8)) (hp0:a0.length≤1048576):Den Tryz.prog 187 [.str a0,.str a1] (.str (zjd a0 a1)):=by
 refine Den.plain ⟨_,Tryz.func187,rfl,rfl⟩ (by simp[NoOwnL,NoOwn]) ?_
 intro w M vs hI hr
 simp only[RepL]at hr
 obtain⟨u0,us0,f0,g0,rfl,h0e,h0,u1,us1,f1,g1,rfl,h1e,h1,rfl,_⟩:=hr
 have e0:=h0.val_str
 have e1:=h1.val_str
 subst e0 e1
 refine(Any.strings_TrimSuffix Tryz.lays102 ⟨a0.toArray⟩ ⟨a1.toArray⟩ w (by show a0.length≤_;omega)).mono ?_
 rintro e w' ⟨rfl,rfl⟩
 exact⟨_,rfl,Grow.refl _,fun M'=>yvb _ (by have:=ytc a0 a1;show(Go.Lib.trimSuffix a0 a1).length≤maxLen;unfold maxLen;omega)⟩
def D_zjd : DF
 | [x0,x1]=>some (.str (zjd (rdS x0) (rdS x1)),false,[wS x0,wS x1,(rdS x0).length≤1048576])
 | _=>none
theorem ym3:OkD Tryz.prog 187 D_zjd:=by
 intro xs r z ob h ho
 unfold D_zjd at h
 split at h
 ·simp only[Option.some.injEq,Prod.mk.injEq]at h
  obtain⟨rfl,rfl,rfl⟩:=h
  obtain⟨h0,h1,hp0,_⟩:=ho
  exact Den.sim (yy4 _ _ hp0) (yy (yfb h0).1 <| yy (yfb h1).1 <| trivial) (y4 (yfb h0).2 <| y4 (yfb h1).2 <| rfl) rfl
 ·cases h
end Go.Ab

namespace Go.Ab
open Go Go.Proofs
theorem ywx (a b:List UInt8):(zjd a b).length≤a.length:=ytc a b
end Go.Ab

namespace Go.Ab
open Go
theorem yhw (s : List UInt8) (i : Int) (h0 : 0 ≤ i) (h1 : i < (s.length : Int)) (hl : s.length ≤ 1048576)
  (hb:((((s.getD i.toNat 0).toNat:Int) == 40) && (((s.getD (IntKind.wrap .i64 ((s.length:Int)-1)).toNat 0).toNat:Int) == 41))=true) :
  0≤IntKind.wrap .i64 (i+1)∧IntKind.wrap .i64 (i+1)≤IntKind.wrap .i64 ((s.length:Int)-1)∧IntKind.wrap .i64 ((s.length:Int)-1)≤s.length:=by
 have w1:IntKind.wrap .i64 (i+1)=i+1:=by rw[IntKind.wrap_i64];omega
 have w2:IntKind.wrap .i64 ((s.length:Int)-1)=(s.length:Int)-1:=by rw[IntKind.wrap_i64];omega
 rw[w2]at hb
 rw[w1,w2]
 simp only[Bool.and_eq_true,beq_iff_eq]at hb
 have hne:i≠(s.length:Int)-1:=by
  intro h
  rw[← h,hb.1]at hb
  exact absurd hb.2 (by decide)
 omega
end Go.Ab

namespace Go.Ab
open Go Go.Proofs
theorem yxd (x:Int):IntKind.wrap .i64 x≤9223372036854775807:=by rw[IntKind.wrap_i64];omega
theorem yy2 {α:Type} [Inhabited α] {l:List α} {i:Nat} {x:α} (h:i<l.length):(l.set i x).getD i default=x:=by
 rw[yzd,if_pos ⟨rfl,h⟩]
theorem ykw {α:Type} [Inhabited α] {l:List α} {i j:Nat} {x:α} (h:¬ j=i):(l.set i x).getD j default=l.getD j default:=by
 rw[yzd,if_neg (fun hh=>h hh.1)]
theorem beqF {i j:Nat} (h:¬ j=i):(j == i)=false∧Nat.beq j i=false:=by
 have:(j == i)=false:=by simp[h]
 refine⟨this,?_⟩
 cases hb:Nat.beq j i with
 | true=>exact absurd (Nat.eq_of_beq_eq_true hb) h
 | false=>rfl
theorem mrg {p:Prop} (h:p:=by(and_intros<;>first|trivial|assumption|omega|exact yxd _|(simp only[List.length_set];omega)|exact hW1.1|exact hW1.2|(simp only[IntKind.wrap_i64];omega));first|done|fail):p:=h
end Go.Ab

namespace Go.Ab
open Go Go.Proofs
def yrc {T : Type} (step : T → Int → Int × T) : List T → Int → Int × List T
 | [],k=>(k,[])
 | x::xs,k=>((yrc step xs (step x k).1).1,(step x k).2::(yrc step xs (step x k).1).2)
theorem yyj {T : Type} (step : T → Int → Int × T) : ∀ (l : List T) (k : Int), (yrc step l k).2.length = l.length
 | [],_=>rfl
 | x::xs,k=>by simp only[yrc,List.length_cons,yyj step xs]
theorem ybi {ρ T : Type} [Inhabited T] (step : T → Int → Int × T) (b : Nat → Int × List T → Except ρ (Int × List T))
  (hb:∀ i s,b i s=.ok ((step (s.2.getD i default) s.1).1,s.2.set i (step (s.2.getD i default) s.1).2)):∀ (r p:List T) (k:Int),yd b r.length p.length (k,p++r)=.ok ((yrc step r k).1,p++(yrc step r k).2)
 | [],p,k=>by simp only[List.length_nil,yd,yrc]
 | x::r,p,k=>by
  have hg:(p++x::r).getD p.length default=x:=by simp
  have hs:(p++x::r).set p.length (step x k).2=(p++[(step x k).2])++r:=by
   rw[List.set_append_right _ _ (Nat.le_refl _)];simp
  simp only[List.length_cons,yd,hb,hg,hs]
  have:=ybi step b hb r (p++[(step x k).2]) (step x k).1
  rw[List.length_append,List.length_singleton]at this
  rw[this]
  simp only[yrc,List.append_assoc,List.singleton_append]
theorem ykt {T:Type} (step:T→Int→Int×T) (P:T→Prop) (W B:Int) (hW:0≤W) (hs:∀ x k,P x→0≤k→k≤B→k≤(step x k).1∧(step x k).1≤k+W) :
  ∀ (l:List T) (k:Int),(∀ x∈l,P x)→0≤k→k+W * l.length≤B→k≤(yrc step l k).1∧(yrc step l k).1≤k+W * l.length
 | [],k,_,_,_=>by simp[yrc]
 | x::xs,k,hp,h0,hB=>by
  have e:W * ((x::xs).length:Int)=W * (xs.length:Int)+W:=by simp only[List.length_cons];push_cast;rw[Int.mul_add,Int.mul_one]
  rw[e]at hB ⊢
  have hn:0≤W * (xs.length:Int):=Int.mul_nonneg hW (by omega)
  have h1:=hs x k (hp x (by simp)) h0 (by omega)
  have h2:=ykt step P W B hW hs xs (step x k).1 (fun y hy=>hp y (by simp[hy])) (by omega) (by omega)
  simp only[yrc]
  omega
theorem yvh {ρ T : Type} [Inhabited T] (step : T → Int → Int × T) (h : Nat → Int → Except ρ Int) (P : T → Prop) (W B : Int) (hW : 0 ≤ W)
  (hs:∀ x k,P x→0≤k→k≤B→k≤(step x k).1∧(step x k).1≤k+W) :
  ∀ (r:List T) (i:Nat) (k:Int),(∀ x∈r,P x)→0≤k→k+W * r.length≤B →
  (∀ (j:Nat) (x:T) (s:Int),P x→0≤s→s≤B→(yrc step r k).2[j]? = some (step x s).2→h (i+j) s=.ok (step x s).1) →
  yd h r.length i k=.ok (yrc step r k).1
 | [],i,k,_,_,_,_=>by simp only[List.length_nil,yd,yrc]
 | x::r,i,k,hp,h0,hB,hh=>by
  have e:W * ((x::r).length:Int)=W * (r.length:Int)+W:=by simp only[List.length_cons];push_cast;rw[Int.mul_add,Int.mul_one]
  rw[e]at hB
  have hn:0≤W * (r.length:Int):=Int.mul_nonneg hW (by omega)
  have h1:=hs x k (hp x (by simp)) h0 (by omega)
  have h2:=hh 0 x k (hp x (by simp)) h0 (by omega) (by simp[yrc])
  simp only[List.length_cons,yd]
  rw[Nat.add_zero]at h2
  rw[h2]
  simp only[yrc]
  refine yvh step h P W B hW hs r (i+1) (step x k).1 (fun y hy=>hp y (by simp[hy])) (by omega) (by omega) fun j y s hy g0 g1 g2 => ?_
  have:=hh (j+1) y s hy g0 g1 (by simpa [yrc]using g2)
  rwa [show i+(j+1)=i+1+j by omega]at this
end Go.Ab

namespace Go.Ab
open Go Go.Proofs
theorem digx {k a:Int} {n:Nat} (hW:0≤k∧n≤19∧k * 10 ^ n≤a) (hb:decide (0<k)=true) (ha:a≤9223372036854775807) :
  IntKind.wrap .i64 (k.tdiv 10)=k / 10∧n≤18∧(k / 10) * 10 ^ (n+1)≤a∧k≤9223372036854775807:=by
 obtain⟨h0,h1,h2⟩:=hW
 have h:=of_decide_eq_true hb
 have p1:(1:Int)≤10 ^ n:=by
  have:=Nat.one_le_two_pow (n:=0)
  have h3:0<10 ^ n:=Nat.pow_pos (by omega)
  have h4:((10 ^ n:Nat):Int)=(10:Int) ^ n:=by simp
  omega
 have p2:=Int.mul_le_mul_of_nonneg_left p1 h0
 rw[Int.mul_one]at p2
 have hk:k≤9223372036854775807:=by omega
 refine⟨?_,?_,?_,hk⟩
 ·rw[Int.tdiv_eq_ediv_of_nonneg h0,IntKind.wrap_i64];omega
 ·by_cases hn:n=19
  ·subst hn
   have e:(10:Int) ^ 19=10000000000000000000:=by decide
   rw[e]at h2;omega
  ·omega
 ·have q:=Int.mul_le_mul_of_nonneg_right (Int.ediv_mul_le k (show(10:Int)≠0 by decide)) (show(0:Int)≤10 ^ n by omega)
  have e:(k / 10) * 10 ^ (n+1)=k / 10 * 10 * 10 ^ n:=by rw[Int.pow_succ];ac_rfl
  rw[e];omega
theorem digd {k a:Int} {n:Nat} (hW:0≤k∧n≤19∧k * 10 ^ n≤a) (hb:decide (0<k)=true) (ha:a≤9223372036854775807):(IntKind.wrap .i64 (k.tdiv 10)).toNat<k.toNat:=by
 have h:=of_decide_eq_true hb
 rw[(digx hW hb ha).1];omega
theorem digw {k a:Int} {x l:List UInt8} (hx:x.length=1) (hW:0≤k∧l.length≤19∧k * 10 ^ l.length≤a) (hb:decide (0<k)=true) (ha:a≤9223372036854775807) :
  0≤IntKind.wrap .i64 (k.tdiv 10)∧(x++l).length≤19∧IntKind.wrap .i64 (k.tdiv 10) * 10 ^ (x++l).length≤a:=by
 obtain⟨e1,e2,e3,e4⟩:=digx hW hb ha
 rw[e1,List.length_append,hx,Nat.add_comm 1]
 exact⟨by omega,by omega,e3⟩
end Go.Ab

namespace Go.Ab
open Go Go.Proofs
def zif (a0:(List UInt8)) (a1:(List UInt8)):Bool:=
 (decide ((a1.length:Int)≤(a0.length:Int)) && ((a0.take a1.length) == a1))
namespace N342
theorem DD:DOk Tryz.prog (Go.Ab.DD []):=ye _
theorem den (a0:(List UInt8)) (a1:(List UInt8))  : Den Tryz.prog 342 [.str a0,.str a1] (.bool (zif a0 a1)):=by
 generalize hR:zif a0 a1=r
 unfold zif at hR
 refine di Tryz.func342 Tryz.ntmps342 Tryz.results342 ?_
 intro c hL hc hk
 obtain⟨hL0,hL1,_⟩:=hL
 have hw0:a0.length<9223372036854775808:=Nat.lt_succ_of_le hL0
 have hw1:a1.length<9223372036854775808:=Nat.lt_succ_of_le hL1
 clear hL0 hL1
 simp only[pars,Nat.zero_add]
 iterate 2 refine rS ?_
 refine AWP.ret ?_
 subst hR
 exact es
end N342
def D_zif : DF
 | [x0,x1]=>some (.bool (zif (rdS x0) (rdS x1)),false,[wS x0,wS x1])
 | _=>none
theorem yg2:OkD Tryz.prog 342 D_zif:=by unfold D_zif;exact dk N342.den
end Go.Ab

namespace Go.Ab
open Go Go.Proofs
def zue (a0:(List UInt8)) (a1:(List UInt8)):((List UInt8)×Bool):=
 (bif (!(zif a0 a1))then(a0,false)else((a0.take a0.length).drop a1.length,true))
namespace N312
theorem DD:DOk Tryz.prog (Go.Ab.DD [(342,dP D_zif)]):=ya yg2.e <| ye _
theorem dn:type_of% (@D_zif.eq_1):=by and_intros<;>intros<;>rfl
theorem o0 {p:Prop} (h:p:=by(first|(have h9:=hpx (by assumption);(repeat' with_reducible apply And.intro)<;>omega));first|done|fail):p:=h
theorem den (a0:(List UInt8)) (a1:(List UInt8))  : Den Tryz.prog 312 [.str a0,.str a1] (.tup [.str ((zue a0 a1).1),.bool ((zue a0 a1).2)]):=by
 generalize hR:zue a0 a1=r
 unfold zue at hR
 refine di Tryz.func312 Tryz.ntmps312 Tryz.results312 ?_
 intro c hL hc hk
 obtain⟨hL0,hL1,_⟩:=hL
 have hw0:a0.length<9223372036854775808:=Nat.lt_succ_of_le hL0
 have hw1:a1.length<9223372036854775808:=Nat.lt_succ_of_le hL1
 clear hL0 hL1
 simp only[pars,Nat.zero_add]
 have hpx:(!(zif a0 a1))=false→a1.length≤a0.length:=fun h=>by unfold zif at h;simp at h;omega
 iterate 2 refine rS ?_
 refine AWP.cond rfl (fun hb => ?_) (fun hb => ?_)
 ·replace hR:=ct hR
  refine rS ?_
  refine AWP.ret ?_
  subst hR
  exact es
 ·replace hR:=cf hR
  refine rS ?_
  refine AWP.ret ?_
  subst hR
  exact es
end N312
def D_zue : DF
 | [x0,x1]=>some (.tup [.str ((zue (rdS x0) (rdS x1)).1),.bool ((zue (rdS x0) (rdS x1)).2)],false,[wS x0,wS x1])
 | _=>none
theorem yd0:OkD Tryz.prog 312 D_zue:=by unfold D_zue;exact dk N312.den
end Go.Ab

namespace Go.Ab
open Go Go.Proofs
def zzd (a0:(List UInt8)) (a1:(List UInt8)):((List UInt8)×Bool):=
 ((zue a0 a1).1,(zue a0 a1).2)
namespace N249
theorem DD:DOk Tryz.prog (Go.Ab.DD [(312,dP D_zue)]):=ya yd0.e <| ye _
theorem dn:type_of% (@D_zue.eq_1):=by and_intros<;>intros<;>rfl
theorem den (a0:(List UInt8)) (a1:(List UInt8))  : Den Tryz.prog 249 [.str a0,.str a1] (.tup [.str ((zzd a0 a1).1),.bool ((zzd a0 a1).2)]):=by
 generalize hR:zzd a0 a1=r
 unfold zzd at hR
 refine di Tryz.func249 Tryz.ntmps249 Tryz.results249 ?_
 intro c hL hc hk
 obtain⟨hL0,hL1,_⟩:=hL
 have hw0:a0.length<9223372036854775808:=Nat.lt_succ_of_le hL0
 have hw1:a1.length<9223372036854775808:=Nat.lt_succ_of_le hL1
 clear hL0 hL1
 simp only[pars,Nat.zero_add]
 iterate 2 refine rS ?_
 refine AWP.ret ?_
 subst hR
 exact es
end N249
def D_zzd : DF
 | [x0,x1]=>some (.tup [.str ((zzd (rdS x0) (rdS x1)).1),.bool ((zzd (rdS x0) (rdS x1)).2)],false,[wS x0,wS x1])
 | _=>none
theorem yb2:OkD Tryz.prog 249 D_zzd:=by unfold D_zzd;exact dk N249.den
end Go.Ab

namespace Go.Ab
open Go Go.Proofs
def ybu (v:Item):Prop:=v.Key.length≤1048576∧v.Text.length≤1048576
theorem yww (v:Item) (h:ybu v):bdItem v:=⟨Nat.lt_of_le_of_lt h.1 (by decide),Nat.lt_of_le_of_lt h.2 (by decide)⟩
end Go.Ab
