/- A part of a proof: walks of functions and lemmas of our own. No conditions. -/
import Derived.Test.YtopoomikfjodkaaGreatDoorRAl
import Derived.Test.YtopoomikfjodkaaGreatDoorRAm
import Derived.Shelf.Strings.Fields
import Derived.Test.YtopoomikfjodkaaGreatDoorRAp
import Derived.Test.YtopoomikfjodkaaGreatDoorRAi
import Derived.Below
import Derived.Lib.Join
import Derived.Shelf.Strings.OnBuilder
import Derived.Lib.IndexMore
import Derived.Test.YtopoomikfjodkaaGreatDoorRAg
import Derived.ProofKit
import Derived.Shelf.Strings.Split
set_option linter.unusedSectionVars false
set_option linter.unusedVariables false
set_option linter.unusedSimpArgs false
set_option maxHeartbeats 1000000
namespace Go.Ab
open Go Go.Proofs
def y1s (a0:(List (List UInt8))) (a1:(List UInt8)) (i1:Nat) (s1:Unit):Except (Int) (Unit):=
 (bif (a1 == (a0.getD i1 default))then .error (i1:Int)else .ok ())
def zvf (a0:(List (List UInt8))) (a1:(List UInt8)):Int:=
 (match ye (y1s a0 a1) (a0.length-0) 0 ()with|.error e=>e|.ok s1=>(-1))
namespace N182
theorem DD:DOk Tryz.prog (Go.Ab.DD []):=yc _
theorem den (a0:(List (List UInt8))) (a1:(List UInt8))  : Den Tryz.prog 182 [encL 1 eS a0,.str a1] (.int .i64 (zvf a0 a1)):=by
 generalize hR:zvf a0 a1=r
 unfold zvf at hR
 refine di Tryz.func182 Tryz.ntmps182 Tryz.results182 ?_
 intro c hL hc hk
 obtain⟨hL0,hL1,_⟩:=hL
 have hw0:a0.length<9223372036854775808:=Nat.lt_succ_of_le (yf hL0).1
 have hw1:∀ v∈a0,bwS v:=fun v hv=>y0q v ((yf hL0).2 v hv)
 have hw2:a1.length<9223372036854775808:=Nat.lt_succ_of_le hL1
 clear hL0 hL1
 simp only[pars,Nat.zero_add]
 iterate 2 refine rS ?_
 refine AWP.block ?_
 generalize hz1:ye (y1s a0 a1) (a0.length-0) 0 ()=z1 at hR
 refine AWP.range (y1s a0 a1) (fun i1 s1=>⟨[(0,encL 1 eS a0),(1,.str a1),(7,.int .i64 (a0.length:Int)),(8,.int .i64 (i1:Int))],[]⟩) (fun i1 s1=>True) (a0.length) 0 () [] hz1 ot wt sm ?_
 clear hz1
 intro i1 s1 hi1 hW1 hz1
 refine rS ?_
 refine AWP.seq ?_
 refine AWP.cond rfl (fun hb => ?_) (fun hb => ?_)
 ·have hlt1:i1<a0.length:=ot
  rw[yj hlt1]at hz1;simp only[y1s]at hz1
  iterate 2 refine rS ?_
  refine AWP.cond rfl (fun hb => ?_) (fun hb => ?_)
  ·simp only[hb,cond_true]at hz1
   refine rS ?_
   refine AWP.ret ?_
   subst hz1
   dsimp only at hR
   subst hR
   exact es
  ·simp only[hb,cond_false]at hz1
   refine rS ?_
   exact⟨_,[],hlt1,wt,hz1,sm⟩
 ·obtain rfl:i1=a0.length:=ot
  rw[yi (Nat.le_refl _)]at hz1;subst hz1;dsimp only at hR
  refine AWP.exit ?_;refine yb ?_
  refine rS ?_
  refine AWP.ret ?_
  subst hR
  exact es
end N182
def D_zvf : DF
 | [x0,x1]=>some (.int .i64 (zvf (rdL dS x0) (rdS x1)),false,[wL 1 eS dS x0,wS x1])
 | _=>none
theorem yv5:OkD Tryz.prog 182 D_zvf:=by unfold D_zvf;exact dk N182.den
end Go.Ab

namespace Go.Ab
open Go Go.Proofs
def zae (a0:(List (List UInt8))) (a1:(List UInt8)):Bool:=
 decide (0≤(zvf a0 a1))
namespace N86
theorem DD:DOk Tryz.prog (Go.Ab.DD [(182,dP D_zvf)]):=ya yv5.e <| yc _
theorem dn:type_of% (@D_zvf.eq_1):=by and_intros<;>intros<;>rfl
theorem den (a0:(List (List UInt8))) (a1:(List UInt8))  : Den Tryz.prog 86 [encL 1 eS a0,.str a1] (.bool (zae a0 a1)):=by
 generalize hR:zae a0 a1=r
 unfold zae at hR
 refine di Tryz.func86 Tryz.ntmps86 Tryz.results86 ?_
 intro c hL hc hk
 obtain⟨hL0,hL1,_⟩:=hL
 have hw0:a0.length<9223372036854775808:=Nat.lt_succ_of_le (yf hL0).1
 have hw1:∀ v∈a0,bwS v:=fun v hv=>y0q v ((yf hL0).2 v hv)
 have hw2:a1.length<9223372036854775808:=Nat.lt_succ_of_le hL1
 clear hL0 hL1
 simp only[pars,Nat.zero_add]
 iterate 2 refine rS ?_
 refine AWP.ret ?_
 subst hR
 exact es
end N86
def D_zae : DF
 | [x0,x1]=>some (.bool (zae (rdL dS x0) (rdS x1)),false,[wL 1 eS dS x0,wS x1])
 | _=>none
theorem yvi:OkD Tryz.prog 86 D_zae:=by unfold D_zae;exact dk N86.den
end Go.Ab

namespace Go.Ab
open Go Go.Proofs
theorem yme : ∀ (l cur : List UInt8) (m : Nat), cur.length + l.length ≤ m → (Go.Lib.fieldsGo cur l).length ≤ cur.length + l.length ∧ ∀ x ∈ Go.Lib.fieldsGo cur l, x.length ≤ m
 | [],cur,m,h=>by
  cases cur with
  | nil=>simp[Go.Lib.fieldsGo]
  | cons a c=>
   simp only[Go.Lib.fieldsGo,List.isEmpty_cons,List.length_cons,List.length_nil]
   refine⟨by simp,fun x hx => ?_⟩
   simp at hx
   subst hx
   simpa using h
 | b::l,cur,m,h=>by
  simp only[List.length_cons]at h ⊢
  simp only[Go.Lib.fieldsGo]
  split
  ·split
   ·have:=yme l [] m (by simp;omega)
    simp only[List.length_nil]at this
    exact⟨by omega,this.2⟩
   ·rename_i hc
    have:=yme l [] m (by simp;omega)
    simp only[List.length_nil]at this
    have hcl:0<cur.length:=by cases cur with|nil=>simp at hc|cons _ _=>simp
    refine⟨by simp only[List.length_cons];omega,fun x hx => ?_⟩
    rcases List.mem_cons.1 hx with rfl|hx
    ·omega
    ·exact this.2 x hx
  ·have:=yme l (cur++[b]) m (by simp;omega)
   simp only[List.length_append,List.length_cons,List.length_nil]at this
   exact⟨by omega,this.2⟩
theorem y30 (s:List UInt8):(Go.Lib.fields s).length≤s.length∧∀ x∈Go.Lib.fields s,x.length≤s.length:=by
 have:=yme s [] s.length (by simp)
 simpa [Go.Lib.fields]using this
theorem yf0 {f : FuncId} {T : TypeId} (hok : FnOk Tryz.prog f) (a0 : List UInt8) (hp0 : a0.length ≤ 1048576) (hp1 : ∀ x ∈ a0, x.toNat < 128)
  (hS:∀ (s:ByteArray) (w:World),s.size<4294967281→(∀ (j:Nat) b,s.data.toList[j]? = some b→b.toNat<128)→Go.Lib.TabIs Tryz.prog w tn1 .u8 Go.Lib.asciiSpaceTab→Calls Tryz.prog f #[.string s] w fun e w'=>
   e=.returned (.slice (some ⟨w.heap.size,0,none⟩) (Go.Lib.fields s.data.toList).length (Go.Lib.fields s.data.toList).length)∧w'=w.alloc (.cells ((Go.Lib.fields s.data.toList).map fun l=>Value.string ⟨l.toArray⟩).toArray T)) :
  Den Tryz.prog f [.str a0] (ownL T 1 (fun s:List UInt8=>[.str s]) (Go.Lib.fields a0)):=by
 obtain⟨l1,l2⟩:=y30 a0
 have hnth:∀ i,i<(Go.Lib.fields a0).length→((Go.Lib.fields a0).getD i default).length≤maxLen:=by
  intro i hi
  have:(Go.Lib.fields a0).getD i default∈Go.Lib.fields a0:=by
   rw[List.getD_eq_getElem?_getD,List.getElem?_eq_getElem hi]
   simp
  have:=l2 _ this
  unfold maxLen
  omega
 refine Den.fresh (T:=T) (e:=1) (enc:=fun s:List UInt8=>[.str s]) (l:=Go.Lib.fields a0) hok (by simp[NoOwnL,NoOwn]) (fun i=>[Value.string ⟨((Go.Lib.fields a0).getD i default).toArray⟩]) (fun w M i hi=>⟨?_,rfl,by simp[Value.oneCell']⟩) ?_
 ·simp only[RepL]
  exact⟨_,[],[],[],rfl,rfl,y1b _ (hnth i hi),rfl,rfl⟩
 ·intro w M vs hI hr
  simp only[RepL]at hr
  obtain⟨u0,us0,f0,g0,rfl,h0e,h0,rfl,_⟩:=hr
  have e0:=h0.val_str
  subst e0
  refine(hS ⟨a0.toArray⟩ w (by show a0.length<_;omega) (fun j b hb=>hp1 b (List.mem_of_getElem? hb)) hI.2.2.2).mono ?_
  rintro e w' ⟨rfl,rfl⟩
  refine⟨w.heap.size,(Go.Lib.fields a0).length,((Go.Lib.fields a0).map fun x=>Value.string ⟨x.toArray⟩).toArray,rfl,?_⟩
  have hfl:=ywl w T ((Go.Lib.fields a0).map fun x=>Value.string ⟨x.toArray⟩) (by rw[List.length_map];unfold maxLen;omega)
  rw[List.length_map]at hfl
  have hus:((List.range (Go.Lib.fields a0).length).flatMap fun i=>[((Go.Lib.fields a0).map fun x=>Value.string ⟨x.toArray⟩).getD i default])=(List.range (Go.Lib.fields a0).length).flatMap fun i=>[Value.string ⟨((Go.Lib.fields a0).getD i default).toArray⟩]:=by
   rw[List.flatMap_def,List.flatMap_def]
   congr 1
   apply List.map_congr_left
   intro i hi
   have hi:=List.mem_range.1 hi
   simp[List.getD_eq_getElem?_getD,List.getElem?_map,List.getElem?_eq_getElem hi]
  rw[hus]at hfl
  exact hfl
end Go.Ab

namespace Go.Ab
open Go Go.Proofs
def zgi (a0:(List UInt8)):(List (List UInt8)):=Go.Lib.fields a0
theorem y39 (a0:(List UInt8)) (hp0:a0.length≤1048576) (hp1:∀ x∈a0,x.toNat<128):Den Tryz.prog 183 [.str a0] (ownL 9 1 eS (zgi a0)):=by
 exact yf0 ⟨_,Tryz.func183,rfl,rfl⟩ a0 hp0 hp1 (fun s w h1 h2 h3=>Any.strings_Fields Tryz.lays157 (by kernel_rfl) (by kernel_rfl) s w h1 h2 h3)
def D_zgi : DF
 | [x0]=>some (ownL 9 1 eS (zgi (rdS x0)),false,[wS x0,(rdS x0).length≤1048576,∀ x∈(rdS x0),x.toNat<128])
 | _=>none
theorem yk5:OkD Tryz.prog 183 D_zgi:=by
 intro xs r z ob h ho
 unfold D_zgi at h
 split at h
 ·simp only[Option.some.injEq,Prod.mk.injEq]at h
  obtain⟨rfl,rfl,rfl⟩:=h
  obtain⟨h0,hp0,hp1,_⟩:=ho
  exact Den.sim (y39 _ hp0 hp1) (yu (ycb h0).1 <| trivial) (yw (ycb h0).2 <| rfl) rfl
 ·cases h
end Go.Ab

namespace Go.Ab
open Go Go.Proofs
def yyn (a0:(List Int)) (a1:(List Int)) (i1:Nat) (s1:Unit):Except (Bool) (Unit):=
 (bif ((a0.getD i1 default) != (a1.getD i1 default))then .error false else .ok ())
def zuc (a0:(List Int)) (a1:(List Int)):Bool:=
 (bif ((a0.length:Int) != (a1.length:Int))then false else(match ye (yyn a0 a1) (a0.length-0) 0 ()with|.error e=>e|.ok s1=>true))
namespace N93
theorem DD:DOk Tryz.prog (Go.Ab.DD []):=yc _
theorem den (a0:(List Int)) (a1:(List Int))  : Den Tryz.prog 93 [encL 1 yr a0,encL 1 yr a1] (.bool (zuc a0 a1)):=by
 generalize hR:zuc a0 a1=r
 unfold zuc at hR
 refine di Tryz.func93 Tryz.ntmps93 Tryz.results93 ?_
 intro c hL hc hk
 obtain⟨hL0,hL1,_⟩:=hL
 have hw0:a0.length<9223372036854775808:=Nat.lt_succ_of_le (yf hL0).1
 have hw1:a1.length<9223372036854775808:=Nat.lt_succ_of_le (yf hL1).1
 clear hL0 hL1
 simp only[pars,Nat.zero_add]
 iterate 2 refine rS ?_
 refine AWP.cond rfl (fun hb => ?_) (fun hb => ?_)
 ·replace hR:=ct hR
  refine rS ?_
  refine AWP.ret ?_
  subst hR
  exact es
 ·replace hR:=cf hR
  refine rS ?_
  refine AWP.block ?_
  generalize hz1:ye (yyn a0 a1) (a0.length-0) 0 ()=z1 at hR
  refine AWP.range (yyn a0 a1) (fun i1 s1=>⟨[(0,encL 1 yr a0),(1,encL 1 yr a1),(12,.int .i64 (a0.length:Int)),(13,.int .i64 (i1:Int))],[]⟩) (fun i1 s1=>True) (a0.length) 0 () [] hz1 ot wt sm ?_
  clear hz1
  intro i1 s1 hi1 hW1 hz1
  refine rS ?_
  refine AWP.seq ?_
  refine AWP.cond rfl (fun hb => ?_) (fun hb => ?_)
  ·have hlt1:i1<a0.length:=ot
   rw[yj hlt1]at hz1;simp only[yyn]at hz1
   refine rS ?_
   refine rD 8 ?_
   refine AWP.cond rfl (fun hb => ?_) (fun hb => ?_)
   ·simp only[hb,cond_true]at hz1
    refine rS ?_
    refine AWP.ret ?_
    subst hz1
    dsimp only at hR
    subst hR
    exact es
   ·simp only[hb,cond_false]at hz1
    refine rS ?_
    exact⟨_,[],hlt1,wt,hz1,sm⟩
  ·obtain rfl:i1=a0.length:=ot
   rw[yi (Nat.le_refl _)]at hz1;subst hz1;dsimp only at hR
   refine AWP.exit ?_;refine yb ?_
   refine rS ?_
   refine AWP.ret ?_
   subst hR
   exact es
end N93
def D_zuc : DF
 | [x0,x1]=>some (.bool (zuc (rdL ywb x0) (rdL ywb x1)),false,[wL 1 yr ywb x0,wL 1 yr ywb x1])
 | _=>none
theorem yap:OkD Tryz.prog 93 D_zuc:=by unfold D_zuc;exact dk N93.den
end Go.Ab

namespace Go.Ab
open Go Go.Proofs
def zgg (a0:(List UInt8)) (a1:Int):Int:=Go.Lib.indexByte a0 a1.toNat.toUInt8
theorem ylbb (a0:(List UInt8)) (a1:Int)  : Den Tryz.prog 265 [.str a0,.int .u8 a1] (.int .i64 (zgg a0 a1)):=by
 refine Den.plain ⟨_,Tryz.func265,rfl,rfl⟩ (by simp[NoOwnL,NoOwn]) ?_
 intro w M vs hI hr
 simp only[RepL]at hr
 obtain⟨u0,us0,f0,g0,rfl,h0e,h0,u1,us1,f1,g1,rfl,h1e,h1,rfl,_⟩:=hr
 have e0:=h0.val_str
 have e1:=h1.val_int
 subst e0 e1
 refine(Any.strings_IndexByte Tryz.lays137 ⟨a0.toArray⟩ a1 w).mono ?_
 rintro e w' ⟨rfl,rfl⟩
 exact⟨_,rfl,Grow.refl _,fun M'=>ysb _ _⟩
def D_zgg : DF
 | [x0,x1]=>some (.int .i64 (zgg (rdS x0) (rdI x1)),false,[wS x0,wI .u8 x1])
 | _=>none
theorem yr6:OkD Tryz.prog 265 D_zgg:=by
 intro xs r z ob h ho
 unfold D_zgg at h
 split at h
 ·simp only[Option.some.injEq,Prod.mk.injEq]at h
  obtain⟨rfl,rfl,rfl⟩:=h
  obtain⟨h0,h1,_⟩:=ho
  exact Den.sim (ylbb _ _ ) (yu (ycb h0).1 <| yu (ydf h1).1 <| trivial) (yw (ycb h0).2 <| yw (ydf h1).2 <| rfl) rfl
 ·cases h
end Go.Ab

namespace Go.Ab
open Go
def ysd:List (List UInt8):=[[46,45],[45,46,46,46],[45,46,45,46],[45,46,46],[46],[46,46,45,46],[45,45,46],[46,46,46,46],[46,46],[46,45,45,45],[45,46,45],[46,45,46,46],[45,45],[45,46],[45,45,45],[46,45,45,46],[45,45,46,45],[46,45,46],[46,46,46],[45],[46,46,45],[46,46,46,45],[46,45,45],[45,46,46,45],[45,46,45,45],[45,45,46,46]]
theorem y6i:∀ x∈ysd,1≤x.length∧x.length≤4∧∀ c∈x,c=45∨c=46:=by decide
theorem ygm (n:Nat):(ysd.getD n default).length≤4:=by
 rw[List.getD_eq_getElem?_getD]
 cases h:ysd[n]? with
 | none=>show(0:Nat)≤4;omega
 | some x=>exact(y6i x (List.mem_of_getElem? h)).2.1
theorem yu6 (n:Nat):(([[46,45],[45,46,46,46],[45,46,45,46],[45,46,46],[46],[46,46,45,46],[45,45,46],[46,46,46,46],[46,46],[46,45,45,45],[45,46,45],[46,45,46,46],[45,45],[45,46],[45,45,45],[46,45,45,46],[45,45,46,45],[46,45,46],[46,46,46],[45],[46,46,45],[46,46,46,45],[46,45,45],[45,46,46,45],[45,46,45,45],[45,45,46,46]]:List (List UInt8)).getD n default).length≤4:=ygm n
end Go.Ab

namespace Go.Ab
open Go
theorem yyi (a:List UInt8) (c:UInt8) (h:a.length=1):Op.bytesLess a [c]=decide ((a.getD 0 0).toNat<c.toNat):=by
 obtain⟨x,rfl⟩:=List.length_eq_one_iff.1 h
 simp only[Op.bytesLess,Bool.and_false,Bool.or_false,List.getD_cons_zero]
 rfl
theorem yh2 (a:List UInt8) (c:UInt8) (h:a.length=1):(a == [c])=decide ((a.getD 0 0).toNat=c.toNat):=by
 obtain⟨x,rfl⟩:=List.length_eq_one_iff.1 h
 apply Bool.eq_iff_iff.2
 simp[UInt8.toNat_inj]
theorem ytm (n:Int) (h1:0≤n) (h2:n<256):IntKind.wrap .u8 n=n:=by
 have:IntKind.wrap .u8 n=n % 256:=rfl
 rw[this];omega
theorem y47 (a:List UInt8) (h:((a.length:Int)=1∧Op.bytesLess a [65]=false)∧(Op.bytesLess a [90]=true∨(a == [90])=true)) :
  0≤IntKind.wrap .u8 (((a.getD 0 0).toNat:Int)-65)∧IntKind.wrap .u8 (((a.getD 0 0).toNat:Int)-65)<26∧0≤IntKind.wrap .u8 (((a.getD 0 0).toNat:Int) + -65)∧IntKind.wrap .u8 (((a.getD 0 0).toNat:Int) + -65)<26:=by
 have h1:a.length=1:=by omega
 rw[yyi a 65 h1,yyi a 90 h1,yh2 a 90 h1]at h
 have e1:(65:UInt8).toNat=65:=rfl
 have e2:(90:UInt8).toNat=90:=rfl
 rw[e1,e2]at h
 simp only[decide_eq_true_eq,decide_eq_false_iff_not]at h
 have hx:65≤(a.getD 0 0).toNat∧(a.getD 0 0).toNat≤90:=by omega
 rw[ytm _ (by omega) (by omega),ytm _ (by omega) (by omega)]
 omega
end Go.Ab

namespace Go.Ab
open Go
theorem ynd {ρ α : Type} (b : Nat → List α → Except ρ (List α)) (f : Nat → List α) : ∀ (n i : Nat) (s : List α), (∀ j s, i ≤ j → j < i + n → b j s = .ok (s ++ f j)) → ye b n i s = .ok (s ++ (List.range' i n).flatMap f)
 | 0,i,s,_=>by simp[ye]
 | n+1,i,s,h=>by
  simp only[ye]
  rw[h i s (Nat.le_refl _) (by omega)]
  simp only
  rw[ynd b f n (i+1) _ (fun j s h1 h2=>h j s (by omega) (by omega)),List.range'_succ,List.flatMap_cons,List.append_assoc]
theorem y00 {ρ σ:Type} {b b':Nat→σ→Except ρ σ} (n i:Nat) (s:σ) (h:∀ j u,i≤j→j<i+n→b j u=b' j u):ye b n i s=ye b' n i s:=loopR_congr0 n i s h
where
 loopR_congr0 {ρ σ:Type} {b b':Nat→σ→Except ρ σ}:∀ (n i:Nat) (s:σ),(∀ j u,i≤j→j<i+n→b j u=b' j u)→ye b n i s=ye b' n i s
 | 0,i,s,_=>rfl
 | n+1,i,s,h=>by
  simp only[ye]
  rw[h i s (Nat.le_refl _) (by omega)]
  cases b' i s with
  | error r=>rfl
  | ok t=>exact loopR_congr0 n (i+1) t (fun j u h1 h2=>h j u (by omega) (by omega))
theorem yrg {α β:Type} (l:List α) (d:α) (f:α→β):(List.range' 0 l.length).flatMap (fun j=>[f (l.getD j d)])=l.map f:=by
 rw[← List.map_eq_flatMap]
 apply List.ext_getElem
 ·simp
 ·intro i h1 h2
  simp only[List.length_map]at h2
  simp[List.getD_eq_getElem?_getD,h2]
end Go.Ab

namespace Go.Ab
open Go
theorem y2k (s:List Int) (a b:Int) (i:Nat) (hi:i<s.length+2):(bif i.blt s.length then[AV.int .i64 (s.getD i default)]else borrowL (elt [[AV.int .i64 a],[AV.int .i64 b]] (i-s.length)))=[AV.int .i64 ((s++[a,b]).getD i default)]:=by
 by_cases h:i<s.length
 ·have:i.blt s.length=true:=by rw[Nat.blt_eq];exact h
  rw[this]
  simp[List.getD_eq_getElem?_getD,List.getElem?_append_left h]
 ·have:i.blt s.length=false:=by rw[← Bool.not_eq_true,Nat.blt_eq];exact h
  rw[this]
  rcases(show i=s.length∨i=s.length+1 by omega)with h1|h1
  ·subst h1
   simp[elt,borrowL,borrow,List.getD_eq_getElem?_getD]
  ·subst h1
   simp[elt,borrowL,borrow,List.getD_eq_getElem?_getD]
theorem yff (s:List Int) (a:Int) (i:Nat) (hi:i<s.length+1):(bif i.blt s.length then[AV.int .i64 (s.getD i default)]else borrowL (elt [[AV.int .i64 a]] (i-s.length)))=[AV.int .i64 ((s++[a]).getD i default)]:=by
 by_cases h:i<s.length
 ·have:i.blt s.length=true:=by rw[Nat.blt_eq];exact h
  rw[this]
  simp[List.getD_eq_getElem?_getD,List.getElem?_append_left h]
 ·have:i.blt s.length=false:=by rw[← Bool.not_eq_true,Nat.blt_eq];exact h
  rw[this]
  have h1:i=s.length:=by omega
  subst h1
  simp[elt,borrowL,borrow,List.getD_eq_getElem?_getD]
theorem yzq (s:List Int) (a b:Int) (i:Nat) (hi:i<s.length+1+1):(bif i.blt (s.length+1)then bif i.blt s.length then[AV.int .i64 (s.getD i default)]else borrowL (elt [[AV.int .i64 a]] (i-s.length))else borrowL (elt [[AV.int .i64 b]] (i-(s.length+1))))=[AV.int .i64 ((s++[a]++[b]).getD i default)]:=by
 by_cases h:i<s.length+1
 ·have:i.blt (s.length+1)=true:=by rw[Nat.blt_eq];exact h
  rw[this,cond_true]
  refine(yff s a i h).trans ?_
  rw[List.getD_eq_getElem?_getD,List.getD_eq_getElem?_getD,List.getElem?_append_left (l₁:=s++[a]) (l₂:=[b]) (by simpa using h)]
 ·have:i.blt (s.length+1)=false:=by rw[← Bool.not_eq_true,Nat.blt_eq];exact h
  rw[this]
  have h1:i=s.length+1:=by omega
  subst h1
  simp[elt,borrowL,borrow,List.getD_eq_getElem?_getD]
theorem yos (s:List Int) (a b:Int) (i:Nat) (hi:i<s.length+2):(i.blt s.length || pureL (borrowL (elt [[AV.int .i64 a],[AV.int .i64 b]] (i-s.length))))=true:=by
 by_cases h:i<s.length
 ·have:i.blt s.length=true:=by rw[Nat.blt_eq];exact h
  rw[this];rfl
 ·rcases(show i-s.length=0∨i-s.length=1 by omega)with h1|h1<;>rw[h1]<;>simp[elt,borrowL,borrow,pureL,pureV]
end Go.Ab

namespace Go.Ab
open Go Go.Proofs
theorem y5w {i:Nat} (h:i<4):(([87,82,71,89]:List UInt8).take (IntKind.wrap .i64 ((i:Int)+1)).toNat |>.drop i).length=1:=by
 rw[show(IntKind.wrap .i64 ((i:Int)+1)).toNat=i+1 from by rw[IntKind.wrap_i64];omega]
 rcases i with _|_|_|_|i<;>first|rfl|omega
theorem y35 (i:Nat):(([87,82,71,89]:List UInt8).take (IntKind.wrap .i64 ((i:Int)+1)).toNat |>.drop i).length≤1∨4≤i:=by
 by_cases h:i<4
 ·left;rw[y5w h];exact Nat.le_refl _
 ·right;omega
end Go.Ab

namespace Go.Ab
open Go Go.Proofs
theorem ned {α:Type} [DecidableEq α] (x y:α):(x != y) = !decide (x=y):=by by_cases h:x=y<;>simp[h]
end Go.Ab

namespace Go.Ab
open Go Go.Proofs
open Go.RowKit in
theorem y84 {f : FuncId} (hok : FnOk Tryz.prog f) (a0 : List (List UInt8)) (a1 : List UInt8) (hp0 : a0.length ≤ 1048576) (hp1 : (Go.Lib.join a0 a1).length ≤ 1099511627776)
  (hS:∀ (bk o c:Nat) (xs:List ByteArray) (sep:ByteArray) (w:World),(∀ (j:Nat) x,xs[j]? = some x→w.cell? ⟨bk,o+j,none⟩=some (.string x))→bk<w.heap.size→xs.length≤140737488355328→xs.length≤c →
   (Go.Lib.join (xs.map (·.data.toList)) sep.data.toList).length≤140737488355328 →
   Calls Tryz.prog f #[.slice (some ⟨bk,o,none⟩) xs.length c,.string sep] w fun e w'=>e=.returned (.string ⟨(Go.Lib.join (xs.map (·.data.toList)) sep.data.toList).toArray⟩)∧Below w.heap.size w w')
  (hN:∀ (a:Option Addr) (c:Nat) (sep:ByteArray) (w:World),Calls Tryz.prog f #[.slice a 0 c,.string sep] w fun e w'=>e=.returned (.string ⟨#[]⟩)∧w'=w) :
  Den Tryz.prog f [encL 1 (fun s:List UInt8=>[.str s]) a0,.str a1] (.str (Go.Lib.join a0 a1)):=by
 refine Den.plain hok (by simp[NoOwnL,NoOwn,encL]) ?_
 intro w M vs hI hr
 simp only[RepL]at hr
 obtain⟨u0,us0,f0,g0,rfl,h0e,h0,u1,us1,f1,g1,rfl,h1e,h1,rfl,_⟩:=hr
 have e1:=h1.val_str
 subst e1
 simp only[encL,Rep]at h0
 rcases h0 with⟨hn,hev,_⟩|⟨b,o,cap,us,fps,rfl,⟨hc1,hc2⟩,hb,hcl,_⟩
 ·have h9:a0=[]:=List.length_eq_zero_iff.1 hn
  subst h9
  rcases hev with rfl|⟨a,c,rfl⟩
  ·refine(hN none 0 ⟨a1.toArray⟩ w).mono ?_
   rintro e w' ⟨rfl,rfl⟩
   exact⟨_,rfl,Grow.refl _,fun M'=>y1b [] (by unfold maxLen;simp)⟩
  ·refine(hN (some a) c ⟨a1.toArray⟩ w).mono ?_
   rintro e w' ⟨rfl,rfl⟩
   exact⟨_,rfl,Grow.refl _,fun M'=>y1b [] (by unfold maxLen;simp)⟩
 ·have hx:((a0.map fun x=>(⟨x.toArray⟩:ByteArray)).map fun x=>x.data.toList)=a0:=by
   rw[List.map_map]
   exact List.map_id'' (fun x=>rfl) _
  have hcall:=hS b o cap (a0.map fun x=>(⟨x.toArray⟩:ByteArray)) ⟨a1.toArray⟩ w (fun j x hj=>by
   rw[List.getElem?_map]at hj
   cases hg:a0[j]? with
   | none=>rw[hg]at hj;simp at hj
   | some y=>
    rw[hg]at hj
    simp only[Option.map_some,Option.some.injEq]at hj
    subst hj
    have hjl:=(List.getElem?_eq_some_iff.1 hg).1
    obtain⟨c1,c2,c3⟩:=hcl j hjl
    simp only[RepL]at c1
    obtain⟨v,vs',q1,q2,hus,_,hv,hvs,_⟩:=c1
    subst hvs
    have hv:=hv.val_str
    subst hv
    rw[hus]at c3
    have hgd:a0.getD j default=y:=by rw[List.getD_eq_getElem?_getD,hg];rfl
    rw[hgd]at c3
    have h0:=(c3 0 _ rfl).1
    rw[Nat.mul_one,Nat.add_zero]at h0
    exact h0) hb (by rw[List.length_map];omega) (by rw[List.length_map];exact hc1) (by rw[hx];exact Nat.le_trans hp1 (by omega))
  rw[List.length_map,hx]at hcall
  refine hcall.mono ?_
  rintro e w' ⟨rfl,hbl⟩
  exact⟨_,rfl,y6g hbl,fun M'=>y1b _ (by unfold maxLen;omega)⟩
end Go.Ab

namespace Go.Ab
open Go Go.Proofs
def zpb (a0:(List (List UInt8))) (a1:(List UInt8)):(List UInt8):=Go.Lib.join a0 a1
theorem y99 (a0:(List (List UInt8))) (a1:(List UInt8)) (hp0:a0.length≤1048576) (hp1:(Go.Lib.join a0 a1).length≤1099511627776):Den Tryz.prog 83 [encL 1 eS a0,.str a1] (.str (zpb a0 a1)):=by
 exact y84 ⟨_,Tryz.func83,rfl,rfl⟩ a0 a1 hp0 hp1 (fun bk o c xs sep w h1 h2 h3 h4 h5=>Any.strings_Join Tryz.lays156 Tryz.Builder_Extra_156 bk o c xs sep w h1 h2 h3 h4 h5) (fun a c sep w=>Any.strings_Join_none Tryz.lays156 Tryz.Builder_Extra_156 a c sep w)
def D_zpb : DF
 | [x0,x1]=>some (.str (zpb (rdL dS x0) (rdS x1)),false,[wL 1 eS dS x0,wS x1,(rdL dS x0).length≤1048576,(Go.Lib.join (rdL dS x0) (rdS x1)).length≤1099511627776])
 | _=>none
theorem yah:OkD Tryz.prog 83 D_zpb:=by
 intro xs r z ob h ho
 unfold D_zpb at h
 split at h
 ·simp only[Option.some.injEq,Prod.mk.injEq]at h
  obtain⟨rfl,rfl,rfl⟩:=h
  obtain⟨h0,h1,hp0,hp1,_⟩:=ho
  exact Den.sim (y99 _ _ hp0 hp1) (yu (y0r h0).1 <| yu (ycb h1).1 <| trivial) (yw (y0r h0).2 <| yw (ycb h1).2 <| rfl) rfl
 ·cases h
end Go.Ab

namespace Go.Ab
open Go Go.Proofs
theorem yim (x:Int):(0≤x∧x.tdiv 10=x / 10)∨(x<0∧x.tdiv 10 = -((-x) / 10)):=by
 by_cases h:0≤x
 ·exact .inl ⟨h,Int.tdiv_eq_ediv_of_nonneg h⟩
 ·refine .inr ⟨by omega,?_⟩
  have h2:=Int.neg_tdiv (a:=x) (b:=10)
  rw[Int.tdiv_eq_ediv_of_nonneg (show 0 ≤ -x by omega)]at h2
  omega
end Go.Ab

namespace Go.Ab
open Go
theorem ymh : ∀ (l : List UInt8) (c : UInt8), c ∉ l → Lib.index l [c] = -1
 | [],c,_=>rfl
 | b::l,c,h=>by
  have h1:¬ c=b:=fun e=>h (by simp[e])
  have h2:=ymh l c (fun e=>h (by simp[e]))
  have h3:(c == b)=false:=by simpa using h1
  simp[Lib.index,h2,List.isPrefixOf,h3]
theorem y9i : ∀ (l t : List UInt8) (c : UInt8), c ∉ l → Lib.index (l ++ c :: t) [c] = l.length
 | [],t,c,_=>by simp[Lib.index,List.isPrefixOf]
 | b::l,t,c,h=>by
  have h1:¬ c=b:=fun e=>h (by simp[e])
  have h2:=y9i l t c (fun e=>h (by simp[e]))
  have h3:(c == b)=false:=by simpa using h1
  have h4:((l.length:Int) == -1)=false:=by rw[beq_eq_false_iff_ne];omega
  simp only[List.cons_append,Lib.index,h2,List.isPrefixOf,h3,h4,Bool.false_and,List.length_cons]
  simp
theorem ygg (l t:List UInt8) (c:UInt8) (h:c∉l):Lib.cut (l++c::t) [c]=(l,t,true):=by
 unfold Lib.cut
 rw[y9i l t c h,if_pos (by omega)]
 simp only[Int.toNat_natCast,List.length_singleton]
 rw[List.take_left' rfl, ← List.drop_drop,List.drop_left' rfl]
 rfl
theorem yal (l:List UInt8) (c:UInt8) (h:c∉l):Lib.cut l [c]=(l,[],false):=by
 unfold Lib.cut
 rw[ymh l c h,if_neg (by omega)]
theorem y9c (l p:List UInt8):Lib.hasSuffix (l++p) p=true:=by
 unfold Lib.hasSuffix
 rw[List.isSuffixOf_iff_suffix]
 exact List.suffix_append l p
theorem ymc (l p:List UInt8):Lib.trimSuffix (l++p) p=l:=by
 unfold Lib.trimSuffix
 rw[y9c]
 simp
theorem yrn (l p:List UInt8) (a b:UInt8) (h:a≠b):Lib.hasSuffix (l++[a]) (p++[b])=false:=by
 cases hs:Lib.hasSuffix (l++[a]) (p++[b])with
 | false=>rfl
 | true=>
  unfold Lib.hasSuffix at hs
  rw[List.isSuffixOf_iff_suffix]at hs
  obtain⟨t,ht⟩:=hs
  have:=congrArg List.getLast? ht
  rw[← List.append_assoc]at this
  simp at this
  exact absurd this.symm h
theorem ysf (l p:List UInt8) (h:Lib.hasSuffix l p=false):Lib.trimSuffix l p=l:=by
 unfold Lib.trimSuffix
 rw[h];simp
end Go.Ab

namespace Go.Ab
open Go
def yhb (y:Int):Bool:=(((y.tmod 4 == 0) && (y.tmod 100 != 0)) || (y.tmod 400 == 0))
theorem y8b {n:Int} (h1 : -9223372036854775808≤n) (h2:n≤9223372036854775807):IntKind.wrap .i64 n=n:=by
 rw[IntKind.wrap_i64];omega
theorem yhf {m:Int} (h1:1≤m) (h2:m≤12):m=1∨m=2∨m=3∨m=4∨m=5∨m=6∨m=7∨m=8∨m=9∨m=10∨m=11∨m=12:=by omega
def ybD (y:Int):Int:=365 * (y-2000)+(y-1997) / 4-(y-1901) / 100+(y-1601) / 400
def mbD (l:Bool) (m:Nat):Nat:=([0,0,31,59,90,120,151,181,212,243,273,304,334]:List Nat).getD m 0+(bif l && Nat.blt 2 m then 1 else 0)
def mdD (l:Bool) (m:Nat):Nat:=([0,31,28,31,30,31,30,31,31,30,31,30,31]:List Nat).getD m 0+(bif l && Nat.beq 2 m then 1 else 0)
theorem y2u:∀ (l:Bool) (m m':Fin 13),1≤m.val→m<m'→mbD l m+mdD l m≤mbD l m':=by decide
theorem ymbb:∀ (l:Bool) (m:Fin 13),mdD l m≤31:=by decide
theorem yso {l:Bool} {m:Int} (h1:1≤m) (h2:m≤12):mdD l m.toNat≤31:=ymbb l ⟨m.toNat,by omega⟩
theorem ykab:∀ (l:Bool) (m:Fin 12),1≤m.val→mbD l (m.val+1)=mbD l m+mdD l m:=by decide
def ylk (a y m d:Int):Prop:=2000≤y∧1≤m∧m≤12∧1≤d∧d≤mdD (yhb y) m.toNat∧a=ybD y+mbD (yhb y) m.toNat+d-1
theorem y2m (y:Int) (h:2000≤y):ybD (y+1)=ybD y+365+(bif yhb y then 1 else 0):=by
 have e1:y.tmod 4=y % 4:=Int.tmod_eq_emod_of_nonneg (by omega)
 have e2:y.tmod 100=y % 100:=Int.tmod_eq_emod_of_nonneg (by omega)
 have e3:y.tmod 400=y % 400:=Int.tmod_eq_emod_of_nonneg (by omega)
 by_cases hc:(y % 4=0∧y % 100≠0)∨y % 400=0
 ·have hl:yhb y=true:=by unfold yhb;rw[e1,e2,e3];simpa using hc
  rw[hl];simp only[cond_true];unfold ybD;omega
 ·have hl:yhb y=false:=by unfold yhb;rw[e1,e2,e3];simpa using hc
  rw[hl];simp only[cond_false];unfold ybD;omega
theorem yll {y:Int} (h:2000≤y):0≤ybD y:=by unfold ybD;omega
theorem ye2 (y y':Int) (h:y≤y'):ybD y≤ybD y':=by unfold ybD;omega
theorem y7o {y:Int} (h:ybD y≤99999):y≤2273:=by unfold ybD at h;omega
theorem you {l:Bool} {m:Int} (h1:1≤m) (h2:m≤11):mbD l (m+1).toNat=mbD l m.toNat+mdD l m.toNat:=by
 have:=ykab l ⟨m.toNat,by omega⟩ (by show 1≤m.toNat;omega)
 rw[show(m+1).toNat=m.toNat+1 by omega]
 exact this
theorem y09 (l:Bool):mbD l 12+mdD l 12=365+(bif l then 1 else 0):=by cases l<;>rfl
theorem y5p (l:Bool):mbD l 1=0:=by cases l<;>rfl
theorem yz1 {l:Bool} {m:Int} (h1:1≤m) (h2:m≤12):mbD l m.toNat+mdD l m.toNat≤365+(bif l then 1 else 0):=by
 rw[← y09 l]
 by_cases h:m=12
 ·subst h;exact Nat.le_refl _
 ·have:=y2u l ⟨m.toNat,by omega⟩ ⟨12,by omega⟩ (by show 1≤m.toNat;omega) (by show m.toNat<12;omega)
  have h3:mbD l m.toNat+mdD l m.toNat≤mbD l 12:=this
  omega
theorem ylk.unique {a y m d y' m' d':Int} (h:ylk a y m d) (h':ylk a y' m' d'):y=y'∧m=m'∧d=d':=by
 obtain⟨hy,hm1,hm2,hd1,hd2,ha⟩:=h
 obtain⟨hy',hm1',hm2',hd1',hd2',ha'⟩:=h'
 have e1:=yz1 (l:=yhb y) hm1 hm2
 have e1':=yz1 (l:=yhb y') hm1' hm2'
 have l1:=y2m y hy
 have l1':=y2m y' hy'
 have hyy:y=y':=by
  by_cases h1:y<y'
  ·have:=ye2 (y+1) y' (by omega)
   cases hl:yhb y<;>cases hl':yhb y'<;>simp only[hl,hl',cond_true,cond_false]at * <;> omega
  ·by_cases h2:y'<y
   ·have:=ye2 (y'+1) y (by omega)
    cases hl:yhb y<;>cases hl':yhb y'<;>simp only[hl,hl',cond_true,cond_false]at * <;> omega
   ·omega
 subst hyy
 have hmm:m=m':=by
  by_cases h1:m<m'
  ·have:=y2u (yhb y) ⟨m.toNat,by omega⟩ ⟨m'.toNat,by omega⟩ (by show 1≤m.toNat;omega) (by show m.toNat<m'.toNat;omega)
   have h3:mbD (yhb y) m.toNat+mdD (yhb y) m.toNat≤mbD (yhb y) m'.toNat:=this
   omega
  ·by_cases h2:m'<m
   ·have:=y2u (yhb y) ⟨m'.toNat,by omega⟩ ⟨m.toNat,by omega⟩ (by show 1≤m'.toNat;omega) (by show m'.toNat<m.toNat;omega)
    have h3:mbD (yhb y) m'.toNat+mdD (yhb y) m'.toNat≤mbD (yhb y) m.toNat:=this
    omega
   ·omega
 subst hmm
 exact⟨rfl,rfl,by omega⟩
theorem ykm {ρ σ:Type} {body:σ→Except ρ σ} {I:σ→Prop} {Q:ρ→Prop} (hi:∀ s,I s→match body s with|.error r=>Q r|.ok t=>I t) :
  ∀ (k:Nat) (s:σ),I s→match y3 body k s with|.error r=>Q r|.ok t=>I t
 | 0,s,h=>by simpa [y3]using h
 | k+1,s,h=>by
  have:=hi s h
  simp only[y3]
  cases hb:body s with
  | error r=>simp only[hb]at this ⊢;exact this
  | ok t=>simp only[hb]at this ⊢;exact ykm hi k t this
theorem yxl {ρ σ:Type} {body:σ→Except ρ σ} {I:σ→Prop} {Q:ρ→Prop} {M:σ→Nat} (hi:∀ s,I s→match body s with|.error r=>Q r|.ok t=>I t∧M t<M s) :
  ∀ (k:Nat) (s:σ),I s→M s<k→∃ r,y3 body k s=.error r∧Q r
 | 0,s,h,hk=>by omega
 | k+1,s,h,hk=>by
  have:=hi s h
  simp only[y3]
  cases hb:body s with
  | error r=>simp only[hb]at this ⊢;exact⟨r,rfl,this⟩
  | ok t=>simp only[hb]at this ⊢;exact yxl hi k t this.1 (by omega)
end Go.Ab

namespace Go.Ab
open Go Go.Proofs
def zof (a0:(List UInt8)) (a1:Int):(List UInt8):=Go.Lib.repeatL a0 a1.toNat
theorem yebb (a0:(List UInt8)) (a1:Int) (hp0:0≤a1) (hp1:a1≤9223372036854775807) (hp2:a0.length * a1.toNat≤140737488355328):Den Tryz.prog 222 [.str a0,.int .i64 a1] (.str (zof a0 a1)):=by
 obtain⟨c,rfl⟩:∃ c:Nat,a1=c:=⟨a1.toNat,by omega⟩
 refine Den.plain ⟨_,Tryz.func222,rfl,rfl⟩ (by simp[NoOwnL,NoOwn]) ?_
 intro w M vs hI hr
 simp only[RepL]at hr
 obtain⟨u0,us0,f0,g0,rfl,h0e,h0,u1,us1,f1,g1,rfl,h1e,h1,rfl,_⟩:=hr
 have e0:=h0.val_str
 have e1:=h1.val_int
 subst e0 e1
 have hsz:(⟨a0.toArray⟩:ByteArray).size=a0.length:=by simp[ByteArray.size]
 refine(Any.strings_Repeat Tryz.lays105 Tryz.Builder_Extra_105 ⟨a0.toArray⟩ c w (by omega) (by rw[hsz];simpa using hp2)).mono ?_
 rintro e w' ⟨rfl,hB⟩
 exact⟨_,rfl,y6g hB,fun M'=>y1b _ (by unfold zof;rw[yql];simp only[Int.toNat_natCast]at hp2;unfold maxLen;show a0.length * c≤_;omega)⟩
def D_zof : DF
 | [x0,x1]=>some (.str (zof (rdS x0) (rdI x1)),false,[wS x0,wI .i64 x1,0≤(rdI x1),(rdI x1)≤9223372036854775807,(rdS x0).length * (rdI x1).toNat≤140737488355328])
 | _=>none
theorem ym4:OkD Tryz.prog 222 D_zof:=by
 intro xs r z ob h ho
 unfold D_zof at h
 split at h
 ·simp only[Option.some.injEq,Prod.mk.injEq]at h
  obtain⟨rfl,rfl,rfl⟩:=h
  obtain⟨h0,h1,hp0,hp1,hp2,_⟩:=ho
  exact Den.sim (yebb _ _ hp0 hp1 hp2) (yu (ycb h0).1 <| yu (ydf h1).1 <| trivial) (yw (ycb h0).2 <| yw (ydf h1).2 <| rfl) rfl
 ·cases h
end Go.Ab

namespace Go.Ab
open Go Go.Proofs
theorem y6p (a:List UInt8) (c:Int):(zof a c).length=a.length * c.toNat:=by
 unfold zof
 rw[yql]
end Go.Ab

namespace Go.Ab
open Go Go.Proofs
theorem yc3 {f : FuncId} {T : TypeId} (hok : FnOk Tryz.prog f) (a0 a1 : List UInt8) (hp0 : a0.length ≤ 1048576) (hp1 : a1.length = 1)
  (hS:∀ (s sep:ByteArray) (m:Int) (w:World),s.size<4294967281→w.cell? ⟨2,0,none⟩=some (.int .i64 m)→1≤sep.size→Calls Tryz.prog f #[.string s,.string sep] w fun e w'=>
   e=.returned (.slice (some ⟨w.heap.size,0,none⟩) (Go.Lib.countB s sep+1) (Go.Lib.countB s sep+1))∧w'=w.alloc (.cells ((Go.Lib.splitB sep 0 (Go.Lib.countB s sep) s).map Value.string).toArray T)) :
  Den Tryz.prog f [.str a0,.str a1] (ownL T 1 (fun s:List UInt8=>[.str s]) (yh (a1.getD 0 0) a0)):=by
 obtain⟨c,rfl⟩:∃ c,a1=[c]:=List.length_eq_one_iff.1 hp1
 have hl:Go.Lib.splitB ⟨#[c]⟩ 0 (Go.Lib.countB ⟨a0.toArray⟩ ⟨#[c]⟩) ⟨a0.toArray⟩=(yh c a0).map fun x=>(⟨x.toArray⟩:ByteArray):=by
  have h1:=Go.Lib.splitB_data ⟨#[c]⟩ 0 (Go.Lib.countB ⟨a0.toArray⟩ ⟨#[c]⟩) ⟨a0.toArray⟩
  rw[show Go.Lib.splitK (⟨#[c]⟩:ByteArray).data.toList 0 (Go.Lib.countB ⟨a0.toArray⟩ ⟨#[c]⟩) (⟨a0.toArray⟩:ByteArray).data.toList=yh c a0 from ye5 c _ a0 (Nat.le_refl _)]at h1
  rw[← h1,List.map_map]
  refine(List.map_id'' (fun x => ?_) _).symm
  rfl
 have hcl:(yh c a0).length=Go.Lib.countB ⟨a0.toArray⟩ ⟨#[c]⟩+1:=by
  have h2:=Go.Lib.splitB_all ⟨#[c]⟩ (by show 1≤1;omega) 0 (Go.Lib.countB ⟨a0.toArray⟩ ⟨#[c]⟩) ⟨a0.toArray⟩ rfl
  rw[hl]at h2
  simpa using h2
 obtain⟨l1,l2⟩:=yx c a0
 have hnth:∀ i,i<(yh c a0).length→((yh c a0).getD i default).length≤maxLen:=by
  intro i hi
  have:(yh c a0).getD i default∈yh c a0:=by
   rw[List.getD_eq_getElem?_getD,List.getElem?_eq_getElem hi]
   simp
  have:=l2 _ this
  unfold maxLen
  omega
 refine Den.fresh (T:=T) (e:=1) (enc:=fun s:List UInt8=>[.str s]) (l:=yh c a0) hok (by simp[NoOwnL,NoOwn]) (fun i=>[Value.string ⟨((yh c a0).getD i default).toArray⟩]) (fun w M i hi=>⟨?_,rfl,by simp[Value.oneCell']⟩) ?_
 ·simp only[RepL]
  exact⟨_,[],[],[],rfl,rfl,y1b _ (hnth i hi),rfl,rfl⟩
 ·intro w M vs hI hr
  simp only[RepL]at hr
  obtain⟨u0,us0,f0,g0,rfl,h0e,h0,u1,us1,f1,g1,rfl,h1e,h1,rfl,_⟩:=hr
  have e0:=h0.val_str
  have e1:=h1.val_str
  subst e0 e1
  obtain⟨m,hm⟩:=hI.1.2
  refine(hS ⟨a0.toArray⟩ ⟨#[c]⟩ m w (by show a0.length<_;omega) hm (by show 1≤1;omega)).mono ?_
  rintro e w' ⟨rfl,rfl⟩
  refine⟨w.heap.size,(yh c a0).length,((yh c a0).map fun x=>Value.string ⟨x.toArray⟩).toArray,by rw[← hcl],?_⟩
  have hmap:(Go.Lib.splitB ⟨#[c]⟩ 0 (Go.Lib.countB ⟨a0.toArray⟩ ⟨#[c]⟩) ⟨a0.toArray⟩).map Value.string=(yh c a0).map fun x=>Value.string ⟨x.toArray⟩:=by
   rw[hl,List.map_map];rfl
  rw[hmap]
  have hfl:=ywl w T ((yh c a0).map fun x=>Value.string ⟨x.toArray⟩) (by rw[List.length_map];unfold maxLen;omega)
  rw[List.length_map]at hfl
  have hus:((List.range (yh c a0).length).flatMap fun i=>[((yh c a0).map fun x=>Value.string ⟨x.toArray⟩).getD i default])=(List.range (yh c a0).length).flatMap fun i=>[Value.string ⟨((yh c a0).getD i default).toArray⟩]:=by
   rw[List.flatMap_def,List.flatMap_def]
   congr 1
   apply List.map_congr_left
   intro i hi
   have hi:=List.mem_range.1 hi
   simp[List.getD_eq_getElem?_getD,List.getElem?_map,List.getElem?_eq_getElem hi]
  rw[hus]at hfl
  exact hfl
end Go.Ab

namespace Go.Ab
open Go Go.Proofs
def zb (a0:(List UInt8)) (a1:(List UInt8)):(List (List UInt8)):=yh (a1.getD 0 0) a0
theorem y7cb (a0:(List UInt8)) (a1:(List UInt8)) (hp0:a0.length≤1048576) (hp1:a1.length=1):Den Tryz.prog 135 [.str a0,.str a1] (ownL 9 1 eS (zb a0 a1)):=by
 exact yc3 ⟨_,Tryz.func135,rfl,rfl⟩ a0 a1 hp0 hp1 (fun s sep m w=>Any.strings_Split Tryz.lays146 (by kernel_rfl) s sep m w)
def D_zb : DF
 | [x0,x1]=>some (ownL 9 1 eS (zb (rdS x0) (rdS x1)),false,[wS x0,wS x1,(rdS x0).length≤1048576,(rdS x1).length=1])
 | _=>none
theorem y3j:OkD Tryz.prog 135 D_zb:=by
 intro xs r z ob h ho
 unfold D_zb at h
 split at h
 ·simp only[Option.some.injEq,Prod.mk.injEq]at h
  obtain⟨rfl,rfl,rfl⟩:=h
  obtain⟨h0,h1,hp0,hp1,_⟩:=ho
  exact Den.sim (y7cb _ _ hp0 hp1) (yu (ycb h0).1 <| yu (ycb h1).1 <| trivial) (yw (ycb h0).2 <| yw (ycb h1).2 <| rfl) rfl
 ·cases h
end Go.Ab

namespace Go.Ab
open Go Go.Proofs
theorem yrr (a b:List UInt8) (h:a.length≤1048576):(zb a b).length≤1048577∧∀ x∈zb a b,x.length≤1048576:=by
 obtain⟨h1,h2⟩:=yx (b.getD 0 0) a
 exact⟨by unfold zb;omega,fun x hx=>by have:=h2 x hx;omega⟩
end Go.Ab

namespace Go.Ab
open Go Go.Proofs
def zd (a0:(List UInt8)) (a1:(List UInt8)):((List UInt8)×(List UInt8)×Bool):=Go.Lib.cut a0 a1
theorem yjcb (a0:(List UInt8)) (a1:(List UInt8)) (hp0:a0.length≤1048576):Den Tryz.prog 184 [.str a0,.str a1] (.tup [.str ((zd a0 a1).1),.str ((zd a0 a1).2.1),.bool ((zd a0 a1).2.2)]):=by
 refine Den.plain ⟨_,Tryz.func184,rfl,rfl⟩ (by simp[NoOwnL,NoOwn]) ?_
 intro w M vs hI hr
 simp only[RepL]at hr
 obtain⟨u0,us0,f0,g0,rfl,h0e,h0,u1,us1,f1,g1,rfl,h1e,h1,rfl,_⟩:=hr
 have e0:=h0.val_str
 have e1:=h1.val_str
 subst e0 e1
 obtain⟨m,hm⟩:=hI.1.2
 refine(Any.strings_Cut Tryz.lays145 ⟨a0.toArray⟩ ⟨a1.toArray⟩ m w (by show a0.length<_;omega) hm).mono ?_
 rintro e w' ⟨rfl,k,rfl⟩
 exact⟨_,rfl,yi1 w k,fun M'=>ye3 (y1b _ (by have:=ylv a0 a1;show(Go.Lib.cut a0 a1).1.length≤maxLen;unfold maxLen;omega)) (y1b _ (by have:=ylv a0 a1;show(Go.Lib.cut a0 a1).2.1.length≤maxLen;unfold maxLen;omega)) (ypc _)⟩
def D_zd : DF
 | [x0,x1]=>some (.tup [.str ((zd (rdS x0) (rdS x1)).1),.str ((zd (rdS x0) (rdS x1)).2.1),.bool ((zd (rdS x0) (rdS x1)).2.2)],false,[wS x0,wS x1,(rdS x0).length≤1048576])
 | _=>none
theorem y6l:OkD Tryz.prog 184 D_zd:=by
 intro xs r z ob h ho
 unfold D_zd at h
 split at h
 ·simp only[Option.some.injEq,Prod.mk.injEq]at h
  obtain⟨rfl,rfl,rfl⟩:=h
  obtain⟨h0,h1,hp0,_⟩:=ho
  exact Den.sim (yjcb _ _ hp0) (yu (ycb h0).1 <| yu (ycb h1).1 <| trivial) (yw (ycb h0).2 <| yw (ycb h1).2 <| rfl) rfl
 ·cases h
end Go.Ab

namespace Go.Ab
open Go Go.Proofs
def zh (a0:(List UInt8)) (a1:(List UInt8)):((List UInt8)×Bool):=(Go.Lib.trimSuffix a0 a1,Go.Lib.hasSuffix a0 a1)
theorem yxcb (a0:(List UInt8)) (a1:(List UInt8)) (hp0:a0.length≤1048576):Den Tryz.prog 262 [.str a0,.str a1] (.tup [.str ((zh a0 a1).1),.bool ((zh a0 a1).2)]):=by
 refine Den.plain ⟨_,Tryz.func262,rfl,rfl⟩ (by simp[NoOwnL,NoOwn]) ?_
 intro w M vs hI hr
 simp only[RepL]at hr
 obtain⟨u0,us0,f0,g0,rfl,h0e,h0,u1,us1,f1,g1,rfl,h1e,h1,rfl,_⟩:=hr
 have e0:=h0.val_str
 have e1:=h1.val_str
 subst e0 e1
 refine(Any.strings_CutSuffix Tryz.lays104 ⟨a0.toArray⟩ ⟨a1.toArray⟩ w (by show a0.length≤_;omega)).mono ?_
 rintro e w' ⟨rfl,rfl⟩
 exact⟨_,rfl,Grow.refl _,fun M'=>y6ab (y1b _ (by have:=ygd a0 a1;show(Go.Lib.trimSuffix a0 a1).length≤maxLen;unfold maxLen;omega)) (ypc _)⟩
def D_zh : DF
 | [x0,x1]=>some (.tup [.str ((zh (rdS x0) (rdS x1)).1),.bool ((zh (rdS x0) (rdS x1)).2)],false,[wS x0,wS x1,(rdS x0).length≤1048576])
 | _=>none
theorem yv9:OkD Tryz.prog 262 D_zh:=by
 intro xs r z ob h ho
 unfold D_zh at h
 split at h
 ·simp only[Option.some.injEq,Prod.mk.injEq]at h
  obtain⟨rfl,rfl,rfl⟩:=h
  obtain⟨h0,h1,hp0,_⟩:=ho
  exact Den.sim (yxcb _ _ hp0) (yu (ycb h0).1 <| yu (ycb h1).1 <| trivial) (yw (ycb h0).2 <| yw (ycb h1).2 <| rfl) rfl
 ·cases h
end Go.Ab

namespace Go.Ab
open Go Go.Proofs
theorem yqg (a b:List UInt8):(zd a b).1.length≤a.length∧(zd a b).2.1.length≤a.length:=ylv a b
end Go.Ab

namespace Go.Ab
open Go Go.Proofs
theorem ylr (a b:List UInt8):(zh a b).1.length≤a.length:=ygd a b
end Go.Ab

namespace Go.Ab
open Go
structure RdOk {α:Type} (V:α→Prop) (T:α→List UInt8) (z:α) (f:List UInt8→α×Bool) (N:Nat):Prop where
 r1:∀ p,V p→(T p).length≤N→f (T p)=(p,true)
 r2:∀ a:List UInt8,a.length≤N→(f a).2=true→V (f a).1∧a=T (f a).1
 r3:∀ a:List UInt8,a.length≤N→(f a).2=false→(f a).1=z
theorem RdOk.eq {α:Type} {V:α→Prop} {T:α→List UInt8} {z:α} {f g:List UInt8→α×Bool} {N:Nat} (hf:RdOk V T z f N) (hg:RdOk V T z g N) (a:List UInt8) (h:a.length≤N):f a=g a:=by
 cases e:(f a).2 with
 | true=>
  obtain⟨h1,h2⟩:=hf.r2 a h e
  have h3:=hg.r1 _ h1 (by rw[← h2];exact h)
  rw[← h2]at h3
  rw[h3, ← e]
 | false=>
  cases e2:(g a).2 with
  | true=>
   obtain⟨h1,h2⟩:=hg.r2 a h e2
   have h3:=hf.r1 _ h1 (by rw[← h2];exact h)
   rw[← h2]at h3
   rw[h3]at e;cases e
  | false=>
   have h1:=hf.r3 a h e
   have h2:=hg.r3 a h e2
   exact Prod.ext (h1.trans h2.symm) (e.trans e2.symm)
theorem RdOk.of {α:Type} {V:α→Prop} {T:α→List UInt8} {z:α} {f:List UInt8→α×Bool} {N:Nat} (r1:∀ p,V p→(T p).length≤N→f (T p)=(p,true)) (inv:∀ a:List UInt8,a.length≤N→f a=(z,false)∨∃ p,f a=(p,true)∧V p∧a=T p):RdOk V T z f N:=
 ⟨r1,fun a h e=>by
  rcases inv a h with h1|⟨p,h1,h2,h3⟩
  ·rw[h1]at e;cases e
  ·rw[h1];exact⟨h2,h3⟩,fun a h e=>by
  rcases inv a h with h1|⟨p,h1,h2,h3⟩
  ·rw[h1]
  ·rw[h1]at e;cases e⟩
theorem yqj {α:Type} {V:α→Prop} {T:α→List UInt8} {z:α} (a:List UInt8) (m:α) (c:Bool) (hc:c=false→V m∧a=T m):(bif c then(z,false)else(m,true))=(z,false)∨∃ p,(bif c then(z,false)else(m,true))=(p,true)∧V p∧a=T p:=by
 cases c with
 | true=>exact .inl rfl
 | false=>exact .inr ⟨m,rfl,hc rfl⟩
theorem yeg {α:Type} [Inhabited α] (l:List α) (j:Nat) (hj:j<l.length):l.take j++[l.getD j default]=l.take (j+1):=by
 rw[List.take_succ_eq_append_getElem hj,List.getD_eq_getElem?_getD,List.getElem?_eq_getElem hj]
 rfl
end Go.Ab

namespace Go.Ab
open Go Go.Proofs
theorem y4g {ρ σ : Type} {b : Nat → σ → Except ρ σ} (I : Nat → σ → Prop) : ∀ {k i : Nat} {s t : σ}, ye b k i s = .ok t → I i s → (∀ j u v, i ≤ j → j < i + k → I j u → b j u = .ok v → I (j + 1) v) → I (i + k) t
 | 0,i,s,t,h,h0,_=>by simp only[ye,Except.ok.injEq]at h;subst h;exact h0
 | k+1,i,s,t,h,h0,hb=>by
  simp only[ye]at h
  cases hq:b i s with
  | error e=>rw[hq]at h;simp at h
  | ok v=>
   rw[hq]at h
   have:=y4g I (k:=k) (i:=i+1) h (hb i s v (Nat.le_refl _) (by omega) h0 hq) (fun j u v h1 h2=>hb j u v (by omega) (by omega))
   rw[show i+1+k=i+(k+1)by omega]at this
   exact this
end Go.Ab

namespace Go.Ab
open Go Go.Proofs
theorem yfw {α:Type} [Inhabited α] {l:List α} {x:α} {j:Nat} (h:j<l.length):(l++[x]).getD j default=l.getD j default:=by
 rw[List.getD_eq_getElem?_getD,List.getD_eq_getElem?_getD,List.getElem?_append_left h]
theorem yky {α:Type} [Inhabited α] {l:List α} {x:α} {j:Nat} (h:¬ j<l.length) (h2:j<l.length+1):(l++[x]).getD j default=x:=by
 have:j=l.length:=by omega
 subst this
 simp
theorem y23 {j n:Nat} (h:j<n):Nat.blt j n=true:=by
 cases hb:Nat.blt j n with
 | true=>rfl
 | false=>rw[← Bool.not_eq_true,Nat.blt_eq]at hb;exact absurd h hb
theorem yd6 {j n:Nat} (h:¬ j<n):Nat.blt j n=false:=by
 cases hb:Nat.blt j n with
 | true=>rw[Nat.blt_eq]at hb;exact absurd hb h
 | false=>rfl
end Go.Ab

namespace Go.Ab
open Go Go.Proofs
def zue (a0:(List UInt8)) (a1:(List UInt8)):(List UInt8):=Go.Lib.trimSuffix a0 a1
theorem y89 (a0:(List UInt8)) (a1:(List UInt8)) (hp0:a0.length≤1048576):Den Tryz.prog 187 [.str a0,.str a1] (.str (zue a0 a1)):=by
 refine Den.plain ⟨_,Tryz.func187,rfl,rfl⟩ (by simp[NoOwnL,NoOwn]) ?_
 intro w M vs hI hr
 simp only[RepL]at hr
 obtain⟨u0,us0,f0,g0,rfl,h0e,h0,u1,us1,f1,g1,rfl,h1e,h1,rfl,_⟩:=hr
 have e0:=h0.val_str
 have e1:=h1.val_str
 subst e0 e1
 refine(Any.strings_TrimSuffix Tryz.lays102 ⟨a0.toArray⟩ ⟨a1.toArray⟩ w (by show a0.length≤_;omega)).mono ?_
 rintro e w' ⟨rfl,rfl⟩
 exact⟨_,rfl,Grow.refl _,fun M'=>y1b _ (by have:=ygd a0 a1;show(Go.Lib.trimSuffix a0 a1).length≤maxLen;unfold maxLen;omega)⟩
def D_zue : DF
 | [x0,x1]=>some (.str (zue (rdS x0) (rdS x1)),false,[wS x0,wS x1,(rdS x0).length≤1048576])
 | _=>none
theorem yx4:OkD Tryz.prog 187 D_zue:=by
 intro xs r z ob h ho
 unfold D_zue at h
 split at h
 ·simp only[Option.some.injEq,Prod.mk.injEq]at h
  obtain⟨rfl,rfl,rfl⟩:=h
  obtain⟨h0,h1,hp0,_⟩:=ho
  exact Den.sim (y89 _ _ hp0) (yu (ycb h0).1 <| yu (ycb h1).1 <| trivial) (yw (ycb h0).2 <| yw (ycb h1).2 <| rfl) rfl
 ·cases h
end Go.Ab

namespace Go.Ab
open Go Go.Proofs
theorem yy1 (a b:List UInt8):(zue a b).length≤a.length:=ygd a b
end Go.Ab

namespace Go.Ab
open Go Go.Proofs
theorem yye (x:Int):IntKind.wrap .i64 x≤9223372036854775807:=by rw[IntKind.wrap_i64];omega
theorem ym6 {α:Type} [Inhabited α] {l:List α} {i:Nat} {x:α} (h:i<l.length):(l.set i x).getD i default=x:=by
 rw[ymi,if_pos ⟨rfl,h⟩]
theorem yv1 {α:Type} [Inhabited α] {l:List α} {i j:Nat} {x:α} (h:¬ j=i):(l.set i x).getD j default=l.getD j default:=by
 rw[ymi,if_neg (fun hh=>h hh.1)]
theorem beqF {i j:Nat} (h:¬ j=i):(j == i)=false∧Nat.beq j i=false:=by
 have:(j == i)=false:=by simp[h]
 refine⟨this,?_⟩
 cases hb:Nat.beq j i with
 | true=>exact absurd (Nat.eq_of_beq_eq_true hb) h
 | false=>rfl
theorem mrg {p:Prop} (h:p:=by(and_intros<;>first|trivial|assumption|omega|exact yye _|(simp only[List.length_set];omega)|exact hW1.1|exact hW1.2|(simp only[IntKind.wrap_i64];omega));first|done|fail):p:=h
end Go.Ab

namespace Go.Ab
open Go Go.Proofs
def ydd {T : Type} (step : T → Int → Int × T) : List T → Int → Int × List T
 | [],k=>(k,[])
 | x::xs,k=>((ydd step xs (step x k).1).1,(step x k).2::(ydd step xs (step x k).1).2)
theorem ykn {T : Type} (step : T → Int → Int × T) : ∀ (l : List T) (k : Int), (ydd step l k).2.length = l.length
 | [],_=>rfl
 | x::xs,k=>by simp only[ydd,List.length_cons,ykn step xs]
theorem yrj {ρ T : Type} [Inhabited T] (step : T → Int → Int × T) (b : Nat → Int × List T → Except ρ (Int × List T))
  (hb:∀ i s,b i s=.ok ((step (s.2.getD i default) s.1).1,s.2.set i (step (s.2.getD i default) s.1).2)):∀ (r p:List T) (k:Int),ye b r.length p.length (k,p++r)=.ok ((ydd step r k).1,p++(ydd step r k).2)
 | [],p,k=>by simp only[List.length_nil,ye,ydd]
 | x::r,p,k=>by
  have hg:(p++x::r).getD p.length default=x:=by simp
  have hs:(p++x::r).set p.length (step x k).2=(p++[(step x k).2])++r:=by
   rw[List.set_append_right _ _ (Nat.le_refl _)];simp
  simp only[List.length_cons,ye,hb,hg,hs]
  have:=yrj step b hb r (p++[(step x k).2]) (step x k).1
  rw[List.length_append,List.length_singleton]at this
  rw[this]
  simp only[ydd,List.append_assoc,List.singleton_append]
theorem ygz {T:Type} (step:T→Int→Int×T) (P:T→Prop) (W B:Int) (hW:0≤W) (hs:∀ x k,P x→0≤k→k≤B→k≤(step x k).1∧(step x k).1≤k+W) :
  ∀ (l:List T) (k:Int),(∀ x∈l,P x)→0≤k→k+W * l.length≤B→k≤(ydd step l k).1∧(ydd step l k).1≤k+W * l.length
 | [],k,_,_,_=>by simp[ydd]
 | x::xs,k,hp,h0,hB=>by
  have e:W * ((x::xs).length:Int)=W * (xs.length:Int)+W:=by simp only[List.length_cons];push_cast;rw[Int.mul_add,Int.mul_one]
  rw[e]at hB ⊢
  have hn:0≤W * (xs.length:Int):=Int.mul_nonneg hW (by omega)
  have h1:=hs x k (hp x (by simp)) h0 (by omega)
  have h2:=ygz step P W B hW hs xs (step x k).1 (fun y hy=>hp y (by simp[hy])) (by omega) (by omega)
  simp only[ydd]
  omega
theorem yyj {ρ T : Type} [Inhabited T] (step : T → Int → Int × T) (h : Nat → Int → Except ρ Int) (P : T → Prop) (W B : Int) (hW : 0 ≤ W)
  (hs:∀ x k,P x→0≤k→k≤B→k≤(step x k).1∧(step x k).1≤k+W) :
  ∀ (r:List T) (i:Nat) (k:Int),(∀ x∈r,P x)→0≤k→k+W * r.length≤B →
  (∀ (j:Nat) (x:T) (s:Int),P x→0≤s→s≤B→(ydd step r k).2[j]? = some (step x s).2→h (i+j) s=.ok (step x s).1) →
  ye h r.length i k=.ok (ydd step r k).1
 | [],i,k,_,_,_,_=>by simp only[List.length_nil,ye,ydd]
 | x::r,i,k,hp,h0,hB,hh=>by
  have e:W * ((x::r).length:Int)=W * (r.length:Int)+W:=by simp only[List.length_cons];push_cast;rw[Int.mul_add,Int.mul_one]
  rw[e]at hB
  have hn:0≤W * (r.length:Int):=Int.mul_nonneg hW (by omega)
  have h1:=hs x k (hp x (by simp)) h0 (by omega)
  have h2:=hh 0 x k (hp x (by simp)) h0 (by omega) (by simp[ydd])
  simp only[List.length_cons,ye]
  rw[Nat.add_zero]at h2
  rw[h2]
  simp only[ydd]
  refine yyj step h P W B hW hs r (i+1) (step x k).1 (fun y hy=>hp y (by simp[hy])) (by omega) (by omega) fun j y s hy g0 g1 g2 => ?_
  have:=hh (j+1) y s hy g0 g1 (by simpa [ydd]using g2)
  rwa [show i+(j+1)=i+1+j by omega]at this
end Go.Ab

namespace Go.Ab
open Go Go.Proofs
theorem digx {k a:Int} {n:Nat} (hW:0≤k∧n≤19∧k * 10 ^ n≤a) (hb:decide (0<k)=true) (ha:a≤9223372036854775807) :
  IntKind.wrap .i64 (k.tdiv 10)=k / 10∧n≤18∧(k / 10) * 10 ^ (n+1)≤a∧k≤9223372036854775807:=by
 obtain⟨h0,h1,h2⟩:=hW
 have h:=of_decide_eq_true hb
 have p1:(1:Int)≤10 ^ n:=by
  have:=Nat.one_le_two_pow (n:=0)
  have h3:0<10 ^ n:=Nat.pow_pos (by omega)
  have h4:((10 ^ n:Nat):Int)=(10:Int) ^ n:=by simp
  omega
 have p2:=Int.mul_le_mul_of_nonneg_left p1 h0
 rw[Int.mul_one]at p2
 have hk:k≤9223372036854775807:=by omega
 refine⟨?_,?_,?_,hk⟩
 ·rw[Int.tdiv_eq_ediv_of_nonneg h0,IntKind.wrap_i64];omega
 ·by_cases hn:n=19
  ·subst hn
   have e:(10:Int) ^ 19=10000000000000000000:=by decide
   rw[e]at h2;omega
  ·omega
 ·have q:=Int.mul_le_mul_of_nonneg_right (Int.ediv_mul_le k (show(10:Int)≠0 by decide)) (show(0:Int)≤10 ^ n by omega)
  have e:(k / 10) * 10 ^ (n+1)=k / 10 * 10 * 10 ^ n:=by rw[Int.pow_succ];ac_rfl
  rw[e];omega
theorem digd {k a:Int} {n:Nat} (hW:0≤k∧n≤19∧k * 10 ^ n≤a) (hb:decide (0<k)=true) (ha:a≤9223372036854775807):(IntKind.wrap .i64 (k.tdiv 10)).toNat<k.toNat:=by
 have h:=of_decide_eq_true hb
 rw[(digx hW hb ha).1];omega
theorem digw {k a:Int} {x l:List UInt8} (hx:x.length=1) (hW:0≤k∧l.length≤19∧k * 10 ^ l.length≤a) (hb:decide (0<k)=true) (ha:a≤9223372036854775807) :
  0≤IntKind.wrap .i64 (k.tdiv 10)∧(x++l).length≤19∧IntKind.wrap .i64 (k.tdiv 10) * 10 ^ (x++l).length≤a:=by
 obtain⟨e1,e2,e3,e4⟩:=digx hW hb ha
 rw[e1,List.length_append,hx,Nat.add_comm 1]
 exact⟨by omega,by omega,e3⟩
end Go.Ab
