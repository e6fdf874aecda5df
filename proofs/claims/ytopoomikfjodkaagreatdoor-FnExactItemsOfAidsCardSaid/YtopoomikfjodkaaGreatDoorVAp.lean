/- A part of a proof: walks of functions and lemmas of our own. No conditions. -/
import Derived.Test.YtopoomikfjodkaaGreatDoorVAm
import Derived.Test.YtopoomikfjodkaaGreatDoorVAl
import Derived.Shelf.Strings.Prefix
import Derived.Shelf.Strings.Search3
import Derived.Shelf.Strings.Cut
import Derived.Test.YtopoomikfjodkaaGreatDoorVAo
import Derived.Shelf.Strings.Fields
import Derived.Test.YtopoomikfjodkaaGreatDoorVAi
import Derived.Below
import Derived.Lib.Join
import Derived.Shelf.Strings.OnBuilder
import Derived.Lib.IndexMore
import Derived.Lib.Split
import Derived.Lib.IndexLaws
import Derived.Lib.IndexBytes
import Derived.Lib.CountLaws
import Derived.Test.YtopoomikfjodkaaGreatDoorVAg
import Derived.ProofKit
import Derived.Test.YtopoomikfjodkaaGreatDoorVAj
import Derived.Test.YtopoomikfjodkaaGreatDoorRows
set_option linter.unusedSectionVars false
set_option linter.unusedVariables false
set_option linter.unusedSimpArgs false
set_option maxHeartbeats 1000000

namespace Go.Ab
open Go Go.Proofs
def zkb (a0:(List UInt8)) (a1:(List UInt8)):Bool:=decide (0≤Go.Lib.indexByte a0 (a1.getD 0 0))
theorem yg4 (a0:(List UInt8)) (a1:(List UInt8)) (hp0:a1.length=1):Den Tryz.prog 286 [.str a0,.str a1] (.bool (zkb a0 a1)):=by
 obtain⟨c,rfl⟩:∃ c,a1=[c]:=List.length_eq_one_iff.1 hp0
 refine Den.plain ⟨_,Tryz.func286,rfl,rfl⟩ (by simp[NoOwnL,NoOwn]) ?_
 intro w M vs hI hr
 simp only[RepL]at hr
 obtain⟨u0,us0,f0,g0,rfl,h0e,h0,u1,us1,f1,g1,rfl,h1e,h1,rfl,_⟩:=hr
 have e0:=h0.val_str
 have e1:=h1.val_str
 subst e0 e1
 refine(Any.strings_Contains_one Tryz.lays144 ⟨a0.toArray⟩ c w).mono ?_
 rintro e w' ⟨rfl,rfl⟩
 exact⟨_,rfl,Grow.refl _,fun M'=>ywc _⟩
def D_zkb : DF
 | [x0,x1]=>some (.bool (zkb (rdS x0) (rdS x1)),false,[wS x0,wS x1,(rdS x1).length=1])
 | _=>none
theorem ydr:OkD Tryz.prog 286 D_zkb:=by
 intro xs r z ob h ho
 unfold D_zkb at h
 split at h
 ·simp only[Option.some.injEq,Prod.mk.injEq]at h
  obtain⟨rfl,rfl,rfl⟩:=h
  obtain⟨h0,h1,hp0,_⟩:=ho
  exact Den.sim (yg4 _ _ hp0) (yfb (y2c h0).1 <| yfb (y2c h1).1 <| trivial) (yjb (y2c h0).2 <| yjb (y2c h1).2 <| rfl) rfl
 ·cases h
end Go.Ab

namespace Go.Ab
open Go Go.Proofs
theorem yr4 {s n:Int} (h0:0≤s) (h1:s<n) (hn:n<9223372036854775808):0≤(IntKind.wrap .i64 (s+1)).tmod n∧(IntKind.wrap .i64 (s+1)).tmod n<n:=by
 have e:IntKind.wrap .i64 (s+1)=s+1:=by rw[IntKind.wrap_i64];omega
 rw[e,Int.tmod_eq_emod_of_nonneg (by omega)]
 exact⟨Int.emod_nonneg _ (by omega),Int.emod_lt_of_pos _ (by omega)⟩
end Go.Ab

namespace Go.Ab
open Go Go.Proofs
def yon (a0:(List (List UInt8))) (a1:(List UInt8)) (i1:Nat) (s1:Unit):Except (Int) (Unit):=
 (bif (a1 == (a0.getD i1 default))then .error (i1:Int)else .ok ())
def zhe (a0:(List (List UInt8))) (a1:(List UInt8)):Int:=
 (match yf (yon a0 a1) (a0.length-0) 0 ()with|.error e=>e|.ok s1=>(-1))
namespace N182
theorem DD:DOk Tryz.prog (Go.Ab.DD []):=yd _
theorem den (a0:(List (List UInt8))) (a1:(List UInt8))  : Den Tryz.prog 182 [encL 1 eS a0,.str a1] (.int .i64 (zhe a0 a1)):=by
 generalize hR:zhe a0 a1=r
 unfold zhe at hR
 refine di Tryz.func182 Tryz.ntmps182 Tryz.results182 ?_
 intro c hL hc hk
 obtain⟨hL0,hL1,_⟩:=hL
 have hw0:a0.length<9223372036854775808:=Nat.lt_succ_of_le (ye hL0).1
 have hw1:∀ v∈a0,bwS v:=fun v hv=>yaw v ((ye hL0).2 v hv)
 have hw2:a1.length<9223372036854775808:=Nat.lt_succ_of_le hL1
 clear hL0 hL1
 simp only[pars,Nat.zero_add]
 iterate 2 refine rS ?_
 refine AWP.block ?_
 generalize hz1:yf (yon a0 a1) (a0.length-0) 0 ()=z1 at hR
 refine AWP.range (yon a0 a1) (fun i1 s1=>⟨[(0,encL 1 eS a0),(1,.str a1),(7,.int .i64 (a0.length:Int)),(8,.int .i64 (i1:Int))],[]⟩) (fun i1 s1=>True) (a0.length) 0 () [] hz1 ot wt sm ?_
 clear hz1
 intro i1 s1 hi1 hW1 hz1
 refine rS ?_
 refine AWP.seq ?_
 refine AWP.cond rfl (fun hb => ?_) (fun hb => ?_)
 ·have hlt1:i1<a0.length:=ot
  rw[yh hlt1]at hz1;simp only[yon]at hz1
  iterate 2 refine rS ?_
  refine AWP.cond rfl (fun hb => ?_) (fun hb => ?_)
  ·simp only[hb,cond_true]at hz1
   refine rS ?_
   refine AWP.ret ?_
   subst hz1
   dsimp only at hR
   subst hR
   exact es
  ·simp only[hb,cond_false]at hz1
   refine rS ?_
   exact⟨_,[],hlt1,wt,hz1,sm⟩
 ·obtain rfl:i1=a0.length:=ot
  rw[yi (Nat.le_refl _)]at hz1;subst hz1;dsimp only at hR
  refine AWP.exit ?_;refine yb ?_
  refine rS ?_
  refine AWP.ret ?_
  subst hR
  exact es
end N182
def D_zhe : DF
 | [x0,x1]=>some (.int .i64 (zhe (rdL dS x0) (rdS x1)),false,[wL 1 eS dS x0,wS x1])
 | _=>none
theorem yiy:OkD Tryz.prog 182 D_zhe:=by unfold D_zhe;exact dk N182.den
end Go.Ab

namespace Go.Ab
open Go Go.Proofs
def zef (a0:(List (List UInt8))) (a1:(List UInt8)):Bool:=
 decide (0≤(zhe a0 a1))
namespace N86
theorem DD:DOk Tryz.prog (Go.Ab.DD [(182,dP D_zhe)]):=ya yiy.e <| yd _
theorem dn:type_of% (@D_zhe.eq_1):=by and_intros<;>intros<;>rfl
theorem den (a0:(List (List UInt8))) (a1:(List UInt8))  : Den Tryz.prog 86 [encL 1 eS a0,.str a1] (.bool (zef a0 a1)):=by
 generalize hR:zef a0 a1=r
 unfold zef at hR
 refine di Tryz.func86 Tryz.ntmps86 Tryz.results86 ?_
 intro c hL hc hk
 obtain⟨hL0,hL1,_⟩:=hL
 have hw0:a0.length<9223372036854775808:=Nat.lt_succ_of_le (ye hL0).1
 have hw1:∀ v∈a0,bwS v:=fun v hv=>yaw v ((ye hL0).2 v hv)
 have hw2:a1.length<9223372036854775808:=Nat.lt_succ_of_le hL1
 clear hL0 hL1
 simp only[pars,Nat.zero_add]
 iterate 2 refine rS ?_
 refine AWP.ret ?_
 subst hR
 exact es
end N86
def D_zef : DF
 | [x0,x1]=>some (.bool (zef (rdL dS x0) (rdS x1)),false,[wL 1 eS dS x0,wS x1])
 | _=>none
theorem ypt:OkD Tryz.prog 86 D_zef:=by unfold D_zef;exact dk N86.den
end Go.Ab

namespace Go.Ab
open Go Go.Proofs
theorem ygd : ∀ (l cur : List UInt8) (m : Nat), cur.length + l.length ≤ m → (Go.Lib.fieldsGo cur l).length ≤ cur.length + l.length ∧ ∀ x ∈ Go.Lib.fieldsGo cur l, x.length ≤ m
 | [],cur,m,h=>by
  cases cur with
  | nil=>simp[Go.Lib.fieldsGo]
  | cons a c=>
   simp only[Go.Lib.fieldsGo,List.isEmpty_cons,List.length_cons,List.length_nil]
   refine⟨by simp,fun x hx => ?_⟩
   simp at hx
   subst hx
   simpa using h
 | b::l,cur,m,h=>by
  simp only[List.length_cons]at h ⊢
  simp only[Go.Lib.fieldsGo]
  split
  ·split
   ·have:=ygd l [] m (by simp;omega)
    simp only[List.length_nil]at this
    exact⟨by omega,this.2⟩
   ·rename_i hc
    have:=ygd l [] m (by simp;omega)
    simp only[List.length_nil]at this
    have hcl:0<cur.length:=by cases cur with|nil=>simp at hc|cons _ _=>simp
    refine⟨by simp only[List.length_cons];omega,fun x hx => ?_⟩
    rcases List.mem_cons.1 hx with rfl|hx
    ·omega
    ·exact this.2 x hx
  ·have:=ygd l (cur++[b]) m (by simp;omega)
   simp only[List.length_append,List.length_cons,List.length_nil]at this
   exact⟨by omega,this.2⟩
theorem y0t (s:List UInt8):(Go.Lib.fields s).length≤s.length∧∀ x∈Go.Lib.fields s,x.length≤s.length:=by
 have:=ygd s [] s.length (by simp)
 simpa [Go.Lib.fields]using this
theorem ywt {f : FuncId} {T : TypeId} (hok : FnOk Tryz.prog f) (a0 : List UInt8) (hp0 : a0.length ≤ 1048576) (hp1 : ∀ x ∈ a0, x.toNat < 128)
  (hS:∀ (s:ByteArray) (w:World),s.size<4294967281→(∀ (j:Nat) b,s.data.toList[j]? = some b→b.toNat<128)→Go.Lib.TabIs Tryz.prog w tn1 .u8 Go.Lib.asciiSpaceTab→Calls Tryz.prog f #[.string s] w fun e w'=>
   e=.returned (.slice (some ⟨w.heap.size,0,none⟩) (Go.Lib.fields s.data.toList).length (Go.Lib.fields s.data.toList).length)∧w'=w.alloc (.cells ((Go.Lib.fields s.data.toList).map fun l=>Value.string ⟨l.toArray⟩).toArray T)) :
  Den Tryz.prog f [.str a0] (ownL T 1 (fun s:List UInt8=>[.str s]) (Go.Lib.fields a0)):=by
 obtain⟨l1,l2⟩:=y0t a0
 have hnth:∀ i,i<(Go.Lib.fields a0).length→((Go.Lib.fields a0).getD i default).length≤maxLen:=by
  intro i hi
  have:(Go.Lib.fields a0).getD i default∈Go.Lib.fields a0:=by
   rw[List.getD_eq_getElem?_getD,List.getElem?_eq_getElem hi]
   simp
  have:=l2 _ this
  unfold maxLen
  omega
 refine Den.fresh (T:=T) (e:=1) (enc:=fun s:List UInt8=>[.str s]) (l:=Go.Lib.fields a0) hok (by simp[NoOwnL,NoOwn]) (fun i=>[Value.string ⟨((Go.Lib.fields a0).getD i default).toArray⟩]) (fun w M i hi=>⟨?_,rfl,by simp[Value.oneCell']⟩) ?_
 ·simp only[RepL]
  exact⟨_,[],[],[],rfl,rfl,ybc _ (hnth i hi),rfl,rfl⟩
 ·intro w M vs hI hr
  simp only[RepL]at hr
  obtain⟨u0,us0,f0,g0,rfl,h0e,h0,rfl,_⟩:=hr
  have e0:=h0.val_str
  subst e0
  refine(hS ⟨a0.toArray⟩ w (by show a0.length<_;omega) (fun j b hb=>hp1 b (List.mem_of_getElem? hb)) hI.2.2.2).mono ?_
  rintro e w' ⟨rfl,rfl⟩
  refine⟨w.heap.size,(Go.Lib.fields a0).length,((Go.Lib.fields a0).map fun x=>Value.string ⟨x.toArray⟩).toArray,rfl,?_⟩
  have hfl:=y2p w T ((Go.Lib.fields a0).map fun x=>Value.string ⟨x.toArray⟩) (by rw[List.length_map];unfold maxLen;omega)
  rw[List.length_map]at hfl
  have hus:((List.range (Go.Lib.fields a0).length).flatMap fun i=>[((Go.Lib.fields a0).map fun x=>Value.string ⟨x.toArray⟩).getD i default])=(List.range (Go.Lib.fields a0).length).flatMap fun i=>[Value.string ⟨((Go.Lib.fields a0).getD i default).toArray⟩]:=by
   rw[List.flatMap_def,List.flatMap_def]
   congr 1
   apply List.map_congr_left
   intro i hi
   have hi:=List.mem_range.1 hi
   simp[List.getD_eq_getElem?_getD,List.getElem?_map,List.getElem?_eq_getElem hi]
  rw[hus]at hfl
  exact hfl
end Go.Ab

namespace Go.Ab
open Go Go.Proofs
def zch (a0:(List UInt8)):(List (List UInt8)):=Go.Lib.fields a0
theorem y23 (a0:(List UInt8)) (hp0:a0.length≤1048576) (hp1:∀ x∈a0,x.toNat<128):Den Tryz.prog 183 [.str a0] (ownL 9 1 eS (zch a0)):=by
 exact ywt ⟨_,Tryz.func183,rfl,rfl⟩ a0 hp0 hp1 (fun s w h1 h2 h3=>Any.strings_Fields Tryz.lays157 (by kernel_rfl) (by kernel_rfl) s w h1 h2 h3)
def D_zch : DF
 | [x0]=>some (ownL 9 1 eS (zch (rdS x0)),false,[wS x0,(rdS x0).length≤1048576,∀ x∈(rdS x0),x.toNat<128])
 | _=>none
theorem yq1:OkD Tryz.prog 183 D_zch:=by
 intro xs r z ob h ho
 unfold D_zch at h
 split at h
 ·simp only[Option.some.injEq,Prod.mk.injEq]at h
  obtain⟨rfl,rfl,rfl⟩:=h
  obtain⟨h0,hp0,hp1,_⟩:=ho
  exact Den.sim (y23 _ hp0 hp1) (yfb (y2c h0).1 <| trivial) (yjb (y2c h0).2 <| rfl) rfl
 ·cases h
end Go.Ab

namespace Go.Ab
open Go Go.Proofs
def yzk (a0:(List Int)) (a1:(List Int)) (i1:Nat) (s1:Unit):Except (Bool) (Unit):=
 (bif ((a0.getD i1 default) != (a1.getD i1 default))then .error false else .ok ())
def zfc (a0:(List Int)) (a1:(List Int)):Bool:=
 (bif ((a0.length:Int) != (a1.length:Int))then false else(match yf (yzk a0 a1) (a0.length-0) 0 ()with|.error e=>e|.ok s1=>true))
namespace N93
theorem DD:DOk Tryz.prog (Go.Ab.DD []):=yd _
theorem den (a0:(List Int)) (a1:(List Int))  : Den Tryz.prog 93 [encL 1 yp a0,encL 1 yp a1] (.bool (zfc a0 a1)):=by
 generalize hR:zfc a0 a1=r
 unfold zfc at hR
 refine di Tryz.func93 Tryz.ntmps93 Tryz.results93 ?_
 intro c hL hc hk
 obtain⟨hL0,hL1,_⟩:=hL
 have hw0:a0.length<9223372036854775808:=Nat.lt_succ_of_le (ye hL0).1
 have hw1:a1.length<9223372036854775808:=Nat.lt_succ_of_le (ye hL1).1
 clear hL0 hL1
 simp only[pars,Nat.zero_add]
 iterate 2 refine rS ?_
 refine AWP.cond rfl (fun hb => ?_) (fun hb => ?_)
 ·replace hR:=ct hR
  refine rS ?_
  refine AWP.ret ?_
  subst hR
  exact es
 ·replace hR:=cf hR
  refine rS ?_
  refine AWP.block ?_
  generalize hz1:yf (yzk a0 a1) (a0.length-0) 0 ()=z1 at hR
  refine AWP.range (yzk a0 a1) (fun i1 s1=>⟨[(0,encL 1 yp a0),(1,encL 1 yp a1),(12,.int .i64 (a0.length:Int)),(13,.int .i64 (i1:Int))],[]⟩) (fun i1 s1=>True) (a0.length) 0 () [] hz1 ot wt sm ?_
  clear hz1
  intro i1 s1 hi1 hW1 hz1
  refine rS ?_
  refine AWP.seq ?_
  refine AWP.cond rfl (fun hb => ?_) (fun hb => ?_)
  ·have hlt1:i1<a0.length:=ot
   rw[yh hlt1]at hz1;simp only[yzk]at hz1
   refine rS ?_
   refine rD 8 ?_
   refine AWP.cond rfl (fun hb => ?_) (fun hb => ?_)
   ·simp only[hb,cond_true]at hz1
    refine rS ?_
    refine AWP.ret ?_
    subst hz1
    dsimp only at hR
    subst hR
    exact es
   ·simp only[hb,cond_false]at hz1
    refine rS ?_
    exact⟨_,[],hlt1,wt,hz1,sm⟩
  ·obtain rfl:i1=a0.length:=ot
   rw[yi (Nat.le_refl _)]at hz1;subst hz1;dsimp only at hR
   refine AWP.exit ?_;refine yb ?_
   refine rS ?_
   refine AWP.ret ?_
   subst hR
   exact es
end N93
def D_zfc : DF
 | [x0,x1]=>some (.bool (zfc (rdL yob x0) (rdL yob x1)),false,[wL 1 yp yob x0,wL 1 yp yob x1])
 | _=>none
theorem yqt:OkD Tryz.prog 93 D_zfc:=by unfold D_zfc;exact dk N93.den
end Go.Ab

namespace Go.Ab
open Go Go.Proofs
def zoe (a0:(List UInt8)) (a1:Int):Int:=Go.Lib.indexByte a0 a1.toNat.toUInt8
theorem yo3 (a0:(List UInt8)) (a1:Int)  : Den Tryz.prog 265 [.str a0,.int .u8 a1] (.int .i64 (zoe a0 a1)):=by
 refine Den.plain ⟨_,Tryz.func265,rfl,rfl⟩ (by simp[NoOwnL,NoOwn]) ?_
 intro w M vs hI hr
 simp only[RepL]at hr
 obtain⟨u0,us0,f0,g0,rfl,h0e,h0,u1,us1,f1,g1,rfl,h1e,h1,rfl,_⟩:=hr
 have e0:=h0.val_str
 have e1:=h1.val_int
 subst e0 e1
 refine(Any.strings_IndexByte Tryz.lays137 ⟨a0.toArray⟩ a1 w).mono ?_
 rintro e w' ⟨rfl,rfl⟩
 exact⟨_,rfl,Grow.refl _,fun M'=>ymb _ _⟩
def D_zoe : DF
 | [x0,x1]=>some (.int .i64 (zoe (rdS x0) (rdI x1)),false,[wS x0,wI .u8 x1])
 | _=>none
theorem yvy:OkD Tryz.prog 265 D_zoe:=by
 intro xs r z ob h ho
 unfold D_zoe at h
 split at h
 ·simp only[Option.some.injEq,Prod.mk.injEq]at h
  obtain⟨rfl,rfl,rfl⟩:=h
  obtain⟨h0,h1,_⟩:=ho
  exact Den.sim (yo3 _ _ ) (yfb (y2c h0).1 <| yfb (yxe h1).1 <| trivial) (yjb (y2c h0).2 <| yjb (yxe h1).2 <| rfl) rfl
 ·cases h
end Go.Ab

namespace Go.Ab
open Go
def yvc:List (List UInt8):=[[46,45],[45,46,46,46],[45,46,45,46],[45,46,46],[46],[46,46,45,46],[45,45,46],[46,46,46,46],[46,46],[46,45,45,45],[45,46,45],[46,45,46,46],[45,45],[45,46],[45,45,45],[46,45,45,46],[45,45,46,45],[46,45,46],[46,46,46],[45],[46,46,45],[46,46,46,45],[46,45,45],[45,46,46,45],[45,46,45,45],[45,45,46,46]]
theorem yhg:∀ x∈yvc,1≤x.length∧x.length≤4∧∀ c∈x,c=45∨c=46:=by decide
theorem y4j (n:Nat):(yvc.getD n default).length≤4:=by
 rw[List.getD_eq_getElem?_getD]
 cases h:yvc[n]? with
 | none=>show(0:Nat)≤4;omega
 | some x=>exact(yhg x (List.mem_of_getElem? h)).2.1
theorem yaz (n:Nat):(([[46,45],[45,46,46,46],[45,46,45,46],[45,46,46],[46],[46,46,45,46],[45,45,46],[46,46,46,46],[46,46],[46,45,45,45],[45,46,45],[46,45,46,46],[45,45],[45,46],[45,45,45],[46,45,45,46],[45,45,46,45],[46,45,46],[46,46,46],[45],[46,46,45],[46,46,46,45],[46,45,45],[45,46,46,45],[45,46,45,45],[45,45,46,46]]:List (List UInt8)).getD n default).length≤4:=y4j n
end Go.Ab

namespace Go.Ab
open Go
theorem yag (a:List UInt8) (c:UInt8) (h:a.length=1):Op.bytesLess a [c]=decide ((a.getD 0 0).toNat<c.toNat):=by
 obtain⟨x,rfl⟩:=List.length_eq_one_iff.1 h
 simp only[Op.bytesLess,Bool.and_false,Bool.or_false,List.getD_cons_zero]
 rfl
theorem ydv (a:List UInt8) (c:UInt8) (h:a.length=1):(a == [c])=decide ((a.getD 0 0).toNat=c.toNat):=by
 obtain⟨x,rfl⟩:=List.length_eq_one_iff.1 h
 apply Bool.eq_iff_iff.2
 simp[UInt8.toNat_inj]
theorem y0i (n:Int) (h1:0≤n) (h2:n<256):IntKind.wrap .u8 n=n:=by
 have:IntKind.wrap .u8 n=n % 256:=rfl
 rw[this];omega
theorem yny (a:List UInt8) (h:((a.length:Int)=1∧Op.bytesLess a [65]=false)∧(Op.bytesLess a [90]=true∨(a == [90])=true)) :
  0≤IntKind.wrap .u8 (((a.getD 0 0).toNat:Int)-65)∧IntKind.wrap .u8 (((a.getD 0 0).toNat:Int)-65)<26∧0≤IntKind.wrap .u8 (((a.getD 0 0).toNat:Int) + -65)∧IntKind.wrap .u8 (((a.getD 0 0).toNat:Int) + -65)<26:=by
 have h1:a.length=1:=by omega
 rw[yag a 65 h1,yag a 90 h1,ydv a 90 h1]at h
 have e1:(65:UInt8).toNat=65:=rfl
 have e2:(90:UInt8).toNat=90:=rfl
 rw[e1,e2]at h
 simp only[decide_eq_true_eq,decide_eq_false_iff_not]at h
 have hx:65≤(a.getD 0 0).toNat∧(a.getD 0 0).toNat≤90:=by omega
 rw[y0i _ (by omega) (by omega),y0i _ (by omega) (by omega)]
 omega
end Go.Ab

namespace Go.Ab
open Go
theorem yqc {ρ α : Type} (b : Nat → List α → Except ρ (List α)) (f : Nat → List α) : ∀ (n i : Nat) (s : List α), (∀ j s, i ≤ j → j < i + n → b j s = .ok (s ++ f j)) → yf b n i s = .ok (s ++ (List.range' i n).flatMap f)
 | 0,i,s,_=>by simp[yf]
 | n+1,i,s,h=>by
  simp only[yf]
  rw[h i s (Nat.le_refl _) (by omega)]
  simp only
  rw[yqc b f n (i+1) _ (fun j s h1 h2=>h j s (by omega) (by omega)),List.range'_succ,List.flatMap_cons,List.append_assoc]
theorem y6g {ρ σ:Type} {b b':Nat→σ→Except ρ σ} (n i:Nat) (s:σ) (h:∀ j u,i≤j→j<i+n→b j u=b' j u):yf b n i s=yf b' n i s:=loopR_congr0 n i s h
where
 loopR_congr0 {ρ σ:Type} {b b':Nat→σ→Except ρ σ}:∀ (n i:Nat) (s:σ),(∀ j u,i≤j→j<i+n→b j u=b' j u)→yf b n i s=yf b' n i s
 | 0,i,s,_=>rfl
 | n+1,i,s,h=>by
  simp only[yf]
  rw[h i s (Nat.le_refl _) (by omega)]
  cases b' i s with
  | error r=>rfl
  | ok t=>exact loopR_congr0 n (i+1) t (fun j u h1 h2=>h j u (by omega) (by omega))
theorem y2j {α β:Type} (l:List α) (d:α) (f:α→β):(List.range' 0 l.length).flatMap (fun j=>[f (l.getD j d)])=l.map f:=by
 rw[← List.map_eq_flatMap]
 apply List.ext_getElem
 ·simp
 ·intro i h1 h2
  simp only[List.length_map]at h2
  simp[List.getD_eq_getElem?_getD,h2]
end Go.Ab

namespace Go.Ab
open Go
theorem yoi (s:List Int) (a b:Int) (i:Nat) (hi:i<s.length+2):(bif i.blt s.length then[AV.int .i64 (s.getD i default)]else borrowL (elt [[AV.int .i64 a],[AV.int .i64 b]] (i-s.length)))=[AV.int .i64 ((s++[a,b]).getD i default)]:=by
 by_cases h:i<s.length
 ·have:i.blt s.length=true:=by rw[Nat.blt_eq];exact h
  rw[this]
  simp[List.getD_eq_getElem?_getD,List.getElem?_append_left h]
 ·have:i.blt s.length=false:=by rw[← Bool.not_eq_true,Nat.blt_eq];exact h
  rw[this]
  rcases(show i=s.length∨i=s.length+1 by omega)with h1|h1
  ·subst h1
   simp[elt,borrowL,borrow,List.getD_eq_getElem?_getD]
  ·subst h1
   simp[elt,borrowL,borrow,List.getD_eq_getElem?_getD]
theorem yyl (s:List Int) (a:Int) (i:Nat) (hi:i<s.length+1):(bif i.blt s.length then[AV.int .i64 (s.getD i default)]else borrowL (elt [[AV.int .i64 a]] (i-s.length)))=[AV.int .i64 ((s++[a]).getD i default)]:=by
 by_cases h:i<s.length
 ·have:i.blt s.length=true:=by rw[Nat.blt_eq];exact h
  rw[this]
  simp[List.getD_eq_getElem?_getD,List.getElem?_append_left h]
 ·have:i.blt s.length=false:=by rw[← Bool.not_eq_true,Nat.blt_eq];exact h
  rw[this]
  have h1:i=s.length:=by omega
  subst h1
  simp[elt,borrowL,borrow,List.getD_eq_getElem?_getD]
theorem yum (s:List Int) (a b:Int) (i:Nat) (hi:i<s.length+1+1):(bif i.blt (s.length+1)then bif i.blt s.length then[AV.int .i64 (s.getD i default)]else borrowL (elt [[AV.int .i64 a]] (i-s.length))else borrowL (elt [[AV.int .i64 b]] (i-(s.length+1))))=[AV.int .i64 ((s++[a]++[b]).getD i default)]:=by
 by_cases h:i<s.length+1
 ·have:i.blt (s.length+1)=true:=by rw[Nat.blt_eq];exact h
  rw[this,cond_true]
  refine(yyl s a i h).trans ?_
  rw[List.getD_eq_getElem?_getD,List.getD_eq_getElem?_getD,List.getElem?_append_left (l₁:=s++[a]) (l₂:=[b]) (by simpa using h)]
 ·have:i.blt (s.length+1)=false:=by rw[← Bool.not_eq_true,Nat.blt_eq];exact h
  rw[this]
  have h1:i=s.length+1:=by omega
  subst h1
  simp[elt,borrowL,borrow,List.getD_eq_getElem?_getD]
theorem yvm (s:List Int) (a b:Int) (i:Nat) (hi:i<s.length+2):(i.blt s.length || pureL (borrowL (elt [[AV.int .i64 a],[AV.int .i64 b]] (i-s.length))))=true:=by
 by_cases h:i<s.length
 ·have:i.blt s.length=true:=by rw[Nat.blt_eq];exact h
  rw[this];rfl
 ·rcases(show i-s.length=0∨i-s.length=1 by omega)with h1|h1<;>rw[h1]<;>simp[elt,borrowL,borrow,pureL,pureV]
end Go.Ab

namespace Go.Ab
open Go Go.Proofs
theorem y1r {i:Nat} (h:i<4):(([87,82,71,89]:List UInt8).take (IntKind.wrap .i64 ((i:Int)+1)).toNat |>.drop i).length=1:=by
 rw[show(IntKind.wrap .i64 ((i:Int)+1)).toNat=i+1 from by rw[IntKind.wrap_i64];omega]
 rcases i with _|_|_|_|i<;>first|rfl|omega
theorem ybz (i:Nat):(([87,82,71,89]:List UInt8).take (IntKind.wrap .i64 ((i:Int)+1)).toNat |>.drop i).length≤1∨4≤i:=by
 by_cases h:i<4
 ·left;rw[y1r h];exact Nat.le_refl _
 ·right;omega
end Go.Ab

namespace Go.Ab
open Go Go.Proofs
theorem ned {α:Type} [DecidableEq α] (x y:α):(x != y) = !decide (x=y):=by by_cases h:x=y<;>simp[h]
end Go.Ab

namespace Go.Ab
open Go Go.Proofs
open Go.RowKit in
theorem yr1 {f : FuncId} (hok : FnOk Tryz.prog f) (a0 : List (List UInt8)) (a1 : List UInt8) (hp0 : a0.length ≤ 1048576) (hp1 : (Go.Lib.join a0 a1).length ≤ 1099511627776)
  (hS:∀ (bk o c:Nat) (xs:List ByteArray) (sep:ByteArray) (w:World),(∀ (j:Nat) x,xs[j]? = some x→w.cell? ⟨bk,o+j,none⟩=some (.string x))→bk<w.heap.size→xs.length≤140737488355328→xs.length≤c →
   (Go.Lib.join (xs.map (·.data.toList)) sep.data.toList).length≤140737488355328 →
   Calls Tryz.prog f #[.slice (some ⟨bk,o,none⟩) xs.length c,.string sep] w fun e w'=>e=.returned (.string ⟨(Go.Lib.join (xs.map (·.data.toList)) sep.data.toList).toArray⟩)∧Below w.heap.size w w')
  (hN:∀ (a:Option Addr) (c:Nat) (sep:ByteArray) (w:World),Calls Tryz.prog f #[.slice a 0 c,.string sep] w fun e w'=>e=.returned (.string ⟨#[]⟩)∧w'=w) :
  Den Tryz.prog f [encL 1 (fun s:List UInt8=>[.str s]) a0,.str a1] (.str (Go.Lib.join a0 a1)):=by
 refine Den.plain hok (by simp[NoOwnL,NoOwn,encL]) ?_
 intro w M vs hI hr
 simp only[RepL]at hr
 obtain⟨u0,us0,f0,g0,rfl,h0e,h0,u1,us1,f1,g1,rfl,h1e,h1,rfl,_⟩:=hr
 have e1:=h1.val_str
 subst e1
 simp only[encL,Rep]at h0
 rcases h0 with⟨hn,hev,_⟩|⟨b,o,cap,us,fps,rfl,⟨hc1,hc2⟩,hb,hcl,_⟩
 ·have h9:a0=[]:=List.length_eq_zero_iff.1 hn
  subst h9
  rcases hev with rfl|⟨a,c,rfl⟩
  ·refine(hN none 0 ⟨a1.toArray⟩ w).mono ?_
   rintro e w' ⟨rfl,rfl⟩
   exact⟨_,rfl,Grow.refl _,fun M'=>ybc [] (by unfold maxLen;simp)⟩
  ·refine(hN (some a) c ⟨a1.toArray⟩ w).mono ?_
   rintro e w' ⟨rfl,rfl⟩
   exact⟨_,rfl,Grow.refl _,fun M'=>ybc [] (by unfold maxLen;simp)⟩
 ·have hx:((a0.map fun x=>(⟨x.toArray⟩:ByteArray)).map fun x=>x.data.toList)=a0:=by
   rw[List.map_map]
   exact List.map_id'' (fun x=>rfl) _
  have hcall:=hS b o cap (a0.map fun x=>(⟨x.toArray⟩:ByteArray)) ⟨a1.toArray⟩ w (fun j x hj=>by
   rw[List.getElem?_map]at hj
   cases hg:a0[j]? with
   | none=>rw[hg]at hj;simp at hj
   | some y=>
    rw[hg]at hj
    simp only[Option.map_some,Option.some.injEq]at hj
    subst hj
    have hjl:=(List.getElem?_eq_some_iff.1 hg).1
    obtain⟨c1,c2,c3⟩:=hcl j hjl
    simp only[RepL]at c1
    obtain⟨v,vs',q1,q2,hus,_,hv,hvs,_⟩:=c1
    subst hvs
    have hv:=hv.val_str
    subst hv
    rw[hus]at c3
    have hgd:a0.getD j default=y:=by rw[List.getD_eq_getElem?_getD,hg];rfl
    rw[hgd]at c3
    have h0:=(c3 0 _ rfl).1
    rw[Nat.mul_one,Nat.add_zero]at h0
    exact h0) hb (by rw[List.length_map];omega) (by rw[List.length_map];exact hc1) (by rw[hx];exact Nat.le_trans hp1 (by omega))
  rw[List.length_map,hx]at hcall
  refine hcall.mono ?_
  rintro e w' ⟨rfl,hbl⟩
  exact⟨_,rfl,yjk hbl,fun M'=>ybc _ (by unfold maxLen;omega)⟩
end Go.Ab

namespace Go.Ab
open Go Go.Proofs
def zr (a0:(List (List UInt8))) (a1:(List UInt8)):(List UInt8):=Go.Lib.join a0 a1
theorem y14 (a0:(List (List UInt8))) (a1:(List UInt8)) (hp0:a0.length≤1048576) (hp1:(Go.Lib.join a0 a1).length≤1099511627776):Den Tryz.prog 83 [encL 1 eS a0,.str a1] (.str (zr a0 a1)):=by
 exact yr1 ⟨_,Tryz.func83,rfl,rfl⟩ a0 a1 hp0 hp1 (fun bk o c xs sep w h1 h2 h3 h4 h5=>Any.strings_Join Tryz.lays156 Tryz.Builder_Extra_156 bk o c xs sep w h1 h2 h3 h4 h5) (fun a c sep w=>Any.strings_Join_none Tryz.lays156 Tryz.Builder_Extra_156 a c sep w)
def D_zr : DF
 | [x0,x1]=>some (.str (zr (rdL dS x0) (rdS x1)),false,[wL 1 eS dS x0,wS x1,(rdL dS x0).length≤1048576,(Go.Lib.join (rdL dS x0) (rdS x1)).length≤1099511627776])
 | _=>none
theorem yjh:OkD Tryz.prog 83 D_zr:=by
 intro xs r z ob h ho
 unfold D_zr at h
 split at h
 ·simp only[Option.some.injEq,Prod.mk.injEq]at h
  obtain⟨rfl,rfl,rfl⟩:=h
  obtain⟨h0,h1,hp0,hp1,_⟩:=ho
  exact Den.sim (y14 _ _ hp0 hp1) (yfb (y8n h0).1 <| yfb (y2c h1).1 <| trivial) (yjb (y8n h0).2 <| yjb (y2c h1).2 <| rfl) rfl
 ·cases h
end Go.Ab

namespace Go.Ab
open Go Go.Proofs
theorem y1j (x:Int):(0≤x∧x.tdiv 10=x / 10)∨(x<0∧x.tdiv 10 = -((-x) / 10)):=by
 by_cases h:0≤x
 ·exact .inl ⟨h,Int.tdiv_eq_ediv_of_nonneg h⟩
 ·refine .inr ⟨by omega,?_⟩
  have h2:=Int.neg_tdiv (a:=x) (b:=10)
  rw[Int.tdiv_eq_ediv_of_nonneg (show 0 ≤ -x by omega)]at h2
  omega
end Go.Ab



namespace Go.Ab
open Go
def yhb (y:Int):Bool:=(((y.tmod 4 == 0) && (y.tmod 100 != 0)) || (y.tmod 400 == 0))
theorem ymc {n:Int} (h1 : -9223372036854775808≤n) (h2:n≤9223372036854775807):IntKind.wrap .i64 n=n:=by
 rw[IntKind.wrap_i64];omega
theorem yjf {m:Int} (h1:1≤m) (h2:m≤12):m=1∨m=2∨m=3∨m=4∨m=5∨m=6∨m=7∨m=8∨m=9∨m=10∨m=11∨m=12:=by omega
def ybD (y:Int):Int:=365 * (y-2000)+(y-1997) / 4-(y-1901) / 100+(y-1601) / 400
def mbD (l:Bool) (m:Nat):Nat:=([0,0,31,59,90,120,151,181,212,243,273,304,334]:List Nat).getD m 0+(bif l && Nat.blt 2 m then 1 else 0)
def mdD (l:Bool) (m:Nat):Nat:=([0,31,28,31,30,31,30,31,31,30,31,30,31]:List Nat).getD m 0+(bif l && Nat.beq 2 m then 1 else 0)
theorem ybq:∀ (l:Bool) (m m':Fin 13),1≤m.val→m<m'→mbD l m+mdD l m≤mbD l m':=by decide
theorem yb4:∀ (l:Bool) (m:Fin 13),mdD l m≤31:=by decide
theorem yxs {l:Bool} {m:Int} (h1:1≤m) (h2:m≤12):mdD l m.toNat≤31:=yb4 l ⟨m.toNat,by omega⟩
theorem yf4:∀ (l:Bool) (m:Fin 12),1≤m.val→mbD l (m.val+1)=mbD l m+mdD l m:=by decide
def y0k (a y m d:Int):Prop:=2000≤y∧1≤m∧m≤12∧1≤d∧d≤mdD (yhb y) m.toNat∧a=ybD y+mbD (yhb y) m.toNat+d-1
theorem yrl (y:Int) (h:2000≤y):ybD (y+1)=ybD y+365+(bif yhb y then 1 else 0):=by
 have e1:y.tmod 4=y % 4:=Int.tmod_eq_emod_of_nonneg (by omega)
 have e2:y.tmod 100=y % 100:=Int.tmod_eq_emod_of_nonneg (by omega)
 have e3:y.tmod 400=y % 400:=Int.tmod_eq_emod_of_nonneg (by omega)
 by_cases hc:(y % 4=0∧y % 100≠0)∨y % 400=0
 ·have hl:yhb y=true:=by unfold yhb;rw[e1,e2,e3];simpa using hc
  rw[hl];simp only[cond_true];unfold ybD;omega
 ·have hl:yhb y=false:=by unfold yhb;rw[e1,e2,e3];simpa using hc
  rw[hl];simp only[cond_false];unfold ybD;omega
theorem ypg {y:Int} (h:2000≤y):0≤ybD y:=by unfold ybD;omega
theorem ynx (y y':Int) (h:y≤y'):ybD y≤ybD y':=by unfold ybD;omega
theorem ywl {y:Int} (h:ybD y≤99999):y≤2273:=by unfold ybD at h;omega
theorem y5v {l:Bool} {m:Int} (h1:1≤m) (h2:m≤11):mbD l (m+1).toNat=mbD l m.toNat+mdD l m.toNat:=by
 have:=yf4 l ⟨m.toNat,by omega⟩ (by show 1≤m.toNat;omega)
 rw[show(m+1).toNat=m.toNat+1 by omega]
 exact this
theorem ykx (l:Bool):mbD l 12+mdD l 12=365+(bif l then 1 else 0):=by cases l<;>rfl
theorem ypl (l:Bool):mbD l 1=0:=by cases l<;>rfl
theorem yjx {l:Bool} {m:Int} (h1:1≤m) (h2:m≤12):mbD l m.toNat+mdD l m.toNat≤365+(bif l then 1 else 0):=by
 rw[← ykx l]
 by_cases h:m=12
 ·subst h;exact Nat.le_refl _
 ·have:=ybq l ⟨m.toNat,by omega⟩ ⟨12,by omega⟩ (by show 1≤m.toNat;omega) (by show m.toNat<12;omega)
  have h3:mbD l m.toNat+mdD l m.toNat≤mbD l 12:=this
  omega
theorem y0k.unique {a y m d y' m' d':Int} (h:y0k a y m d) (h':y0k a y' m' d'):y=y'∧m=m'∧d=d':=by
 obtain⟨hy,hm1,hm2,hd1,hd2,ha⟩:=h
 obtain⟨hy',hm1',hm2',hd1',hd2',ha'⟩:=h'
 have e1:=yjx (l:=yhb y) hm1 hm2
 have e1':=yjx (l:=yhb y') hm1' hm2'
 have l1:=yrl y hy
 have l1':=yrl y' hy'
 have hyy:y=y':=by
  by_cases h1:y<y'
  ·have:=ynx (y+1) y' (by omega)
   cases hl:yhb y<;>cases hl':yhb y'<;>simp only[hl,hl',cond_true,cond_false]at * <;> omega
  ·by_cases h2:y'<y
   ·have:=ynx (y'+1) y (by omega)
    cases hl:yhb y<;>cases hl':yhb y'<;>simp only[hl,hl',cond_true,cond_false]at * <;> omega
   ·omega
 subst hyy
 have hmm:m=m':=by
  by_cases h1:m<m'
  ·have:=ybq (yhb y) ⟨m.toNat,by omega⟩ ⟨m'.toNat,by omega⟩ (by show 1≤m.toNat;omega) (by show m.toNat<m'.toNat;omega)
   have h3:mbD (yhb y) m.toNat+mdD (yhb y) m.toNat≤mbD (yhb y) m'.toNat:=this
   omega
  ·by_cases h2:m'<m
   ·have:=ybq (yhb y) ⟨m'.toNat,by omega⟩ ⟨m.toNat,by omega⟩ (by show 1≤m'.toNat;omega) (by show m'.toNat<m.toNat;omega)
    have h3:mbD (yhb y) m'.toNat+mdD (yhb y) m'.toNat≤mbD (yhb y) m.toNat:=this
    omega
   ·omega
 subst hmm
 exact⟨rfl,rfl,by omega⟩
theorem yig {ρ σ:Type} {body:σ→Except ρ σ} {I:σ→Prop} {Q:ρ→Prop} {M:σ→Nat} (hi:∀ s,I s→match body s with|.error r=>Q r|.ok t=>I t∧M t<M s) :
  ∀ (k:Nat) (s:σ),I s→M s<k→∃ r,ynb body k s=.error r∧Q r
 | 0,s,h,hk=>by omega
 | k+1,s,h,hk=>by
  have:=hi s h
  simp only[ynb]
  cases hb:body s with
  | error r=>simp only[hb]at this ⊢;exact⟨r,rfl,this⟩
  | ok t=>simp only[hb]at this ⊢;exact yig hi k t this.1 (by omega)
end Go.Ab

namespace Go.Ab
open Go Go.Proofs
def zrd (a0:(List UInt8)) (a1:Int):(List UInt8):=Go.Lib.repeatL a0 a1.toNat
theorem y52 (a0:(List UInt8)) (a1:Int) (hp0:0≤a1) (hp1:a1≤9223372036854775807) (hp2:a0.length * a1.toNat≤140737488355328):Den Tryz.prog 222 [.str a0,.int .i64 a1] (.str (zrd a0 a1)):=by
 obtain⟨c,rfl⟩:∃ c:Nat,a1=c:=⟨a1.toNat,by omega⟩
 refine Den.plain ⟨_,Tryz.func222,rfl,rfl⟩ (by simp[NoOwnL,NoOwn]) ?_
 intro w M vs hI hr
 simp only[RepL]at hr
 obtain⟨u0,us0,f0,g0,rfl,h0e,h0,u1,us1,f1,g1,rfl,h1e,h1,rfl,_⟩:=hr
 have e0:=h0.val_str
 have e1:=h1.val_int
 subst e0 e1
 have hsz:(⟨a0.toArray⟩:ByteArray).size=a0.length:=by simp[ByteArray.size]
 refine(Any.strings_Repeat Tryz.lays105 Tryz.Builder_Extra_105 ⟨a0.toArray⟩ c w (by omega) (by rw[hsz];simpa using hp2)).mono ?_
 rintro e w' ⟨rfl,hB⟩
 exact⟨_,rfl,yjk hB,fun M'=>ybc _ (by unfold zrd;rw[y3i];simp only[Int.toNat_natCast]at hp2;unfold maxLen;show a0.length * c≤_;omega)⟩
def D_zrd : DF
 | [x0,x1]=>some (.str (zrd (rdS x0) (rdI x1)),false,[wS x0,wI .i64 x1,0≤(rdI x1),(rdI x1)≤9223372036854775807,(rdS x0).length * (rdI x1).toNat≤140737488355328])
 | _=>none
theorem yu1:OkD Tryz.prog 222 D_zrd:=by
 intro xs r z ob h ho
 unfold D_zrd at h
 split at h
 ·simp only[Option.some.injEq,Prod.mk.injEq]at h
  obtain⟨rfl,rfl,rfl⟩:=h
  obtain⟨h0,h1,hp0,hp1,hp2,_⟩:=ho
  exact Den.sim (y52 _ _ hp0 hp1 hp2) (yfb (y2c h0).1 <| yfb (yxe h1).1 <| trivial) (yjb (y2c h0).2 <| yjb (yxe h1).2 <| rfl) rfl
 ·cases h
end Go.Ab

namespace Go.Ab
open Go Go.Proofs
theorem yqm (a:List UInt8) (c:Int):(zrd a c).length=a.length * c.toNat:=by
 unfold zrd
 rw[y3i]
end Go.Ab


namespace Go.Ab
open Go Go.Proofs
def yzw (v:Mark):Prop:=v.Colors.length≤1048576∧v.Shape.length≤1048576∧v.Topmark.length≤1048576
theorem y9v (v:Mark) (h:yzw v):bdMark v:=⟨Nat.lt_of_le_of_lt h.1 (by decide),Nat.lt_of_le_of_lt h.2.1 (by decide),Nat.lt_of_le_of_lt h.2.2 (by decide)⟩
def ykf (v:Character):Prop:=v.Group.length≤1048576∧v.Letter.length≤1048576∧v.Colors.length≤1048576
theorem yek (v:Character) (h:ykf v):bdCharacter v:=⟨Nat.lt_of_le_of_lt h.1 (by decide),Nat.lt_of_le_of_lt h.2.1 (by decide),Nat.lt_of_le_of_lt h.2.2 (by decide)⟩
def ykg (v:Sector):Prop:=v.Color.length≤1048576
theorem yvq (v:Sector) (h:ykg v):bdSector v:=Nat.lt_of_le_of_lt h (by decide)
def yfp (v:Aid):Prop:=v.Name.length≤1048576∧yzw v.Mark∧ykf v.Light∧(v.Sectors.length≤1048576∧∀ y∈v.Sectors,ykg y)
theorem yki (v:Aid) (h:yfp v):bdAid v:=⟨Nat.lt_of_le_of_lt h.1 (by decide),y9v _ h.2.1,yek _ h.2.2.1,⟨Nat.lt_of_le_of_lt h.2.2.2.1 (by decide),fun y hy=>yvq _ (h.2.2.2.2 y hy)⟩⟩
def y2l (v:Notice):Prop:=yfp v.Aid
theorem yfq (v:Notice) (h:y2l v):bdNotice v:=yki _ h
def yzi (v:Edition):Prop:=(v.Aids.length≤1048576∧∀ y∈v.Aids,yfp y)
theorem y4o (v:Edition) (h:yzi v):bdEdition v:=⟨Nat.lt_of_le_of_lt h.1 (by decide),fun y hy=>yki _ (h.2 y hy)⟩
end Go.Ab

namespace Go.Ab
open Go Go.Proofs
theorem ymh (x:Int):IntKind.wrap .i64 x≤9223372036854775807:=by rw[IntKind.wrap_i64];omega
theorem y5y {α:Type} [Inhabited α] {l:List α} {i:Nat} {x:α} (h:i<l.length):(l.set i x).getD i default=x:=by
 rw[ywd,if_pos ⟨rfl,h⟩]
theorem y9w {α:Type} [Inhabited α] {l:List α} {i j:Nat} {x:α} (h:¬ j=i):(l.set i x).getD j default=l.getD j default:=by
 rw[ywd,if_neg (fun hh=>h hh.1)]
theorem beqF {i j:Nat} (h:¬ j=i):(j == i)=false∧Nat.beq j i=false:=by
 have:(j == i)=false:=by simp[h]
 refine⟨this,?_⟩
 cases hb:Nat.beq j i with
 | true=>exact absurd (Nat.eq_of_beq_eq_true hb) h
 | false=>rfl
theorem mrg {p:Prop} (h:p:=by(and_intros<;>first|trivial|assumption|omega|exact ymh _|(simp only[List.length_set];omega)|exact hW1.1|exact hW1.2|(simp only[IntKind.wrap_i64];omega));first|done|fail):p:=h
end Go.Ab

namespace Go.Ab
open Go Go.Proofs Go.Deep Go.ChangeShapes Go.WideShapes Go.ChangeAt Go.RowKit
set_option maxRecDepth 100000
theorem yu5:Rd Tryz.prog 49 ePoint:=by
 intro H enc W base sp hd fuel cs x h
 obtain⟨hl,hf⟩:=y7c Tryz.underlying49 h
 have e0:Tryz.prog.cellsOf 49=2:=by kernel_rfl
 rw[e0]at hl
 obtain⟨n0,y0,g0⟩:=hf 0 _ rfl
 have c0:Tryz.prog.cellsOf 2=1:=by kernel_rfl
 obtain⟨v0,r0,o0⟩:=(ypc (k:=.i64) Tryz.underlying2) g0
 replace r0:RepL W (fun _=>False) ([.int .i64 v0]) yg ((cs.drop 0).take (Tryz.prog.cellsOf 2)) []:=r0
 replace o0:∀ u∈(cs.drop 0).take (Tryz.prog.cellsOf 2),u.oneCell'=true:=o0
 rw[c0]at r0 o0
 obtain⟨n1,y1,g1⟩:=hf 1 _ rfl
 have c1:Tryz.prog.cellsOf 2=1:=by kernel_rfl
 obtain⟨v1,r1,o1⟩:=(ypc (k:=.i64) Tryz.underlying2) g1
 replace r1:RepL W (fun _=>False) ([.int .i64 v1]) yg ((cs.drop 1).take (Tryz.prog.cellsOf 2)) []:=r1
 replace o1:∀ u∈(cs.drop 1).take (Tryz.prog.cellsOf 2),u.oneCell'=true:=o1
 rw[c1]at r1 o1
 refine⟨⟨v0,v1⟩,?_,?_⟩
 ·exact yt (o:=0) (k:=1) r0 (yt (o:=1) (k:=1) r1 (ynf (o:=2) (by omega)))
 ·exact yr (o:=0) (k:=1) o0 (yr (o:=1) (k:=1) o1 (yqf (o:=2) (by omega)))
theorem ys5:Rd Tryz.prog 50 eMark:=by
 intro H enc W base sp hd fuel cs x h
 obtain⟨hl,hf⟩:=y7c Tryz.underlying50 h
 have e0:Tryz.prog.cellsOf 50=4:=by kernel_rfl
 rw[e0]at hl
 obtain⟨n0,y0,g0⟩:=hf 0 _ rfl
 have c0:Tryz.prog.cellsOf 2=1:=by kernel_rfl
 obtain⟨v0,r0,o0⟩:=(ypc (k:=.i64) Tryz.underlying2) g0
 replace r0:RepL W (fun _=>False) ([.int .i64 v0]) yg ((cs.drop 0).take (Tryz.prog.cellsOf 2)) []:=r0
 replace o0:∀ u∈(cs.drop 0).take (Tryz.prog.cellsOf 2),u.oneCell'=true:=o0
 rw[c0]at r0 o0
 obtain⟨n1,y1,g1⟩:=hf 1 _ rfl
 have c1:Tryz.prog.cellsOf 9=1:=by kernel_rfl
 obtain⟨v1,r1,o1⟩:=(yfj Tryz.underlying9) g1
 replace r1:RepL W (fun _=>False) ([.str v1]) yg ((cs.drop 1).take (Tryz.prog.cellsOf 9)) []:=r1
 replace o1:∀ u∈(cs.drop 1).take (Tryz.prog.cellsOf 9),u.oneCell'=true:=o1
 rw[c1]at r1 o1
 obtain⟨n2,y2,g2⟩:=hf 2 _ rfl
 have c2:Tryz.prog.cellsOf 9=1:=by kernel_rfl
 obtain⟨v2,r2,o2⟩:=(yfj Tryz.underlying9) g2
 replace r2:RepL W (fun _=>False) ([.str v2]) yg ((cs.drop 2).take (Tryz.prog.cellsOf 9)) []:=r2
 replace o2:∀ u∈(cs.drop 2).take (Tryz.prog.cellsOf 9),u.oneCell'=true:=o2
 rw[c2]at r2 o2
 obtain⟨n3,y3,g3⟩:=hf 3 _ rfl
 have c3:Tryz.prog.cellsOf 9=1:=by kernel_rfl
 obtain⟨v3,r3,o3⟩:=(yfj Tryz.underlying9) g3
 replace r3:RepL W (fun _=>False) ([.str v3]) yg ((cs.drop 3).take (Tryz.prog.cellsOf 9)) []:=r3
 replace o3:∀ u∈(cs.drop 3).take (Tryz.prog.cellsOf 9),u.oneCell'=true:=o3
 rw[c3]at r3 o3
 refine⟨⟨v0,v1,v2,v3⟩,?_,?_⟩
 ·exact yt (o:=0) (k:=1) r0 (yt (o:=1) (k:=1) r1 (yt (o:=2) (k:=1) r2 (yt (o:=3) (k:=1) r3 (ynf (o:=4) (by omega)))))
 ·exact yr (o:=0) (k:=1) o0 (yr (o:=1) (k:=1) o1 (yr (o:=2) (k:=1) o2 (yr (o:=3) (k:=1) o3 (yqf (o:=4) (by omega)))))
theorem yv5:Rd Tryz.prog 34 (fun l:List Int=>[encL 1 yp l]):=yhm Tryz.underlying34 (by kernel_rfl) (by decide) (ypc (k:=.i64) Tryz.underlying2)
theorem y25:Rd Tryz.prog 51 eCharacter:=by
 intro H enc W base sp hd fuel cs x h
 obtain⟨hl,hf⟩:=y7c Tryz.underlying51 h
 have e0:Tryz.prog.cellsOf 51=5:=by kernel_rfl
 rw[e0]at hl
 obtain⟨n0,y0,g0⟩:=hf 0 _ rfl
 have c0:Tryz.prog.cellsOf 2=1:=by kernel_rfl
 obtain⟨v0,r0,o0⟩:=(ypc (k:=.i64) Tryz.underlying2) g0
 replace r0:RepL W (fun _=>False) ([.int .i64 v0]) yg ((cs.drop 0).take (Tryz.prog.cellsOf 2)) []:=r0
 replace o0:∀ u∈(cs.drop 0).take (Tryz.prog.cellsOf 2),u.oneCell'=true:=o0
 rw[c0]at r0 o0
 obtain⟨n1,y1,g1⟩:=hf 1 _ rfl
 have c1:Tryz.prog.cellsOf 34=1:=by kernel_rfl
 obtain⟨v1,r1,o1⟩:=yv5 g1
 replace r1:RepL W (fun _=>False) ([encL 1 yp v1]) yg ((cs.drop 1).take (Tryz.prog.cellsOf 34)) []:=r1
 replace o1:∀ u∈(cs.drop 1).take (Tryz.prog.cellsOf 34),u.oneCell'=true:=o1
 rw[c1]at r1 o1
 obtain⟨n2,y2,g2⟩:=hf 2 _ rfl
 have c2:Tryz.prog.cellsOf 9=1:=by kernel_rfl
 obtain⟨v2,r2,o2⟩:=(yfj Tryz.underlying9) g2
 replace r2:RepL W (fun _=>False) ([.str v2]) yg ((cs.drop 2).take (Tryz.prog.cellsOf 9)) []:=r2
 replace o2:∀ u∈(cs.drop 2).take (Tryz.prog.cellsOf 9),u.oneCell'=true:=o2
 rw[c2]at r2 o2
 obtain⟨n3,y3,g3⟩:=hf 3 _ rfl
 have c3:Tryz.prog.cellsOf 9=1:=by kernel_rfl
 obtain⟨v3,r3,o3⟩:=(yfj Tryz.underlying9) g3
 replace r3:RepL W (fun _=>False) ([.str v3]) yg ((cs.drop 3).take (Tryz.prog.cellsOf 9)) []:=r3
 replace o3:∀ u∈(cs.drop 3).take (Tryz.prog.cellsOf 9),u.oneCell'=true:=o3
 rw[c3]at r3 o3
 obtain⟨n4,y4,g4⟩:=hf 4 _ rfl
 have c4:Tryz.prog.cellsOf 2=1:=by kernel_rfl
 obtain⟨v4,r4,o4⟩:=(ypc (k:=.i64) Tryz.underlying2) g4
 replace r4:RepL W (fun _=>False) ([.int .i64 v4]) yg ((cs.drop 4).take (Tryz.prog.cellsOf 2)) []:=r4
 replace o4:∀ u∈(cs.drop 4).take (Tryz.prog.cellsOf 2),u.oneCell'=true:=o4
 rw[c4]at r4 o4
 refine⟨⟨v0,v1,v2,v3,v4⟩,?_,?_⟩
 ·exact yt (o:=0) (k:=1) r0 (yt (o:=1) (k:=1) r1 (yt (o:=2) (k:=1) r2 (yt (o:=3) (k:=1) r3 (yt (o:=4) (k:=1) r4 (ynf (o:=5) (by omega))))))
 ·exact yr (o:=0) (k:=1) o0 (yr (o:=1) (k:=1) o1 (yr (o:=2) (k:=1) o2 (yr (o:=3) (k:=1) o3 (yr (o:=4) (k:=1) o4 (yqf (o:=5) (by omega))))))
theorem ya5:Rd Tryz.prog 223 eSector:=by
 intro H enc W base sp hd fuel cs x h
 obtain⟨hl,hf⟩:=y7c Tryz.underlying223 h
 have e0:Tryz.prog.cellsOf 223=3:=by kernel_rfl
 rw[e0]at hl
 obtain⟨n0,y0,g0⟩:=hf 0 _ rfl
 have c0:Tryz.prog.cellsOf 2=1:=by kernel_rfl
 obtain⟨v0,r0,o0⟩:=(ypc (k:=.i64) Tryz.underlying2) g0
 replace r0:RepL W (fun _=>False) ([.int .i64 v0]) yg ((cs.drop 0).take (Tryz.prog.cellsOf 2)) []:=r0
 replace o0:∀ u∈(cs.drop 0).take (Tryz.prog.cellsOf 2),u.oneCell'=true:=o0
 rw[c0]at r0 o0
 obtain⟨n1,y1,g1⟩:=hf 1 _ rfl
 have c1:Tryz.prog.cellsOf 2=1:=by kernel_rfl
 obtain⟨v1,r1,o1⟩:=(ypc (k:=.i64) Tryz.underlying2) g1
 replace r1:RepL W (fun _=>False) ([.int .i64 v1]) yg ((cs.drop 1).take (Tryz.prog.cellsOf 2)) []:=r1
 replace o1:∀ u∈(cs.drop 1).take (Tryz.prog.cellsOf 2),u.oneCell'=true:=o1
 rw[c1]at r1 o1
 obtain⟨n2,y2,g2⟩:=hf 2 _ rfl
 have c2:Tryz.prog.cellsOf 9=1:=by kernel_rfl
 obtain⟨v2,r2,o2⟩:=(yfj Tryz.underlying9) g2
 replace r2:RepL W (fun _=>False) ([.str v2]) yg ((cs.drop 2).take (Tryz.prog.cellsOf 9)) []:=r2
 replace o2:∀ u∈(cs.drop 2).take (Tryz.prog.cellsOf 9),u.oneCell'=true:=o2
 rw[c2]at r2 o2
 refine⟨⟨v0,v1,v2⟩,?_,?_⟩
 ·exact yt (o:=0) (k:=1) r0 (yt (o:=1) (k:=1) r1 (yt (o:=2) (k:=1) r2 (ynf (o:=3) (by omega))))
 ·exact yr (o:=0) (k:=1) o0 (yr (o:=1) (k:=1) o1 (yr (o:=2) (k:=1) o2 (yqf (o:=3) (by omega))))
theorem yt5:Rd Tryz.prog 52 (fun l:List Sector=>[encL 3 eSector l]):=yhm Tryz.underlying52 (by kernel_rfl) (by decide) ya5
theorem yv3:Rd Tryz.prog 54 eAid:=by
 intro H enc W base sp hd fuel cs x h
 obtain⟨hl,hf⟩:=y7c Tryz.underlying54 h
 have e0:Tryz.prog.cellsOf 54=16:=by kernel_rfl
 rw[e0]at hl
 obtain⟨n0,y0,g0⟩:=hf 0 _ rfl
 have c0:Tryz.prog.cellsOf 2=1:=by kernel_rfl
 obtain⟨v0,r0,o0⟩:=(ypc (k:=.i64) Tryz.underlying2) g0
 replace r0:RepL W (fun _=>False) ([.int .i64 v0]) yg ((cs.drop 0).take (Tryz.prog.cellsOf 2)) []:=r0
 replace o0:∀ u∈(cs.drop 0).take (Tryz.prog.cellsOf 2),u.oneCell'=true:=o0
 rw[c0]at r0 o0
 obtain⟨n1,y1,g1⟩:=hf 1 _ rfl
 have c1:Tryz.prog.cellsOf 9=1:=by kernel_rfl
 obtain⟨v1,r1,o1⟩:=(yfj Tryz.underlying9) g1
 replace r1:RepL W (fun _=>False) ([.str v1]) yg ((cs.drop 1).take (Tryz.prog.cellsOf 9)) []:=r1
 replace o1:∀ u∈(cs.drop 1).take (Tryz.prog.cellsOf 9),u.oneCell'=true:=o1
 rw[c1]at r1 o1
 obtain⟨n2,y2,g2⟩:=hf 2 _ rfl
 have c2:Tryz.prog.cellsOf 49=2:=by kernel_rfl
 obtain⟨v2,r2,o2⟩:=yu5 g2
 replace r2:RepL W (fun _=>False) (ePoint v2) yg ((cs.drop 2).take (Tryz.prog.cellsOf 49)) []:=r2
 replace o2:∀ u∈(cs.drop 2).take (Tryz.prog.cellsOf 49),u.oneCell'=true:=o2
 rw[c2]at r2 o2
 obtain⟨n3,y3,g3⟩:=hf 3 _ rfl
 have c3:Tryz.prog.cellsOf 2=1:=by kernel_rfl
 obtain⟨v3,r3,o3⟩:=(ypc (k:=.i64) Tryz.underlying2) g3
 replace r3:RepL W (fun _=>False) ([.int .i64 v3]) yg ((cs.drop 4).take (Tryz.prog.cellsOf 2)) []:=r3
 replace o3:∀ u∈(cs.drop 4).take (Tryz.prog.cellsOf 2),u.oneCell'=true:=o3
 rw[c3]at r3 o3
 obtain⟨n4,y4,g4⟩:=hf 4 _ rfl
 have c4:Tryz.prog.cellsOf 50=4:=by kernel_rfl
 obtain⟨v4,r4,o4⟩:=ys5 g4
 replace r4:RepL W (fun _=>False) (eMark v4) yg ((cs.drop 5).take (Tryz.prog.cellsOf 50)) []:=r4
 replace o4:∀ u∈(cs.drop 5).take (Tryz.prog.cellsOf 50),u.oneCell'=true:=o4
 rw[c4]at r4 o4
 obtain⟨n5,y5,g5⟩:=hf 5 _ rfl
 have c5:Tryz.prog.cellsOf 51=5:=by kernel_rfl
 obtain⟨v5,r5,o5⟩:=y25 g5
 replace r5:RepL W (fun _=>False) (eCharacter v5) yg ((cs.drop 9).take (Tryz.prog.cellsOf 51)) []:=r5
 replace o5:∀ u∈(cs.drop 9).take (Tryz.prog.cellsOf 51),u.oneCell'=true:=o5
 rw[c5]at r5 o5
 obtain⟨n6,y6,g6⟩:=hf 6 _ rfl
 have c6:Tryz.prog.cellsOf 52=1:=by kernel_rfl
 obtain⟨v6,r6,o6⟩:=yt5 g6
 replace r6:RepL W (fun _=>False) ([encL 3 eSector v6]) yg ((cs.drop 14).take (Tryz.prog.cellsOf 52)) []:=r6
 replace o6:∀ u∈(cs.drop 14).take (Tryz.prog.cellsOf 52),u.oneCell'=true:=o6
 rw[c6]at r6 o6
 obtain⟨n7,y7,g7⟩:=hf 7 _ rfl
 have c7:Tryz.prog.cellsOf 2=1:=by kernel_rfl
 obtain⟨v7,r7,o7⟩:=(ypc (k:=.i64) Tryz.underlying2) g7
 replace r7:RepL W (fun _=>False) ([.int .i64 v7]) yg ((cs.drop 15).take (Tryz.prog.cellsOf 2)) []:=r7
 replace o7:∀ u∈(cs.drop 15).take (Tryz.prog.cellsOf 2),u.oneCell'=true:=o7
 rw[c7]at r7 o7
 refine⟨⟨v0,v1,v2,v3,v4,v5,v6,v7⟩,?_,?_⟩
 ·exact yt (o:=0) (k:=1) r0 (yt (o:=1) (k:=1) r1 (yt (o:=2) (k:=2) r2 (yt (o:=4) (k:=1) r3 (yt (o:=5) (k:=4) r4 (yt (o:=9) (k:=5) r5 (yt (o:=14) (k:=1) r6 (yt (o:=15) (k:=1) r7 (ynf (o:=16) (by omega)))))))))
 ·exact yr (o:=0) (k:=1) o0 (yr (o:=1) (k:=1) o1 (yr (o:=2) (k:=2) o2 (yr (o:=4) (k:=1) o3 (yr (o:=5) (k:=4) o4 (yr (o:=9) (k:=5) o5 (yr (o:=14) (k:=1) o6 (yr (o:=15) (k:=1) o7 (yqf (o:=16) (by omega)))))))))
theorem yw4:Rd Tryz.prog 64 (fun l:List Aid=>[encL 16 eAid l]):=yhm Tryz.underlying64 (by kernel_rfl) (by decide) yv3
theorem yx5:Rd Tryz.prog 77 eNotice:=by
 intro H enc W base sp hd fuel cs x h
 obtain⟨hl,hf⟩:=y7c Tryz.underlying77 h
 have e0:Tryz.prog.cellsOf 77=20:=by kernel_rfl
 rw[e0]at hl
 obtain⟨n0,y0,g0⟩:=hf 0 _ rfl
 have c0:Tryz.prog.cellsOf 2=1:=by kernel_rfl
 obtain⟨v0,r0,o0⟩:=(ypc (k:=.i64) Tryz.underlying2) g0
 replace r0:RepL W (fun _=>False) ([.int .i64 v0]) yg ((cs.drop 0).take (Tryz.prog.cellsOf 2)) []:=r0
 replace o0:∀ u∈(cs.drop 0).take (Tryz.prog.cellsOf 2),u.oneCell'=true:=o0
 rw[c0]at r0 o0
 obtain⟨n1,y1,g1⟩:=hf 1 _ rfl
 have c1:Tryz.prog.cellsOf 2=1:=by kernel_rfl
 obtain⟨v1,r1,o1⟩:=(ypc (k:=.i64) Tryz.underlying2) g1
 replace r1:RepL W (fun _=>False) ([.int .i64 v1]) yg ((cs.drop 1).take (Tryz.prog.cellsOf 2)) []:=r1
 replace o1:∀ u∈(cs.drop 1).take (Tryz.prog.cellsOf 2),u.oneCell'=true:=o1
 rw[c1]at r1 o1
 obtain⟨n2,y2,g2⟩:=hf 2 _ rfl
 have c2:Tryz.prog.cellsOf 2=1:=by kernel_rfl
 obtain⟨v2,r2,o2⟩:=(ypc (k:=.i64) Tryz.underlying2) g2
 replace r2:RepL W (fun _=>False) ([.int .i64 v2]) yg ((cs.drop 2).take (Tryz.prog.cellsOf 2)) []:=r2
 replace o2:∀ u∈(cs.drop 2).take (Tryz.prog.cellsOf 2),u.oneCell'=true:=o2
 rw[c2]at r2 o2
 obtain⟨n3,y3,g3⟩:=hf 3 _ rfl
 have c3:Tryz.prog.cellsOf 2=1:=by kernel_rfl
 obtain⟨v3,r3,o3⟩:=(ypc (k:=.i64) Tryz.underlying2) g3
 replace r3:RepL W (fun _=>False) ([.int .i64 v3]) yg ((cs.drop 3).take (Tryz.prog.cellsOf 2)) []:=r3
 replace o3:∀ u∈(cs.drop 3).take (Tryz.prog.cellsOf 2),u.oneCell'=true:=o3
 rw[c3]at r3 o3
 obtain⟨n4,y4,g4⟩:=hf 4 _ rfl
 have c4:Tryz.prog.cellsOf 54=16:=by kernel_rfl
 obtain⟨v4,r4,o4⟩:=yv3 g4
 replace r4:RepL W (fun _=>False) (eAid v4) yg ((cs.drop 4).take (Tryz.prog.cellsOf 54)) []:=r4
 replace o4:∀ u∈(cs.drop 4).take (Tryz.prog.cellsOf 54),u.oneCell'=true:=o4
 rw[c4]at r4 o4
 refine⟨⟨v0,v1,v2,v3,v4⟩,?_,?_⟩
 ·exact yt (o:=0) (k:=1) r0 (yt (o:=1) (k:=1) r1 (yt (o:=2) (k:=1) r2 (yt (o:=3) (k:=1) r3 (yt (o:=4) (k:=16) r4 (ynf (o:=20) (by omega))))))
 ·exact yr (o:=0) (k:=1) o0 (yr (o:=1) (k:=1) o1 (yr (o:=2) (k:=1) o2 (yr (o:=3) (k:=1) o3 (yr (o:=4) (k:=16) o4 (yqf (o:=20) (by omega))))))
theorem yq5:Rd Tryz.prog 86 eEdition:=by
 intro H enc W base sp hd fuel cs x h
 obtain⟨hl,hf⟩:=y7c Tryz.underlying86 h
 have e0:Tryz.prog.cellsOf 86=3:=by kernel_rfl
 rw[e0]at hl
 obtain⟨n0,y0,g0⟩:=hf 0 _ rfl
 have c0:Tryz.prog.cellsOf 2=1:=by kernel_rfl
 obtain⟨v0,r0,o0⟩:=(ypc (k:=.i64) Tryz.underlying2) g0
 replace r0:RepL W (fun _=>False) ([.int .i64 v0]) yg ((cs.drop 0).take (Tryz.prog.cellsOf 2)) []:=r0
 replace o0:∀ u∈(cs.drop 0).take (Tryz.prog.cellsOf 2),u.oneCell'=true:=o0
 rw[c0]at r0 o0
 obtain⟨n1,y1,g1⟩:=hf 1 _ rfl
 have c1:Tryz.prog.cellsOf 2=1:=by kernel_rfl
 obtain⟨v1,r1,o1⟩:=(ypc (k:=.i64) Tryz.underlying2) g1
 replace r1:RepL W (fun _=>False) ([.int .i64 v1]) yg ((cs.drop 1).take (Tryz.prog.cellsOf 2)) []:=r1
 replace o1:∀ u∈(cs.drop 1).take (Tryz.prog.cellsOf 2),u.oneCell'=true:=o1
 rw[c1]at r1 o1
 obtain⟨n2,y2,g2⟩:=hf 2 _ rfl
 have c2:Tryz.prog.cellsOf 64=1:=by kernel_rfl
 obtain⟨v2,r2,o2⟩:=yw4 g2
 replace r2:RepL W (fun _=>False) ([encL 16 eAid v2]) yg ((cs.drop 2).take (Tryz.prog.cellsOf 64)) []:=r2
 replace o2:∀ u∈(cs.drop 2).take (Tryz.prog.cellsOf 64),u.oneCell'=true:=o2
 rw[c2]at r2 o2
 refine⟨⟨v0,v1,v2⟩,?_,?_⟩
 ·exact yt (o:=0) (k:=1) r0 (yt (o:=1) (k:=1) r1 (yt (o:=2) (k:=1) r2 (ynf (o:=3) (by omega))))
 ·exact yr (o:=0) (k:=1) o0 (yr (o:=1) (k:=1) o1 (yr (o:=2) (k:=1) o2 (yqf (o:=3) (by omega))))
end Go.Ab
