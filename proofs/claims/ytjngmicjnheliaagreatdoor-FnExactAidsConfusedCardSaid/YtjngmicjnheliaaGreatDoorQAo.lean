/- A part of a proof: walks of functions and lemmas of our own. No conditions. -/
import Derived.Test.YtjngmicjnheliaaGreatDoorQAn
import Derived.Test.YtjngmicjnheliaaGreatDoorQAm
import Derived.Lib.ItoaNum
import Derived.Test.YtjngmicjnheliaaGreatDoorQAl
import Derived.Lib.Join
import Derived.Test.YtjngmicjnheliaaGreatDoorQAi
import Derived.Shelf.Strings.Fields
import Derived.Test.YtjngmicjnheliaaGreatDoorQAj
import Derived.Test.YtjngmicjnheliaaGreatDoorRows
set_option linter.unusedSectionVars false
set_option linter.unusedVariables false
set_option linter.unusedSimpArgs false
set_option maxHeartbeats 1000000



namespace Go.Ab
open Go Go.Proofs
theorem ydk {l:List Int} (h:∀ v∈l,v<=9) (i:Nat):l.getD i default<=9:=by
 rw[List.getD_eq_getElem?_getD]
 cases hg:l[i]? with
 | none=>show(0:Int)<=9;omega
 | some x=>have:=h x (List.mem_of_getElem? hg);simpa only[Option.getD_some]
theorem yfu {l:List Int} (h:∀ v∈l,1<=v/\v<=9) (i:Nat):0<=l.getD i default/\l.getD i default<=9:=by
 rw[List.getD_eq_getElem?_getD]
 cases hg:l[i]? with
 | none=>show(0:Int)<=0/\(0:Int)<=9;omega
 | some x=>have:=h x (List.mem_of_getElem? hg);simp only[Option.getD_some];omega
end Go.Ab
namespace Go.Ab
open Go
theorem yrg (s:List Int) (a b:Int) (i:Nat) (hi:i<s.length+2):(bif i.blt s.length then[AV.int .i64 (s.getD i default)]else borrowL (elt [[AV.int .i64 a],[AV.int .i64 b]] (i-s.length)))=[AV.int .i64 ((s++[a,b]).getD i default)]:=by
 by_cases h:i<s.length
 ·have:i.blt s.length=true:=by rw[Nat.blt_eq];exact h
  rw[this];simp[List.getD_eq_getElem?_getD,List.getElem?_append_left h]
 ·have:i.blt s.length=false:=by rw[<- Bool.not_eq_true,Nat.blt_eq];exact h
  rw[this];rcases(show i=s.length\/i=s.length+1 by omega)with h1|h1
  ·subst h1
   simp[elt,borrowL,borrow,List.getD_eq_getElem?_getD]
  ·subst h1
   simp[elt,borrowL,borrow,List.getD_eq_getElem?_getD]
theorem ygk (s:List Int) (a:Int) (i:Nat) (hi:i<s.length+1):(bif i.blt s.length then[AV.int .i64 (s.getD i default)]else borrowL (elt [[AV.int .i64 a]] (i-s.length)))=[AV.int .i64 ((s++[a]).getD i default)]:=by
 by_cases h:i<s.length
 ·have:i.blt s.length=true:=by rw[Nat.blt_eq];exact h
  rw[this];simp[List.getD_eq_getElem?_getD,List.getElem?_append_left h]
 ·have:i.blt s.length=false:=by rw[<- Bool.not_eq_true,Nat.blt_eq];exact h
  rw[this];have h1:i=s.length:=by omega
  subst h1;simp[elt,borrowL,borrow,List.getD_eq_getElem?_getD]
theorem y5k (s:List Int) (a b:Int) (i:Nat) (hi:i<s.length+1+1):(bif i.blt (s.length+1)then bif i.blt s.length then[AV.int .i64 (s.getD i default)]else borrowL (elt [[AV.int .i64 a]] (i-s.length))else borrowL (elt [[AV.int .i64 b]] (i-(s.length+1))))=[AV.int .i64 ((s++[a]++[b]).getD i default)]:=by
 by_cases h:i<s.length+1
 ·have:i.blt (s.length+1)=true:=by rw[Nat.blt_eq];exact h
  rw[this,cond_true];refine(ygk s a i h).trans ?_;rw[List.getD_eq_getElem?_getD,List.getD_eq_getElem?_getD,List.getElem?_append_left (l₁:=s++[a]) (l₂:=[b]) (by simpa using h)]
 ·have:i.blt (s.length+1)=false:=by rw[<- Bool.not_eq_true,Nat.blt_eq];exact h
  rw[this];have h1:i=s.length+1:=by omega
  subst h1;simp[elt,borrowL,borrow,List.getD_eq_getElem?_getD]
theorem yjl (s:List Int) (a b:Int) (i:Nat) (hi:i<s.length+2):(i.blt s.length || pureL (borrowL (elt [[AV.int .i64 a],[AV.int .i64 b]] (i-s.length))))=true:=by
 by_cases h:i<s.length
 ·have:i.blt s.length=true:=by rw[Nat.blt_eq];exact h
  rw[this];rfl
 ·rcases(show i-s.length=0\/i-s.length=1 by omega)with h1|h1<;>rw[h1]<;>simp[elt,borrowL,borrow,pureL,pureV]
end Go.Ab
namespace Go.Ab
theorem ybp {f : Nat -> Int} {n : Nat} (hs : ∀ i, i + 1 < n -> f i < f (i + 1)) : ∀ (d i : Nat), i + d + 1 < n -> f i < f (i + d + 1)
 | 0,i,h=>hs i h
 | d+1,i,h=>by
  have h1:=ybp hs d i (by omega);have h2:=hs (i+d+1) (by omega);have:i+(d+1)+1=i+d+1+1:=by omega
  rw[this];omega
theorem y6c {f:Nat->Int} {n:Nat} (hs:∀ i,i+1<n->f i<f (i+1)) {i k:Nat} (h:i<k) (hk:k<n):f i<f k:=by
 have:=ybp hs (k-i-1) i (by omega);rwa [show i+(k-i-1)+1=k by omega]at this
theorem yxp {f arc:Nat->Int} {n:Nat} (hf:∀ i,i<n->0<=f i/\f i<=359) (hs:∀ i,i+1<n->f i<f (i+1)) :
  (∀ i,i<n->∀ k,k<n->k≠i->arc i<=(f k-f i) % 360)↔(1<n->∀ i,i<n->arc i<=(f ((i+1) % n)-f i+360) % 360):=by
 constructor
 ·intro h hn i hi
  have hne:(i+1) % n≠i:=by
   by_cases h2:i+1<n
   ·rw[Nat.mod_eq_of_lt h2];omega
   ·have:i+1=n:=by omega
    rw[this,Nat.mod_self];omega
  have:=h i hi ((i+1) % n) (Nat.mod_lt _ (by omega)) hne;omega
 ·intro h i hi k hk hki
  have hn:1<n:=by omega
  have h1:=h hn i hi;have fi:=hf i hi;have fk:=hf k hk;by_cases h2:i+1<n
  ·rw[Nat.mod_eq_of_lt h2]at h1
   have g:=hs i h2;have fn:=hf (i+1) h2;have e1:(f (i+1)-f i+360) % 360=f (i+1)-f i:=by omega
   rw[e1]at h1;by_cases h3:i<k
   ·have:f (i+1)<=f k:=by
     by_cases h4:k=i+1
     ·rw[h4];omega
     ·have:=y6c hs (i:=i+1) (k:=k) (by omega) hk;omega
    have:(f k-f i) % 360=f k-f i:=by omega
    omega
   ·have:=y6c hs (i:=k) (k:=i) (by omega) hi
    have:(f k-f i) % 360=f k-f i+360:=by omega
    omega
  ·have hin:i+1=n:=by omega
   rw[hin,Nat.mod_self]at h1;have f0:=hf 0 (by omega);have g:=y6c hs (i:=0) (k:=i) (by omega) hi;have e1:(f 0-f i+360) % 360=f 0-f i+360:=by omega
   rw[e1]at h1
   have:f 0<=f k:=by
    by_cases h4:k=0
    ·rw[h4];omega
    ·have:=y6c hs (i:=0) (k:=k) (by omega) hk;omega
   have:=y6c hs (i:=k) (k:=i) (by omega) hi;have:(f k-f i) % 360=f k-f i+360:=by omega
   omega
theorem yhv {f arc S : Nat -> Int} {n : Nat} (hf : ∀ i, i < n -> 0 <= f i /\ f i <= 359) (hs : ∀ i, i + 1 < n -> f i < f (i + 1)) (ha : ∀ i, i < n -> 1 <= arc i /\ arc i <= 360)
  (h:1<n->∀ i,i<n->arc i<=(f ((i+1) % n)-f i+360) % 360) (h0:S 0=0) (hS:∀ i,i<n->S (i+1)=S i+arc i):S n<=360:=by
 by_cases hn:1<n
 ·have key:∀ j,j<n->S j<=f j-f 0:=by
   intro j
   induction j with
   | zero=>intro _;rw[h0];omega
   | succ j ih=>
    intro hj;have i1:=ih (by omega);have i2:=h hn j (by omega);rw[Nat.mod_eq_of_lt hj]at i2;have g:=hs j hj;have fj:=hf j (by omega);have fj1:=hf (j+1) hj;have e1:(f (j+1)-f j+360) % 360=f (j+1)-f j:=by omega
    rw[hS j (by omega)];omega
  have k1:=key (n-1) (by omega);have i2:=h hn (n-1) (by omega);rw[show n-1+1=n by omega,Nat.mod_self]at i2;have f0:=hf 0 (by omega);have fn:=hf (n-1) (by omega);have g:=y6c hs (i:=0) (k:=n-1) (by omega) (by omega);have e1:(f 0-f (n-1)+360) % 360=f 0-f (n-1)+360:=by omega
  have:=hS (n-1) (by omega);rw[show n-1+1=n by omega]at this;omega
 ·by_cases h1:n=1
  ·subst h1
   have:=hS 0 (by omega);have a0:=ha 0 (by omega);simp only[Nat.zero_add]at this;omega
  ·have:n=0:=by omega
   subst this;omega
end Go.Ab
namespace Go.Ab
open Go Go.Proofs
def zt (a0:(List UInt8)) (a1:(List UInt8)):Bool:=decide (0<=Go.Lib.indexByte a0 (a1.getD 0 0))
theorem ynz (a0:(List UInt8)) (a1:(List UInt8)) (hp0:a1.length=1):Den Tryz.prog 52 [.str a0,.str a1] (.bool (zt a0 a1)):=by
 obtain⟨c,rfl⟩:∃ c,a1=[c]:=List.length_eq_one_iff.1 hp0;refine Den.plain ⟨_,Tryz.func52,rfl,rfl⟩ (by simp[NoOwnL,NoOwn]) ?_;intro w M vs hI hr;simp only[RepL]at hr;obtain⟨u0,us0,f0,g0,rfl,h0e,h0,u1,us1,f1,g1,rfl,h1e,h1,rfl,_⟩:=hr;have e0:=h0.val_str;have e1:=h1.val_str;subst e0 e1;refine(Any.strings_Contains_one Tryz.lays144 ⟨a0.toArray⟩ c w).mono ?_;rintro e w' ⟨rfl,rfl⟩
 exact⟨_,rfl,Grow.refl _,fun M'=>ybc _⟩
def D_zt : DF
 | [x0,x1]=>some (.bool (zt (rdS x0) (rdS x1)),false,[wS x0,wS x1,(rdS x1).length=1])
 | _=>none
theorem y9j:OkD Tryz.prog 52 D_zt:=by
 intro xs r z ob h ho;unfold D_zt at h;split at h
 ·simp only[Option.some.injEq,Prod.mk.injEq]at h
  obtain⟨rfl,rfl,rfl⟩:=h;obtain⟨h0,h1,hp0,_⟩:=ho;exact Den.sim (ynz _ _ hp0) (yeb (yee h0).1 <| yeb (yee h1).1 <| trivial) (yfb (yee h0).2 <| yfb (yee h1).2 <| rfl) rfl
 ·cases h
theorem ytz {s n:Int} (h0:0<=s) (h1:s<n) (hn:n<9223372036854775808):0<=(IntKind.wrap .i64 (s+1)).tmod n/\(IntKind.wrap .i64 (s+1)).tmod n<n:=by
 have e:IntKind.wrap .i64 (s+1)=s+1:=by rw[IntKind.wrap_i64];omega
 rw[e,Int.tmod_eq_emod_of_nonneg (by omega)];exact⟨Int.emod_nonneg _ (by omega),Int.emod_lt_of_pos _ (by omega)⟩
theorem yvo {i:Nat} (h:i<4):(([87,82,71,89]:List UInt8).take (IntKind.wrap .i64 ((i:Int)+1)).toNat |>.drop i).length=1:=by
 rw[show(IntKind.wrap .i64 ((i:Int)+1)).toNat=i+1 from by rw[IntKind.wrap_i64];omega];rcases i with _|_|_|_|i<;>first|rfl|omega
theorem ybu (i:Nat):(([87,82,71,89]:List UInt8).take (IntKind.wrap .i64 ((i:Int)+1)).toNat |>.drop i).length<=1\/4<=i:=by
 by_cases h:i<4
 ·left;rw[yvo h];exact Nat.le_refl _
 ·right;omega
theorem y8s {l:List UInt8} (hl:l.length<1099511627776) (i:Nat):((l.take (IntKind.wrap .i64 ((i:Int)+1)).toNat).drop i).length<=1:=by
 rw[List.length_drop,List.length_take];by_cases h:i<l.length
 ·rw[show(IntKind.wrap .i64 ((i:Int)+1)).toNat=i+1 by rw[IntKind.wrap_i64];omega]
  omega
 ·omega
def ynm (a0:(List (List UInt8))) (a1:(List UInt8)) (i1:Nat) (s1:Unit):Except (Int) (Unit):=
 (bif (a1 == (a0.getD i1 default))then .error (i1:Int)else .ok ())
def zed (a0:(List (List UInt8))) (a1:(List UInt8)):Int:=
 (match yf (ynm a0 a1) (a0.length-0) 0 ()with|.error e=>e|.ok s1=>(-1))
namespace N108
theorem DD:DOk Tryz.prog (Go.Ab.DD []):=ye _
theorem den (a0:(List (List UInt8))) (a1:(List UInt8))  : Den Tryz.prog 108 [encL 1 eS a0,.str a1] (.int .i64 (zed a0 a1)):=by
 generalize hR:zed a0 a1=r;unfold zed at hR;refine di Tryz.func108 Tryz.ntmps108 Tryz.results108 ?_;intro c hL hc hk;obtain⟨hL0,hL1,_⟩:=hL;have hw0:a0.length<9223372036854775808:=Nat.lt_succ_of_le (yd hL0).1;have hw1:∀ v∈a0,bwS v:=fun v hv=>ydf v ((yd hL0).2 v hv)
 have hw2:a1.length<9223372036854775808:=Nat.lt_succ_of_le hL1;clear hL0 hL1;simp only[pars,Nat.zero_add];iterate 2 refine rS ?_
 refine AWP.block ?_;generalize hz1:yf (ynm a0 a1) (a0.length-0) 0 ()=z1 at hR;refine AWP.range (ynm a0 a1) (fun i1 s1=>⟨[(0,encL 1 eS a0),(1,.str a1),(7,.int .i64 (a0.length:Int)),(8,.int .i64 (i1:Int))],[]⟩) (fun i1 s1=>True) (a0.length) 0 () [] hz1 ot wt sm ?_;clear hz1;intro i1 s1 hi1 hW1 hz1;refine rS ?_;refine AWP.seq ?_;refine AWP.cond rfl (fun hb => ?_) (fun hb => ?_)
 ·have hlt1:i1<a0.length:=ot
  rw[yg hlt1]at hz1;simp only[ynm]at hz1;iterate 2 refine rS ?_
  refine AWP.cond rfl (fun hb => ?_) (fun hb => ?_)
  ·simp only[hb,cond_true]at hz1
   refine rS ?_;refine AWP.ret ?_;subst hz1;dsimp only at hR;subst hR;exact es
  ·simp only[hb,cond_false]at hz1
   refine rS ?_;exact⟨_,[],hlt1,wt,hz1,sm⟩
 ·obtain rfl:i1=a0.length:=ot
  rw[yh (Nat.le_refl _)]at hz1;subst hz1;dsimp only at hR;refine AWP.exit ?_;refine yc ?_;refine rS ?_;refine AWP.ret ?_;subst hR;exact es
end N108
def D_zed : DF
 | [x0,x1]=>some (.int .i64 (zed (rdL dS x0) (rdS x1)),false,[wL 1 eS dS x0,wS x1])
 | _=>none
theorem ydv:OkD Tryz.prog 108 D_zed:=by unfold D_zed;exact dk N108.den
def ztd (a0:(List (List UInt8))) (a1:(List UInt8)):Bool:=
 decide (0<=(zed a0 a1))
namespace N72
theorem DD:DOk Tryz.prog (Go.Ab.DD [(108,dP D_zed)]):=ya ydv.e <| ye _
theorem dn:type_of% (@D_zed.eq_1):=by and_intros<;>intros<;>rfl
theorem den (a0:(List (List UInt8))) (a1:(List UInt8))  : Den Tryz.prog 72 [encL 1 eS a0,.str a1] (.bool (ztd a0 a1)):=by
 generalize hR:ztd a0 a1=r;unfold ztd at hR;refine di Tryz.func72 Tryz.ntmps72 Tryz.results72 ?_;intro c hL hc hk;obtain⟨hL0,hL1,_⟩:=hL;have hw0:a0.length<9223372036854775808:=Nat.lt_succ_of_le (yd hL0).1;have hw1:∀ v∈a0,bwS v:=fun v hv=>ydf v ((yd hL0).2 v hv)
 have hw2:a1.length<9223372036854775808:=Nat.lt_succ_of_le hL1;clear hL0 hL1;simp only[pars,Nat.zero_add];iterate 2 refine rS ?_
 refine AWP.ret ?_;subst hR;exact es
end N72
def D_ztd : DF
 | [x0,x1]=>some (.bool (ztd (rdL dS x0) (rdS x1)),false,[wL 1 eS dS x0,wS x1])
 | _=>none
theorem ysp:OkD Tryz.prog 72 D_ztd:=by unfold D_ztd;exact dk N72.den
theorem ytc : ∀ (l cur : List UInt8) (m : Nat), cur.length + l.length <= m -> (Go.Lib.fieldsGo cur l).length <= cur.length + l.length /\ ∀ x ∈ Go.Lib.fieldsGo cur l, x.length <= m
 | [],cur,m,h=>by
  cases cur with
  | nil=>simp[Go.Lib.fieldsGo]
  | cons a c=>
   simp only[Go.Lib.fieldsGo,List.isEmpty_cons,List.length_cons,List.length_nil];refine⟨by simp,fun x hx => ?_⟩;simp at hx
   subst hx;simpa using h
 | b::l,cur,m,h=>by
  simp only[List.length_cons]at h ⊢;simp only[Go.Lib.fieldsGo];split
  ·split
   ·have:=ytc l [] m (by simp;omega)
    simp only[List.length_nil]at this;exact⟨by omega,this.2⟩
   ·rename_i hc
    have:=ytc l [] m (by simp;omega);simp only[List.length_nil]at this;have hcl:0<cur.length:=by cases cur with|nil=>simp at hc|cons _ _=>simp
    refine⟨by simp only[List.length_cons];omega,fun x hx => ?_⟩;rcases List.mem_cons.1 hx with rfl|hx
    ·omega
    ·exact this.2 x hx
  ·have:=ytc l (cur++[b]) m (by simp;omega)
   simp only[List.length_append,List.length_cons,List.length_nil]at this;exact⟨by omega,this.2⟩
theorem ydq (s:List UInt8):(Go.Lib.fields s).length<=s.length/\∀ x∈Go.Lib.fields s,x.length<=s.length:=by
 have:=ytc s [] s.length (by simp);simpa [Go.Lib.fields]using this
theorem ysq {f : FuncId} {T : TypeId} (hok : FnOk Tryz.prog f) (a0 : List UInt8) (hp0 : a0.length <= 1048576) (hp1 : ∀ x ∈ a0, x.toNat < 128)
  (hS:∀ (s:ByteArray) (w:World),s.size<4294967281->(∀ (j:Nat) b,s.data.toList[j]? = some b->b.toNat<128)->Go.Lib.TabIs Tryz.prog w tn0 .u8 Go.Lib.asciiSpaceTab->Calls Tryz.prog f #[.string s] w fun e w'=>
   e=.returned (.slice (some ⟨w.heap.size,0,none⟩) (Go.Lib.fields s.data.toList).length (Go.Lib.fields s.data.toList).length)/\w'=w.alloc (.cells ((Go.Lib.fields s.data.toList).map fun l=>Value.string ⟨l.toArray⟩).toArray T)) :
  Den Tryz.prog f [.str a0] (ownL T 1 (fun s:List UInt8=>[.str s]) (Go.Lib.fields a0)):=by
 obtain⟨l1,l2⟩:=ydq a0
 have hnth:∀ i,i<(Go.Lib.fields a0).length->((Go.Lib.fields a0).getD i default).length<=maxLen:=by
  intro i hi
  have:(Go.Lib.fields a0).getD i default∈Go.Lib.fields a0:=by
   rw[List.getD_eq_getElem?_getD,List.getElem?_eq_getElem hi];simp
  have:=l2 _ this;unfold maxLen;omega
 refine Den.fresh (T:=T) (e:=1) (enc:=fun s:List UInt8=>[.str s]) (l:=Go.Lib.fields a0) hok (by simp[NoOwnL,NoOwn]) (fun i=>[Value.string ⟨((Go.Lib.fields a0).getD i default).toArray⟩]) (fun w M i hi=>⟨?_,rfl,by simp[Value.oneCell']⟩) ?_
 ·simp only[RepL]
  exact⟨_,[],[],[],rfl,rfl,ycd _ (hnth i hi),rfl,rfl⟩
 ·intro w M vs hI hr
  simp only[RepL]at hr;obtain⟨u0,us0,f0,g0,rfl,h0e,h0,rfl,_⟩:=hr;have e0:=h0.val_str;subst e0;refine(hS ⟨a0.toArray⟩ w (by show a0.length<_;omega) (fun j b hb=>hp1 b (List.mem_of_getElem? hb)) hI).mono ?_;rintro e w' ⟨rfl,rfl⟩
  refine⟨w.heap.size,(Go.Lib.fields a0).length,((Go.Lib.fields a0).map fun x=>Value.string ⟨x.toArray⟩).toArray,rfl,?_⟩;have hfl:=yyn w T ((Go.Lib.fields a0).map fun x=>Value.string ⟨x.toArray⟩) (by rw[List.length_map];unfold maxLen;omega);rw[List.length_map]at hfl
  have hus:((List.range (Go.Lib.fields a0).length).flatMap fun i=>[((Go.Lib.fields a0).map fun x=>Value.string ⟨x.toArray⟩).getD i default])=(List.range (Go.Lib.fields a0).length).flatMap fun i=>[Value.string ⟨((Go.Lib.fields a0).getD i default).toArray⟩]:=by
   rw[List.flatMap_def,List.flatMap_def];congr 1
   apply List.map_congr_left;intro i hi;have hi:=List.mem_range.1 hi;simp[List.getD_eq_getElem?_getD,List.getElem?_map,List.getElem?_eq_getElem hi]
  rw[hus]at hfl;exact hfl
def zhf (a0:(List UInt8)):(List (List UInt8)):=Go.Lib.fields a0
theorem yoy (a0:(List UInt8)) (hp0:a0.length<=1048576) (hp1:∀ x∈a0,x.toNat<128):Den Tryz.prog 109 [.str a0] (ownL 9 1 eS (zhf a0)):=by
 exact ysq ⟨_,Tryz.func109,rfl,rfl⟩ a0 hp0 hp1 (fun s w h1 h2 h3=>Any.strings_Fields Tryz.lays157 (by kernel_rfl) (by kernel_rfl) s w h1 h2 h3)
def D_zhf : DF
 | [x0]=>some (ownL 9 1 eS (zhf (rdS x0)),false,[wS x0,(rdS x0).length<=1048576,∀ x∈(rdS x0),x.toNat<128])
 | _=>none
theorem y6u:OkD Tryz.prog 109 D_zhf:=by
 intro xs r z ob h ho;unfold D_zhf at h;split at h
 ·simp only[Option.some.injEq,Prod.mk.injEq]at h
  obtain⟨rfl,rfl,rfl⟩:=h;obtain⟨h0,hp0,hp1,_⟩:=ho;exact Den.sim (yoy _ hp0 hp1) (yeb (yee h0).1 <| trivial) (yfb (yee h0).2 <| rfl) rfl
 ·cases h
theorem ned {α:Type} [DecidableEq α] (x y:α):(x != y) = !decide (x=y):=by by_cases h:x=y<;>simp[h]
def ybs (v:Mark):Prop:=v.Colors.length<=1048576/\v.Shape.length<=1048576/\v.Topmark.length<=1048576
theorem yks (v:Mark) (h:ybs v):bdMark v:=⟨Nat.lt_of_le_of_lt h.1 (by decide),Nat.lt_of_le_of_lt h.2.1 (by decide),Nat.lt_of_le_of_lt h.2.2 (by decide)⟩
def yme (v:Character):Prop:=v.Group.length<=1048576/\v.Letter.length<=1048576/\v.Colors.length<=1048576
theorem ygi (v:Character) (h:yme v):bdCharacter v:=⟨Nat.lt_of_le_of_lt h.1 (by decide),Nat.lt_of_le_of_lt h.2.1 (by decide),Nat.lt_of_le_of_lt h.2.2 (by decide)⟩
def y4e (v:Sector):Prop:=v.Color.length<=1048576
theorem yen (v:Sector) (h:y4e v):bdSector v:=Nat.lt_of_le_of_lt h (by decide)
def y4r (v:Aid):Prop:=v.Name.length<=1048576/\ybs v.Mark/\yme v.Light/\(v.Sectors.length<=1048576/\∀ y∈v.Sectors,y4e y)
theorem ysg (v:Aid) (h:y4r v):bdAid v:=⟨Nat.lt_of_le_of_lt h.1 (by decide),yks _ h.2.1,ygi _ h.2.2.1,⟨Nat.lt_of_le_of_lt h.2.2.2.1 (by decide),fun y hy=>yen _ (h.2.2.2.2 y hy)⟩⟩
def aidB (x:Aid):Prop:=x.Light.Group.length<=1048576/\x.Sectors.length<=1048576
end Go.Ab
namespace Go.Ab
open Go Go.Proofs Go.Deep Go.ChangeShapes Go.WideShapes Go.ChangeAt Go.RowKit
set_option maxRecDepth 100000
theorem ywz:Rd Tryz.prog 23 ePoint:=by
 intro H enc W base sp hd fuel cs x h;obtain⟨hl,hf⟩:=yvd Tryz.underlying23 h;have e0:Tryz.prog.cellsOf 23=2:=by kernel_rfl
 rw[e0]at hl;obtain⟨n0,y0,g0⟩:=hf 0 _ rfl;have c0:Tryz.prog.cellsOf 2=1:=by kernel_rfl
 obtain⟨v0,r0,o0⟩:=(ykd (k:=.i64) Tryz.underlying2) g0;replace r0:RepL W (fun _=>False) ([.int .i64 v0]) yn ((cs.drop 0).take (Tryz.prog.cellsOf 2)) []:=r0;replace o0:∀ u∈(cs.drop 0).take (Tryz.prog.cellsOf 2),u.oneCell'=true:=o0;rw[c0]at r0 o0;obtain⟨n1,y1,g1⟩:=hf 1 _ rfl;have c1:Tryz.prog.cellsOf 2=1:=by kernel_rfl
 obtain⟨v1,r1,o1⟩:=(ykd (k:=.i64) Tryz.underlying2) g1;replace r1:RepL W (fun _=>False) ([.int .i64 v1]) yn ((cs.drop 1).take (Tryz.prog.cellsOf 2)) []:=r1;replace o1:∀ u∈(cs.drop 1).take (Tryz.prog.cellsOf 2),u.oneCell'=true:=o1;rw[c1]at r1 o1;refine⟨⟨v0,v1⟩,?_,?_⟩
 ·exact yx (o:=0) (k:=1) r0 (yx (o:=1) (k:=1) r1 (ywg (o:=2) (by omega)))
 ·exact yw (o:=0) (k:=1) o0 (yw (o:=1) (k:=1) o1 (yph (o:=2) (by omega)))
theorem y3z:Rd Tryz.prog 25 eMark:=by
 intro H enc W base sp hd fuel cs x h;obtain⟨hl,hf⟩:=yvd Tryz.underlying25 h;have e0:Tryz.prog.cellsOf 25=4:=by kernel_rfl
 rw[e0]at hl;obtain⟨n0,y0,g0⟩:=hf 0 _ rfl;have c0:Tryz.prog.cellsOf 2=1:=by kernel_rfl
 obtain⟨v0,r0,o0⟩:=(ykd (k:=.i64) Tryz.underlying2) g0;replace r0:RepL W (fun _=>False) ([.int .i64 v0]) yn ((cs.drop 0).take (Tryz.prog.cellsOf 2)) []:=r0;replace o0:∀ u∈(cs.drop 0).take (Tryz.prog.cellsOf 2),u.oneCell'=true:=o0;rw[c0]at r0 o0;obtain⟨n1,y1,g1⟩:=hf 1 _ rfl;have c1:Tryz.prog.cellsOf 9=1:=by kernel_rfl
 obtain⟨v1,r1,o1⟩:=(ybi Tryz.underlying9) g1;replace r1:RepL W (fun _=>False) ([.str v1]) yn ((cs.drop 1).take (Tryz.prog.cellsOf 9)) []:=r1;replace o1:∀ u∈(cs.drop 1).take (Tryz.prog.cellsOf 9),u.oneCell'=true:=o1;rw[c1]at r1 o1;obtain⟨n2,y2,g2⟩:=hf 2 _ rfl;have c2:Tryz.prog.cellsOf 9=1:=by kernel_rfl
 obtain⟨v2,r2,o2⟩:=(ybi Tryz.underlying9) g2;replace r2:RepL W (fun _=>False) ([.str v2]) yn ((cs.drop 2).take (Tryz.prog.cellsOf 9)) []:=r2;replace o2:∀ u∈(cs.drop 2).take (Tryz.prog.cellsOf 9),u.oneCell'=true:=o2;rw[c2]at r2 o2;obtain⟨n3,y3,g3⟩:=hf 3 _ rfl;have c3:Tryz.prog.cellsOf 9=1:=by kernel_rfl
 obtain⟨v3,r3,o3⟩:=(ybi Tryz.underlying9) g3;replace r3:RepL W (fun _=>False) ([.str v3]) yn ((cs.drop 3).take (Tryz.prog.cellsOf 9)) []:=r3;replace o3:∀ u∈(cs.drop 3).take (Tryz.prog.cellsOf 9),u.oneCell'=true:=o3;rw[c3]at r3 o3;refine⟨⟨v0,v1,v2,v3⟩,?_,?_⟩
 ·exact yx (o:=0) (k:=1) r0 (yx (o:=1) (k:=1) r1 (yx (o:=2) (k:=1) r2 (yx (o:=3) (k:=1) r3 (ywg (o:=4) (by omega)))))
 ·exact yw (o:=0) (k:=1) o0 (yw (o:=1) (k:=1) o1 (yw (o:=2) (k:=1) o2 (yw (o:=3) (k:=1) o3 (yph (o:=4) (by omega)))))
theorem yzz:Rd Tryz.prog 26 (fun l:List Int=>[encL 1 yq l]):=yeo Tryz.underlying26 (by kernel_rfl) (by decide) (ykd (k:=.i64) Tryz.underlying2)
theorem y0z:Rd Tryz.prog 28 eCharacter:=by
 intro H enc W base sp hd fuel cs x h;obtain⟨hl,hf⟩:=yvd Tryz.underlying28 h;have e0:Tryz.prog.cellsOf 28=5:=by kernel_rfl
 rw[e0]at hl;obtain⟨n0,y0,g0⟩:=hf 0 _ rfl;have c0:Tryz.prog.cellsOf 2=1:=by kernel_rfl
 obtain⟨v0,r0,o0⟩:=(ykd (k:=.i64) Tryz.underlying2) g0;replace r0:RepL W (fun _=>False) ([.int .i64 v0]) yn ((cs.drop 0).take (Tryz.prog.cellsOf 2)) []:=r0;replace o0:∀ u∈(cs.drop 0).take (Tryz.prog.cellsOf 2),u.oneCell'=true:=o0;rw[c0]at r0 o0;obtain⟨n1,y1,g1⟩:=hf 1 _ rfl;have c1:Tryz.prog.cellsOf 26=1:=by kernel_rfl
 obtain⟨v1,r1,o1⟩:=yzz g1;replace r1:RepL W (fun _=>False) ([encL 1 yq v1]) yn ((cs.drop 1).take (Tryz.prog.cellsOf 26)) []:=r1;replace o1:∀ u∈(cs.drop 1).take (Tryz.prog.cellsOf 26),u.oneCell'=true:=o1;rw[c1]at r1 o1;obtain⟨n2,y2,g2⟩:=hf 2 _ rfl;have c2:Tryz.prog.cellsOf 9=1:=by kernel_rfl
 obtain⟨v2,r2,o2⟩:=(ybi Tryz.underlying9) g2;replace r2:RepL W (fun _=>False) ([.str v2]) yn ((cs.drop 2).take (Tryz.prog.cellsOf 9)) []:=r2;replace o2:∀ u∈(cs.drop 2).take (Tryz.prog.cellsOf 9),u.oneCell'=true:=o2;rw[c2]at r2 o2;obtain⟨n3,y3,g3⟩:=hf 3 _ rfl;have c3:Tryz.prog.cellsOf 9=1:=by kernel_rfl
 obtain⟨v3,r3,o3⟩:=(ybi Tryz.underlying9) g3;replace r3:RepL W (fun _=>False) ([.str v3]) yn ((cs.drop 3).take (Tryz.prog.cellsOf 9)) []:=r3;replace o3:∀ u∈(cs.drop 3).take (Tryz.prog.cellsOf 9),u.oneCell'=true:=o3;rw[c3]at r3 o3;obtain⟨n4,y4,g4⟩:=hf 4 _ rfl;have c4:Tryz.prog.cellsOf 2=1:=by kernel_rfl
 obtain⟨v4,r4,o4⟩:=(ykd (k:=.i64) Tryz.underlying2) g4;replace r4:RepL W (fun _=>False) ([.int .i64 v4]) yn ((cs.drop 4).take (Tryz.prog.cellsOf 2)) []:=r4;replace o4:∀ u∈(cs.drop 4).take (Tryz.prog.cellsOf 2),u.oneCell'=true:=o4;rw[c4]at r4 o4;refine⟨⟨v0,v1,v2,v3,v4⟩,?_,?_⟩
 ·exact yx (o:=0) (k:=1) r0 (yx (o:=1) (k:=1) r1 (yx (o:=2) (k:=1) r2 (yx (o:=3) (k:=1) r3 (yx (o:=4) (k:=1) r4 (ywg (o:=5) (by omega))))))
 ·exact yw (o:=0) (k:=1) o0 (yw (o:=1) (k:=1) o1 (yw (o:=2) (k:=1) o2 (yw (o:=3) (k:=1) o3 (yw (o:=4) (k:=1) o4 (yph (o:=5) (by omega))))))
theorem y2z:Rd Tryz.prog 65 eSector:=by
 intro H enc W base sp hd fuel cs x h;obtain⟨hl,hf⟩:=yvd Tryz.underlying65 h;have e0:Tryz.prog.cellsOf 65=3:=by kernel_rfl
 rw[e0]at hl;obtain⟨n0,y0,g0⟩:=hf 0 _ rfl;have c0:Tryz.prog.cellsOf 2=1:=by kernel_rfl
 obtain⟨v0,r0,o0⟩:=(ykd (k:=.i64) Tryz.underlying2) g0;replace r0:RepL W (fun _=>False) ([.int .i64 v0]) yn ((cs.drop 0).take (Tryz.prog.cellsOf 2)) []:=r0;replace o0:∀ u∈(cs.drop 0).take (Tryz.prog.cellsOf 2),u.oneCell'=true:=o0;rw[c0]at r0 o0;obtain⟨n1,y1,g1⟩:=hf 1 _ rfl;have c1:Tryz.prog.cellsOf 2=1:=by kernel_rfl
 obtain⟨v1,r1,o1⟩:=(ykd (k:=.i64) Tryz.underlying2) g1;replace r1:RepL W (fun _=>False) ([.int .i64 v1]) yn ((cs.drop 1).take (Tryz.prog.cellsOf 2)) []:=r1;replace o1:∀ u∈(cs.drop 1).take (Tryz.prog.cellsOf 2),u.oneCell'=true:=o1;rw[c1]at r1 o1;obtain⟨n2,y2,g2⟩:=hf 2 _ rfl;have c2:Tryz.prog.cellsOf 9=1:=by kernel_rfl
 obtain⟨v2,r2,o2⟩:=(ybi Tryz.underlying9) g2;replace r2:RepL W (fun _=>False) ([.str v2]) yn ((cs.drop 2).take (Tryz.prog.cellsOf 9)) []:=r2;replace o2:∀ u∈(cs.drop 2).take (Tryz.prog.cellsOf 9),u.oneCell'=true:=o2;rw[c2]at r2 o2;refine⟨⟨v0,v1,v2⟩,?_,?_⟩
 ·exact yx (o:=0) (k:=1) r0 (yx (o:=1) (k:=1) r1 (yx (o:=2) (k:=1) r2 (ywg (o:=3) (by omega))))
 ·exact yw (o:=0) (k:=1) o0 (yw (o:=1) (k:=1) o1 (yw (o:=2) (k:=1) o2 (yph (o:=3) (by omega))))
theorem yyz:Rd Tryz.prog 29 (fun l:List Sector=>[encL 3 eSector l]):=yeo Tryz.underlying29 (by kernel_rfl) (by decide) y2z
theorem ycz:Rd Tryz.prog 31 eAid:=by
 intro H enc W base sp hd fuel cs x h;obtain⟨hl,hf⟩:=yvd Tryz.underlying31 h;have e0:Tryz.prog.cellsOf 31=16:=by kernel_rfl
 rw[e0]at hl;obtain⟨n0,y0,g0⟩:=hf 0 _ rfl;have c0:Tryz.prog.cellsOf 2=1:=by kernel_rfl
 obtain⟨v0,r0,o0⟩:=(ykd (k:=.i64) Tryz.underlying2) g0;replace r0:RepL W (fun _=>False) ([.int .i64 v0]) yn ((cs.drop 0).take (Tryz.prog.cellsOf 2)) []:=r0;replace o0:∀ u∈(cs.drop 0).take (Tryz.prog.cellsOf 2),u.oneCell'=true:=o0;rw[c0]at r0 o0;obtain⟨n1,y1,g1⟩:=hf 1 _ rfl;have c1:Tryz.prog.cellsOf 9=1:=by kernel_rfl
 obtain⟨v1,r1,o1⟩:=(ybi Tryz.underlying9) g1;replace r1:RepL W (fun _=>False) ([.str v1]) yn ((cs.drop 1).take (Tryz.prog.cellsOf 9)) []:=r1;replace o1:∀ u∈(cs.drop 1).take (Tryz.prog.cellsOf 9),u.oneCell'=true:=o1;rw[c1]at r1 o1;obtain⟨n2,y2,g2⟩:=hf 2 _ rfl;have c2:Tryz.prog.cellsOf 23=2:=by kernel_rfl
 obtain⟨v2,r2,o2⟩:=ywz g2;replace r2:RepL W (fun _=>False) (ePoint v2) yn ((cs.drop 2).take (Tryz.prog.cellsOf 23)) []:=r2;replace o2:∀ u∈(cs.drop 2).take (Tryz.prog.cellsOf 23),u.oneCell'=true:=o2;rw[c2]at r2 o2;obtain⟨n3,y3,g3⟩:=hf 3 _ rfl;have c3:Tryz.prog.cellsOf 2=1:=by kernel_rfl
 obtain⟨v3,r3,o3⟩:=(ykd (k:=.i64) Tryz.underlying2) g3;replace r3:RepL W (fun _=>False) ([.int .i64 v3]) yn ((cs.drop 4).take (Tryz.prog.cellsOf 2)) []:=r3;replace o3:∀ u∈(cs.drop 4).take (Tryz.prog.cellsOf 2),u.oneCell'=true:=o3;rw[c3]at r3 o3;obtain⟨n4,y4,g4⟩:=hf 4 _ rfl;have c4:Tryz.prog.cellsOf 25=4:=by kernel_rfl
 obtain⟨v4,r4,o4⟩:=y3z g4;replace r4:RepL W (fun _=>False) (eMark v4) yn ((cs.drop 5).take (Tryz.prog.cellsOf 25)) []:=r4;replace o4:∀ u∈(cs.drop 5).take (Tryz.prog.cellsOf 25),u.oneCell'=true:=o4;rw[c4]at r4 o4;obtain⟨n5,y5,g5⟩:=hf 5 _ rfl;have c5:Tryz.prog.cellsOf 28=5:=by kernel_rfl
 obtain⟨v5,r5,o5⟩:=y0z g5;replace r5:RepL W (fun _=>False) (eCharacter v5) yn ((cs.drop 9).take (Tryz.prog.cellsOf 28)) []:=r5;replace o5:∀ u∈(cs.drop 9).take (Tryz.prog.cellsOf 28),u.oneCell'=true:=o5;rw[c5]at r5 o5;obtain⟨n6,y6,g6⟩:=hf 6 _ rfl;have c6:Tryz.prog.cellsOf 29=1:=by kernel_rfl
 obtain⟨v6,r6,o6⟩:=yyz g6;replace r6:RepL W (fun _=>False) ([encL 3 eSector v6]) yn ((cs.drop 14).take (Tryz.prog.cellsOf 29)) []:=r6;replace o6:∀ u∈(cs.drop 14).take (Tryz.prog.cellsOf 29),u.oneCell'=true:=o6;rw[c6]at r6 o6;obtain⟨n7,y7,g7⟩:=hf 7 _ rfl;have c7:Tryz.prog.cellsOf 2=1:=by kernel_rfl
 obtain⟨v7,r7,o7⟩:=(ykd (k:=.i64) Tryz.underlying2) g7;replace r7:RepL W (fun _=>False) ([.int .i64 v7]) yn ((cs.drop 15).take (Tryz.prog.cellsOf 2)) []:=r7;replace o7:∀ u∈(cs.drop 15).take (Tryz.prog.cellsOf 2),u.oneCell'=true:=o7;rw[c7]at r7 o7;refine⟨⟨v0,v1,v2,v3,v4,v5,v6,v7⟩,?_,?_⟩
 ·exact yx (o:=0) (k:=1) r0 (yx (o:=1) (k:=1) r1 (yx (o:=2) (k:=2) r2 (yx (o:=4) (k:=1) r3 (yx (o:=5) (k:=4) r4 (yx (o:=9) (k:=5) r5 (yx (o:=14) (k:=1) r6 (yx (o:=15) (k:=1) r7 (ywg (o:=16) (by omega)))))))))
 ·exact yw (o:=0) (k:=1) o0 (yw (o:=1) (k:=1) o1 (yw (o:=2) (k:=2) o2 (yw (o:=4) (k:=1) o3 (yw (o:=5) (k:=4) o4 (yw (o:=9) (k:=5) o5 (yw (o:=14) (k:=1) o6 (yw (o:=15) (k:=1) o7 (yph (o:=16) (by omega)))))))))
end Go.Ab
