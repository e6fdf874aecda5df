/- A part of a proof: walks of functions and lemmas of our own. No conditions. -/
import Derived.Test.YtijmcongeemehaaGreatDoorEAl
import Derived.Test.YtijmcongeemehaaGreatDoorEAm
import Derived.Test.YtijmcongeemehaaGreatDoorEAo
import Derived.Test.YtijmcongeemehaaGreatDoorEAi
import Derived.Shelf.Strings.Fields
import Derived.Handy
import Derived.Test.YtijmcongeemehaaGreatDoorEAg
import Derived.ProofKit
import Derived.Below
import Derived.Lib.Join
import Derived.Shelf.Strings.OnBuilder
import Derived.Lib.Split
import Derived.Lib.IndexLaws
import Derived.Lib.IndexBytes
import Derived.Lib.CountLaws
set_option linter.unusedSectionVars false
set_option linter.unusedVariables false
set_option linter.unusedSimpArgs false
set_option maxHeartbeats 1000000
namespace Go.Ab
theorem yhw {f : Nat -> Int} {n : Nat} (hs : ∀ i, i + 1 < n -> f i < f (i + 1)) : ∀ (d i : Nat), i + d + 1 < n -> f i < f (i + d + 1)
 | 0,i,h=>hs i h
 | d+1,i,h=>by
  have h1:=yhw hs d i (by omega);have h2:=hs (i+d+1) (by omega);have:i+(d+1)+1=i+d+1+1:=by omega
  rw[this];omega
theorem yke {f:Nat->Int} {n:Nat} (hs:∀ i,i+1<n->f i<f (i+1)) {i k:Nat} (h:i<k) (hk:k<n):f i<f k:=by
 have:=yhw hs (k-i-1) i (by omega);rwa [show i+(k-i-1)+1=k by omega]at this
theorem yvw {f arc:Nat->Int} {n:Nat} (hf:∀ i,i<n->0<=f i/\f i<=359) (hs:∀ i,i+1<n->f i<f (i+1)) :
  (∀ i,i<n->∀ k,k<n->k≠i->arc i<=(f k-f i) % 360)↔(1<n->∀ i,i<n->arc i<=(f ((i+1) % n)-f i+360) % 360):=by
 constructor
 ·intro h hn i hi
  have hne:(i+1) % n≠i:=by
   by_cases h2:i+1<n
   ·rw[Nat.mod_eq_of_lt h2];omega
   ·have:i+1=n:=by omega
    rw[this,Nat.mod_self];omega
  have:=h i hi ((i+1) % n) (Nat.mod_lt _ (by omega)) hne;omega
 ·intro h i hi k hk hki
  have hn:1<n:=by omega
  have h1:=h hn i hi;have fi:=hf i hi;have fk:=hf k hk;by_cases h2:i+1<n
  ·rw[Nat.mod_eq_of_lt h2]at h1
   have g:=hs i h2;have fn:=hf (i+1) h2;have e1:(f (i+1)-f i+360) % 360=f (i+1)-f i:=by omega
   rw[e1]at h1;by_cases h3:i<k
   ·have:f (i+1)<=f k:=by
     by_cases h4:k=i+1
     ·rw[h4];omega
     ·have:=yke hs (i:=i+1) (k:=k) (by omega) hk;omega
    have:(f k-f i) % 360=f k-f i:=by omega
    omega
   ·have:=yke hs (i:=k) (k:=i) (by omega) hi
    have:(f k-f i) % 360=f k-f i+360:=by omega
    omega
  ·have hin:i+1=n:=by omega
   rw[hin,Nat.mod_self]at h1;have f0:=hf 0 (by omega);have g:=yke hs (i:=0) (k:=i) (by omega) hi;have e1:(f 0-f i+360) % 360=f 0-f i+360:=by omega
   rw[e1]at h1
   have:f 0<=f k:=by
    by_cases h4:k=0
    ·rw[h4];omega
    ·have:=yke hs (i:=0) (k:=k) (by omega) hk;omega
   have:=yke hs (i:=k) (k:=i) (by omega) hi;have:(f k-f i) % 360=f k-f i+360:=by omega
   omega
theorem yp0 {f arc S : Nat -> Int} {n : Nat} (hf : ∀ i, i < n -> 0 <= f i /\ f i <= 359) (hs : ∀ i, i + 1 < n -> f i < f (i + 1)) (ha : ∀ i, i < n -> 1 <= arc i /\ arc i <= 360)
  (h:1<n->∀ i,i<n->arc i<=(f ((i+1) % n)-f i+360) % 360) (h0:S 0=0) (hS:∀ i,i<n->S (i+1)=S i+arc i):S n<=360:=by
 by_cases hn:1<n
 ·have key:∀ j,j<n->S j<=f j-f 0:=by
   intro j
   induction j with
   | zero=>intro _;rw[h0];omega
   | succ j ih=>
    intro hj;have i1:=ih (by omega);have i2:=h hn j (by omega);rw[Nat.mod_eq_of_lt hj]at i2;have g:=hs j hj;have fj:=hf j (by omega);have fj1:=hf (j+1) hj;have e1:(f (j+1)-f j+360) % 360=f (j+1)-f j:=by omega
    rw[hS j (by omega)];omega
  have k1:=key (n-1) (by omega);have i2:=h hn (n-1) (by omega);rw[show n-1+1=n by omega,Nat.mod_self]at i2;have f0:=hf 0 (by omega);have fn:=hf (n-1) (by omega);have g:=yke hs (i:=0) (k:=n-1) (by omega) (by omega);have e1:(f 0-f (n-1)+360) % 360=f 0-f (n-1)+360:=by omega
  have:=hS (n-1) (by omega);rw[show n-1+1=n by omega]at this;omega
 ·by_cases h1:n=1
  ·subst h1
   have:=hS 0 (by omega);have a0:=ha 0 (by omega);simp only[Nat.zero_add]at this;omega
  ·have:n=0:=by omega
   subst this;omega
end Go.Ab
namespace Go.Ab
open Go Go.Proofs
def zub (a0:(List UInt8)) (a1:(List UInt8)):Bool:=decide (0<=Go.Lib.indexByte a0 (a1.getD 0 0))
theorem y06 (a0:(List UInt8)) (a1:(List UInt8)) (hp0:a1.length=1):Den Tryz.prog 222 [.str a0,.str a1] (.bool (zub a0 a1)):=by
 obtain⟨c,rfl⟩:∃ c,a1=[c]:=List.length_eq_one_iff.1 hp0;refine Den.plain ⟨_,Tryz.func222,rfl,rfl⟩ (by simp[NoOwnL,NoOwn]) ?_;intro w M vs hI hr;simp only[RepL]at hr;obtain⟨u0,us0,f0,g0,rfl,h0e,h0,u1,us1,f1,g1,rfl,h1e,h1,rfl,_⟩:=hr;have e0:=h0.val_str;have e1:=h1.val_str;subst e0 e1;refine(Any.strings_Contains_one Tryz.lays144 ⟨a0.toArray⟩ c w).mono ?_;rintro e w' ⟨rfl,rfl⟩
 exact⟨_,rfl,Grow.refl _,fun M'=>ygc _⟩
def D_zub : DF
 | [x0,x1]=>some (.bool (zub (rdS x0) (rdS x1)),false,[wS x0,wS x1,(rdS x1).length=1])
 | _=>none
theorem y2u:OkD Tryz.prog 222 D_zub:=by
 intro xs r z ob h ho;unfold D_zub at h;split at h
 ·simp only[Option.some.injEq,Prod.mk.injEq]at h
  obtain⟨rfl,rfl,rfl⟩:=h;obtain⟨h0,h1,hp0,_⟩:=ho;exact Den.sim (y06 _ _ hp0) (yv (yfb h0).1 <| yv (yfb h1).1 <| trivial) (y0 (yfb h0).2 <| y0 (yfb h1).2 <| rfl) rfl
 ·cases h
theorem ym8 {s n:Int} (h0:0<=s) (h1:s<n) (hn:n<9223372036854775808):0<=(IntKind.wrap .i64 (s+1)).tmod n/\(IntKind.wrap .i64 (s+1)).tmod n<n:=by
 have e:IntKind.wrap .i64 (s+1)=s+1:=by rw[IntKind.wrap_i64];omega
 rw[e,Int.tmod_eq_emod_of_nonneg (by omega)];exact⟨Int.emod_nonneg _ (by omega),Int.emod_lt_of_pos _ (by omega)⟩
theorem yvv {i:Nat} (h:i<4):(([87,82,71,89]:List UInt8).take (IntKind.wrap .i64 ((i:Int)+1)).toNat |>.drop i).length=1:=by
 rw[show(IntKind.wrap .i64 ((i:Int)+1)).toNat=i+1 from by rw[IntKind.wrap_i64];omega];rcases i with _|_|_|_|i<;>first|rfl|omega
theorem ye4 (i:Nat):(([87,82,71,89]:List UInt8).take (IntKind.wrap .i64 ((i:Int)+1)).toNat |>.drop i).length<=1\/4<=i:=by
 by_cases h:i<4
 ·left;rw[yvv h];exact Nat.le_refl _
 ·right;omega
def ysr (a0:(List (List UInt8))) (a1:(List UInt8)) (i1:Nat) (s1:Unit):Except (Int) (Unit):=
 (bif (a1 == (a0.getD i1 default))then .error (i1:Int)else .ok ())
def zpe (a0:(List (List UInt8))) (a1:(List UInt8)):Int:=
 (match yd (ysr a0 a1) (a0.length-0) 0 ()with|.error e=>e|.ok s1=>(-1))
namespace N265
theorem DD:DOk Tryz.prog (Go.Ab.DD []):=ye _
theorem den (a0:(List (List UInt8))) (a1:(List UInt8))  : Den Tryz.prog 265 [encL 1 eS a0,.str a1] (.int .i64 (zpe a0 a1)):=by
 generalize hR:zpe a0 a1=r;unfold zpe at hR;refine di Tryz.func265 Tryz.ntmps265 Tryz.results265 ?_;intro c hL hc hk;obtain⟨hL0,hL1,_⟩:=hL;have hw0:a0.length<9223372036854775808:=Nat.lt_succ_of_le (yj hL0).1;have hw1:∀ v∈a0,bwS v:=fun v hv=>y7x v ((yj hL0).2 v hv)
 have hw2:a1.length<9223372036854775808:=Nat.lt_succ_of_le hL1;clear hL0 hL1;simp only[pars,Nat.zero_add];iterate 2 refine rS ?_
 refine AWP.block ?_;generalize hz1:yd (ysr a0 a1) (a0.length-0) 0 ()=z1 at hR;refine AWP.range (ysr a0 a1) (fun i1 s1=>⟨[(0,encL 1 eS a0),(1,.str a1),(7,.int .i64 (a0.length:Int)),(8,.int .i64 (i1:Int))],[]⟩) (fun i1 s1=>True) (a0.length) 0 () [] hz1 ot wt sm ?_;clear hz1;intro i1 s1 hi1 hW1 hz1;refine rS ?_;refine AWP.seq ?_;refine AWP.cond rfl (fun hb => ?_) (fun hb => ?_)
 ·have hlt1:i1<a0.length:=ot
  rw[yg hlt1]at hz1;simp only[ysr]at hz1;iterate 2 refine rS ?_
  refine AWP.cond rfl (fun hb => ?_) (fun hb => ?_)
  ·simp only[hb,cond_true]at hz1
   refine rS ?_;refine AWP.ret ?_;subst hz1;dsimp only at hR;subst hR;exact es
  ·simp only[hb,cond_false]at hz1
   refine rS ?_;exact⟨_,[],hlt1,wt,hz1,sm⟩
 ·obtain rfl:i1=a0.length:=ot
  rw[yh (Nat.le_refl _)]at hz1;subst hz1;dsimp only at hR;refine AWP.exit ?_;refine yb ?_;refine rS ?_;refine AWP.ret ?_;subst hR;exact es
end N265
def D_zpe : DF
 | [x0,x1]=>some (.int .i64 (zpe (rdL dS x0) (rdS x1)),false,[wL 1 eS dS x0,wS x1])
 | _=>none
theorem y82:OkD Tryz.prog 265 D_zpe:=by unfold D_zpe;exact dk N265.den
def zhf (a0:(List (List UInt8))) (a1:(List UInt8)):Bool:=
 decide (0<=(zpe a0 a1))
namespace N212
theorem DD:DOk Tryz.prog (Go.Ab.DD [(265,dP D_zpe)]):=ya y82.e <| ye _
theorem dn:type_of% (@D_zpe.eq_1):=by and_intros<;>intros<;>rfl
theorem den (a0:(List (List UInt8))) (a1:(List UInt8))  : Den Tryz.prog 212 [encL 1 eS a0,.str a1] (.bool (zhf a0 a1)):=by
 generalize hR:zhf a0 a1=r;unfold zhf at hR;refine di Tryz.func212 Tryz.ntmps212 Tryz.results212 ?_;intro c hL hc hk;obtain⟨hL0,hL1,_⟩:=hL;have hw0:a0.length<9223372036854775808:=Nat.lt_succ_of_le (yj hL0).1;have hw1:∀ v∈a0,bwS v:=fun v hv=>y7x v ((yj hL0).2 v hv)
 have hw2:a1.length<9223372036854775808:=Nat.lt_succ_of_le hL1;clear hL0 hL1;simp only[pars,Nat.zero_add];iterate 2 refine rS ?_
 refine AWP.ret ?_;subst hR;exact es
end N212
def D_zhf : DF
 | [x0,x1]=>some (.bool (zhf (rdL dS x0) (rdS x1)),false,[wL 1 eS dS x0,wS x1])
 | _=>none
theorem y9u:OkD Tryz.prog 212 D_zhf:=by unfold D_zhf;exact dk N212.den
theorem y7d : ∀ (l cur : List UInt8) (m : Nat), cur.length + l.length <= m -> (Go.Lib.fieldsGo cur l).length <= cur.length + l.length /\ ∀ x ∈ Go.Lib.fieldsGo cur l, x.length <= m
 | [],cur,m,h=>by
  cases cur with
  | nil=>simp[Go.Lib.fieldsGo]
  | cons a c=>
   simp only[Go.Lib.fieldsGo,List.isEmpty_cons,List.length_cons,List.length_nil];refine⟨by simp,fun x hx => ?_⟩;simp at hx
   subst hx;simpa using h
 | b::l,cur,m,h=>by
  simp only[List.length_cons]at h ⊢;simp only[Go.Lib.fieldsGo];split
  ·split
   ·have:=y7d l [] m (by simp;omega)
    simp only[List.length_nil]at this;exact⟨by omega,this.2⟩
   ·rename_i hc
    have:=y7d l [] m (by simp;omega);simp only[List.length_nil]at this;have hcl:0<cur.length:=by cases cur with|nil=>simp at hc|cons _ _=>simp
    refine⟨by simp only[List.length_cons];omega,fun x hx => ?_⟩;rcases List.mem_cons.1 hx with rfl|hx
    ·omega
    ·exact this.2 x hx
  ·have:=y7d l (cur++[b]) m (by simp;omega)
   simp only[List.length_append,List.length_cons,List.length_nil]at this;exact⟨by omega,this.2⟩
theorem ynx (s:List UInt8):(Go.Lib.fields s).length<=s.length/\∀ x∈Go.Lib.fields s,x.length<=s.length:=by
 have:=y7d s [] s.length (by simp);simpa [Go.Lib.fields]using this
theorem ymx {f : FuncId} {T : TypeId} (hok : FnOk Tryz.prog f) (a0 : List UInt8) (hp0 : a0.length <= 1048576) (hp1 : ∀ x ∈ a0, x.toNat < 128)
  (hS:∀ (s:ByteArray) (w:World),s.size<4294967281->(∀ (j:Nat) b,s.data.toList[j]? = some b->b.toNat<128)->Go.Lib.TabIs Tryz.prog w tn1 .u8 Go.Lib.asciiSpaceTab->Calls Tryz.prog f #[.string s] w fun e w'=>
   e=.returned (.slice (some ⟨w.heap.size,0,none⟩) (Go.Lib.fields s.data.toList).length (Go.Lib.fields s.data.toList).length)/\w'=w.alloc (.cells ((Go.Lib.fields s.data.toList).map fun l=>Value.string ⟨l.toArray⟩).toArray T)) :
  Den Tryz.prog f [.str a0] (ownL T 1 (fun s:List UInt8=>[.str s]) (Go.Lib.fields a0)):=by
 obtain⟨l1,l2⟩:=ynx a0
 have hnth:∀ i,i<(Go.Lib.fields a0).length->((Go.Lib.fields a0).getD i default).length<=maxLen:=by
  intro i hi
  have:(Go.Lib.fields a0).getD i default∈Go.Lib.fields a0:=by
   rw[List.getD_eq_getElem?_getD,List.getElem?_eq_getElem hi];simp
  have:=l2 _ this;unfold maxLen;omega
 refine Den.fresh (T:=T) (e:=1) (enc:=fun s:List UInt8=>[.str s]) (l:=Go.Lib.fields a0) hok (by simp[NoOwnL,NoOwn]) (fun i=>[Value.string ⟨((Go.Lib.fields a0).getD i default).toArray⟩]) (fun w M i hi=>⟨?_,rfl,by simp[Value.oneCell']⟩) ?_
 ·simp only[RepL]
  exact⟨_,[],[],[],rfl,rfl,ysb _ (hnth i hi),rfl,rfl⟩
 ·intro w M vs hI hr
  simp only[RepL]at hr;obtain⟨u0,us0,f0,g0,rfl,h0e,h0,rfl,_⟩:=hr;have e0:=h0.val_str;subst e0;refine(hS ⟨a0.toArray⟩ w (by show a0.length<_;omega) (fun j b hb=>hp1 b (List.mem_of_getElem? hb)) hI.2.2.2).mono ?_;rintro e w' ⟨rfl,rfl⟩
  refine⟨w.heap.size,(Go.Lib.fields a0).length,((Go.Lib.fields a0).map fun x=>Value.string ⟨x.toArray⟩).toArray,rfl,?_⟩;have hfl:=yzk w T ((Go.Lib.fields a0).map fun x=>Value.string ⟨x.toArray⟩) (by rw[List.length_map];unfold maxLen;omega);rw[List.length_map]at hfl
  have hus:((List.range (Go.Lib.fields a0).length).flatMap fun i=>[((Go.Lib.fields a0).map fun x=>Value.string ⟨x.toArray⟩).getD i default])=(List.range (Go.Lib.fields a0).length).flatMap fun i=>[Value.string ⟨((Go.Lib.fields a0).getD i default).toArray⟩]:=by
   rw[List.flatMap_def,List.flatMap_def];congr 1
   apply List.map_congr_left;intro i hi;have hi:=List.mem_range.1 hi;simp[List.getD_eq_getElem?_getD,List.getElem?_map,List.getElem?_eq_getElem hi]
  rw[hus]at hfl;exact hfl
def zpg (a0:(List UInt8)):(List (List UInt8)):=Go.Lib.fields a0
theorem yi6 (a0:(List UInt8)) (hp0:a0.length<=1048576) (hp1:∀ x∈a0,x.toNat<128):Den Tryz.prog 266 [.str a0] (ownL 9 1 eS (zpg a0)):=by
 exact ymx ⟨_,Tryz.func266,rfl,rfl⟩ a0 hp0 hp1 (fun s w h1 h2 h3=>Any.strings_Fields Tryz.lays157 (by kernel_rfl) (by kernel_rfl) s w h1 h2 h3)
def D_zpg : DF
 | [x0]=>some (ownL 9 1 eS (zpg (rdS x0)),false,[wS x0,(rdS x0).length<=1048576,∀ x∈(rdS x0),x.toNat<128])
 | _=>none
theorem yw2:OkD Tryz.prog 266 D_zpg:=by
 intro xs r z ob h ho;unfold D_zpg at h;split at h
 ·simp only[Option.some.injEq,Prod.mk.injEq]at h
  obtain⟨rfl,rfl,rfl⟩:=h;obtain⟨h0,hp0,hp1,_⟩:=ho;exact Den.sim (yi6 _ hp0 hp1) (yv (yfb h0).1 <| trivial) (y0 (yfb h0).2 <| rfl) rfl
 ·cases h
theorem ned {α:Type} [DecidableEq α] (x y:α):(x != y) = !decide (x=y):=by by_cases h:x=y<;>simp[h]
theorem ycv {α:Type} [Inhabited α] {l:List α} {x:α} {j:Nat} (h:j<l.length):(l++[x]).getD j default=l.getD j default:=by
 rw[List.getD_eq_getElem?_getD,List.getD_eq_getElem?_getD,List.getElem?_append_left h]
theorem yvu {α:Type} [Inhabited α] {l:List α} {x:α} {j:Nat} (h:¬ j<l.length) (h2:j<l.length+1):(l++[x]).getD j default=x:=by
 have:j=l.length:=by omega
 subst this;simp
theorem yu4 {j n:Nat} (h:j<n):Nat.blt j n=true:=by
 cases hb:Nat.blt j n with
 | true=>rfl
 | false=>rw[<- Bool.not_eq_true,Nat.blt_eq]at hb;exact absurd h hb
theorem yd4 {j n:Nat} (h:¬ j<n):Nat.blt j n=false:=by
 cases hb:Nat.blt j n with
 | true=>rw[Nat.blt_eq]at hb;exact absurd hb h
 | false=>rfl
end Go.Ab
namespace Go.Ab
open Go
def yeb (y:Int):Bool:=(((y.tmod 4 == 0) && (y.tmod 100 != 0)) || (y.tmod 400 == 0))
theorem yyb {n:Int} (h1 : -9223372036854775808<=n) (h2:n<=9223372036854775807):IntKind.wrap .i64 n=n:=by
 rw[IntKind.wrap_i64];omega
theorem y8e {m:Int} (h1:1<=m) (h2:m<=12):m=1\/m=2\/m=3\/m=4\/m=5\/m=6\/m=7\/m=8\/m=9\/m=10\/m=11\/m=12:=by omega
def ybD (y:Int):Int:=365 * (y-2000)+(y-1997) / 4-(y-1901) / 100+(y-1601) / 400
def mbD (l:Bool) (m:Nat):Nat:=([0,0,31,59,90,120,151,181,212,243,273,304,334]:List Nat).getD m 0+(bif l && Nat.blt 2 m then 1 else 0)
def mdD (l:Bool) (m:Nat):Nat:=([0,31,28,31,30,31,30,31,31,30,31,30,31]:List Nat).getD m 0+(bif l && Nat.beq 2 m then 1 else 0)
theorem ytt:∀ (l:Bool) (m m':Fin 13),1<=m.val->m<m'->mbD l m+mdD l m<=mbD l m':=by decide
theorem yb6:∀ (l:Bool) (m:Fin 13),mdD l m<=31:=by decide
theorem y0m {l:Bool} {m:Int} (h1:1<=m) (h2:m<=12):mdD l m.toNat<=31:=yb6 l ⟨m.toNat,by omega⟩
theorem yw6:∀ (l:Bool) (m:Fin 12),1<=m.val->mbD l (m.val+1)=mbD l m+mdD l m:=by decide
def yvj (a y m d:Int):Prop:=2000<=y/\1<=m/\m<=12/\1<=d/\d<=mdD (yeb y) m.toNat/\a=ybD y+mbD (yeb y) m.toNat+d-1
theorem y5l (y:Int) (h:2000<=y):ybD (y+1)=ybD y+365+(bif yeb y then 1 else 0):=by
 have e1:y.tmod 4=y % 4:=Int.tmod_eq_emod_of_nonneg (by omega);have e2:y.tmod 100=y % 100:=Int.tmod_eq_emod_of_nonneg (by omega);have e3:y.tmod 400=y % 400:=Int.tmod_eq_emod_of_nonneg (by omega);by_cases hc:(y % 4=0/\y % 100≠0)\/y % 400=0
 ·have hl:yeb y=true:=by unfold yeb;rw[e1,e2,e3];simpa using hc
  rw[hl];simp only[cond_true];unfold ybD;omega
 ·have hl:yeb y=false:=by unfold yeb;rw[e1,e2,e3];simpa using hc
  rw[hl];simp only[cond_false];unfold ybD;omega
theorem yxl {y:Int} (h:2000<=y):0<=ybD y:=by unfold ybD;omega
theorem ye0 (y y':Int) (h:y<=y'):ybD y<=ybD y':=by unfold ybD;omega
theorem yzn {y:Int} (h:ybD y<=99999):y<=2273:=by unfold ybD at h;omega
theorem ygs {l:Bool} {m:Int} (h1:1<=m) (h2:m<=11):mbD l (m+1).toNat=mbD l m.toNat+mdD l m.toNat:=by
 have:=yw6 l ⟨m.toNat,by omega⟩ (by show 1<=m.toNat;omega);rw[show(m+1).toNat=m.toNat+1 by omega];exact this
theorem yw7 (l:Bool):mbD l 12+mdD l 12=365+(bif l then 1 else 0):=by cases l<;>rfl
theorem yqn (l:Bool):mbD l 1=0:=by cases l<;>rfl
theorem yqy {l:Bool} {m:Int} (h1:1<=m) (h2:m<=12):mbD l m.toNat+mdD l m.toNat<=365+(bif l then 1 else 0):=by
 rw[<- yw7 l];by_cases h:m=12
 ·subst h;exact Nat.le_refl _
 ·have:=ytt l ⟨m.toNat,by omega⟩ ⟨12,by omega⟩ (by show 1<=m.toNat;omega) (by show m.toNat<12;omega)
  have h3:mbD l m.toNat+mdD l m.toNat<=mbD l 12:=this;omega
theorem yvj.unique {a y m d y' m' d':Int} (h:yvj a y m d) (h':yvj a y' m' d'):y=y'/\m=m'/\d=d':=by
 obtain⟨hy,hm1,hm2,hd1,hd2,ha⟩:=h;obtain⟨hy',hm1',hm2',hd1',hd2',ha'⟩:=h';have e1:=yqy (l:=yeb y) hm1 hm2;have e1':=yqy (l:=yeb y') hm1' hm2';have l1:=y5l y hy;have l1':=y5l y' hy'
 have hyy:y=y':=by
  by_cases h1:y<y'
  ·have:=ye0 (y+1) y' (by omega)
   cases hl:yeb y<;>cases hl':yeb y'<;>simp only[hl,hl',cond_true,cond_false]at * <;> omega
  ·by_cases h2:y'<y
   ·have:=ye0 (y'+1) y (by omega)
    cases hl:yeb y<;>cases hl':yeb y'<;>simp only[hl,hl',cond_true,cond_false]at * <;> omega
   ·omega
 subst hyy
 have hmm:m=m':=by
  by_cases h1:m<m'
  ·have:=ytt (yeb y) ⟨m.toNat,by omega⟩ ⟨m'.toNat,by omega⟩ (by show 1<=m.toNat;omega) (by show m.toNat<m'.toNat;omega)
   have h3:mbD (yeb y) m.toNat+mdD (yeb y) m.toNat<=mbD (yeb y) m'.toNat:=this;omega
  ·by_cases h2:m'<m
   ·have:=ytt (yeb y) ⟨m'.toNat,by omega⟩ ⟨m.toNat,by omega⟩ (by show 1<=m'.toNat;omega) (by show m'.toNat<m.toNat;omega)
    have h3:mbD (yeb y) m'.toNat+mdD (yeb y) m'.toNat<=mbD (yeb y) m.toNat:=this;omega
   ·omega
 subst hmm;exact⟨rfl,rfl,by omega⟩
theorem yqk {ρ σ:Type} {body:σ->Except ρ σ} {I:σ->Prop} {Q:ρ->Prop} (hi:∀ s,I s->match body s with|.error r=>Q r|.ok t=>I t) :
  ∀ (k:Nat) (s:σ),I s->match y5 body k s with|.error r=>Q r|.ok t=>I t
 | 0,s,h=>by simpa [y5]using h
 | k+1,s,h=>by
  have:=hi s h;simp only[y5]
  cases hb:body s with
  | error r=>simp only[hb]at this ⊢;exact this
  | ok t=>simp only[hb]at this ⊢;exact yqk hi k t this
theorem y4l {ρ σ:Type} {body:σ->Except ρ σ} {I:σ->Prop} {Q:ρ->Prop} {M:σ->Nat} (hi:∀ s,I s->match body s with|.error r=>Q r|.ok t=>I t/\M t<M s) :
  ∀ (k:Nat) (s:σ),I s->M s<k->∃ r,y5 body k s=.error r/\Q r
 | 0,s,h,hk=>by omega
 | k+1,s,h,hk=>by
  have:=hi s h;simp only[y5]
  cases hb:body s with
  | error r=>simp only[hb]at this ⊢;exact⟨r,rfl,this⟩
  | ok t=>simp only[hb]at this ⊢;exact y4l hi k t this.1 (by omega)
end Go.Ab
namespace Go.Ab
open Go Go.Proofs
def zie (a0:(List UInt8)) (a1:Int):(List UInt8):=Go.Lib.repeatL a0 a1.toNat
theorem yf6 (a0:(List UInt8)) (a1:Int) (hp0:0<=a1) (hp1:a1<=9223372036854775807) (hp2:a0.length * a1.toNat<=140737488355328):Den Tryz.prog 332 [.str a0,.int .i64 a1] (.str (zie a0 a1)):=by
 obtain⟨c,rfl⟩:∃ c:Nat,a1=c:=⟨a1.toNat,by omega⟩
 refine Den.plain ⟨_,Tryz.func332,rfl,rfl⟩ (by simp[NoOwnL,NoOwn]) ?_;intro w M vs hI hr;simp only[RepL]at hr;obtain⟨u0,us0,f0,g0,rfl,h0e,h0,u1,us1,f1,g1,rfl,h1e,h1,rfl,_⟩:=hr;have e0:=h0.val_str;have e1:=h1.val_int;subst e0 e1;have hsz:(⟨a0.toArray⟩:ByteArray).size=a0.length:=by simp[ByteArray.size]
 refine(Any.strings_Repeat Tryz.lays105 Tryz.Builder_Extra_105 ⟨a0.toArray⟩ c w (by omega) (by rw[hsz];simpa using hp2)).mono ?_;rintro e w' ⟨rfl,hB⟩
 exact⟨_,rfl,y9f hB,fun M'=>ysb _ (by unfold zie;rw[yam];simp only[Int.toNat_natCast]at hp2;unfold maxLen;show a0.length * c<=_;omega)⟩
def D_zie : DF
 | [x0,x1]=>some (.str (zie (rdS x0) (rdI x1)),false,[wS x0,wI .i64 x1,0<=(rdI x1),(rdI x1)<=9223372036854775807,(rdS x0).length * (rdI x1).toNat<=140737488355328])
 | _=>none
theorem yp2:OkD Tryz.prog 332 D_zie:=by
 intro xs r z ob h ho;unfold D_zie at h;split at h
 ·simp only[Option.some.injEq,Prod.mk.injEq]at h
  obtain⟨rfl,rfl,rfl⟩:=h;obtain⟨h0,h1,hp0,hp1,hp2,_⟩:=ho;exact Den.sim (yf6 _ _ hp0 hp1 hp2) (yv (yfb h0).1 <| yv (yyf h1).1 <| trivial) (y0 (yfb h0).2 <| y0 (yyf h1).2 <| rfl) rfl
 ·cases h
theorem yrn (a:List UInt8) (c:Int):(zie a c).length=a.length * c.toNat:=by
 unfold zie;rw[yam]
open Go.RowKit in
theorem yp4 {f : FuncId} (hok : FnOk Tryz.prog f) (a0 : List (List UInt8)) (a1 : List UInt8) (hp0 : a0.length <= 1048576) (hp1 : (Go.Lib.join a0 a1).length <= 1099511627776)
  (hS:∀ (bk o c:Nat) (xs:List ByteArray) (sep:ByteArray) (w:World),(∀ (j:Nat) x,xs[j]? = some x->w.cell? ⟨bk,o+j,none⟩=some (.string x))->bk<w.heap.size->xs.length<=140737488355328->xs.length<=c ->
   (Go.Lib.join (xs.map (·.data.toList)) sep.data.toList).length<=140737488355328 ->
   Calls Tryz.prog f #[.slice (some ⟨bk,o,none⟩) xs.length c,.string sep] w fun e w'=>e=.returned (.string ⟨(Go.Lib.join (xs.map (·.data.toList)) sep.data.toList).toArray⟩)/\Below w.heap.size w w')
  (hN:∀ (a:Option Addr) (c:Nat) (sep:ByteArray) (w:World),Calls Tryz.prog f #[.slice a 0 c,.string sep] w fun e w'=>e=.returned (.string ⟨#[]⟩)/\w'=w) :
  Den Tryz.prog f [encL 1 (fun s:List UInt8=>[.str s]) a0,.str a1] (.str (Go.Lib.join a0 a1)):=by
 refine Den.plain hok (by simp[NoOwnL,NoOwn,encL]) ?_;intro w M vs hI hr;simp only[RepL]at hr;obtain⟨u0,us0,f0,g0,rfl,h0e,h0,u1,us1,f1,g1,rfl,h1e,h1,rfl,_⟩:=hr;have e1:=h1.val_str;subst e1;simp only[encL,Rep]at h0;rcases h0 with⟨hn,hev,_⟩|⟨b,o,cap,us,fps,rfl,⟨hc1,hc2⟩,hb,hcl,_⟩
 ·have h9:a0=[]:=List.length_eq_zero_iff.1 hn
  subst h9;rcases hev with rfl|⟨a,c,rfl⟩
  ·refine(hN none 0 ⟨a1.toArray⟩ w).mono ?_
   rintro e w' ⟨rfl,rfl⟩
   exact⟨_,rfl,Grow.refl _,fun M'=>ysb [] (by unfold maxLen;simp)⟩
  ·refine(hN (some a) c ⟨a1.toArray⟩ w).mono ?_
   rintro e w' ⟨rfl,rfl⟩
   exact⟨_,rfl,Grow.refl _,fun M'=>ysb [] (by unfold maxLen;simp)⟩
 ·have hx:((a0.map fun x=>(⟨x.toArray⟩:ByteArray)).map fun x=>x.data.toList)=a0:=by
   rw[List.map_map];exact List.map_id'' (fun x=>rfl) _
  have hcall:=hS b o cap (a0.map fun x=>(⟨x.toArray⟩:ByteArray)) ⟨a1.toArray⟩ w (fun j x hj=>by
   rw[List.getElem?_map]at hj
   cases hg:a0[j]? with
   | none=>rw[hg]at hj;simp at hj
   | some y=>
    rw[hg]at hj;simp only[Option.map_some,Option.some.injEq]at hj;subst hj;have hjl:=(List.getElem?_eq_some_iff.1 hg).1;obtain⟨c1,c2,c3⟩:=hcl j hjl;simp only[RepL]at c1;obtain⟨v,vs',q1,q2,hus,_,hv,hvs,_⟩:=c1;subst hvs;have hv:=hv.val_str;subst hv;rw[hus]at c3;have hgd:a0.getD j default=y:=by rw[List.getD_eq_getElem?_getD,hg];rfl
    rw[hgd]at c3;have h0:=(c3 0 _ rfl).1;rw[Nat.mul_one,Nat.add_zero]at h0
    exact h0) hb (by rw[List.length_map];omega) (by rw[List.length_map];exact hc1) (by rw[hx];exact Nat.le_trans hp1 (by omega))
  rw[List.length_map,hx]at hcall;refine hcall.mono ?_;rintro e w' ⟨rfl,hbl⟩
  exact⟨_,rfl,y9f hbl,fun M'=>ysb _ (by unfold maxLen;omega)⟩
def znb (a0:(List (List UInt8))) (a1:(List UInt8)):(List UInt8):=Go.Lib.join a0 a1
theorem yn6 (a0:(List (List UInt8))) (a1:(List UInt8)) (hp0:a0.length<=1048576) (hp1:(Go.Lib.join a0 a1).length<=1099511627776):Den Tryz.prog 62 [encL 1 eS a0,.str a1] (.str (znb a0 a1)):=by
 exact yp4 ⟨_,Tryz.func62,rfl,rfl⟩ a0 a1 hp0 hp1 (fun bk o c xs sep w h1 h2 h3 h4 h5=>Any.strings_Join Tryz.lays156 Tryz.Builder_Extra_156 bk o c xs sep w h1 h2 h3 h4 h5) (fun a c sep w=>Any.strings_Join_none Tryz.lays156 Tryz.Builder_Extra_156 a c sep w)
def D_znb : DF
 | [x0,x1]=>some (.str (znb (rdL dS x0) (rdS x1)),false,[wL 1 eS dS x0,wS x1,(rdL dS x0).length<=1048576,(Go.Lib.join (rdL dS x0) (rdS x1)).length<=1099511627776])
 | _=>none
theorem yei:OkD Tryz.prog 62 D_znb:=by
 intro xs r z ob h ho;unfold D_znb at h;split at h
 ·simp only[Option.some.injEq,Prod.mk.injEq]at h
  obtain⟨rfl,rfl,rfl⟩:=h;obtain⟨h0,h1,hp0,hp1,_⟩:=ho;exact Den.sim (yn6 _ _ hp0 hp1) (yv (y3p h0).1 <| yv (yfb h1).1 <| trivial) (y0 (y3p h0).2 <| y0 (yfb h1).2 <| rfl) rfl
 ·cases h
end Go.Ab
namespace Go.Ab
open Go Go.Lib
def yf (c : UInt8) : List UInt8 -> List (List UInt8)
  | []=>[[]]
  | b :: l => if b = c then [] :: yf c l else match yf c l with
    | []=>[[b]]
    | x::r=>(b::x)::r
theorem y1f (c : UInt8) : ∀ l, yf c l ≠ []
 | []=>by simp[yf]
 | b::l=>by
  simp only[yf];split
  ·simp
  ·split<;>simp
theorem yib (c : UInt8) : ∀ l : List UInt8, c ∉ l -> yf c l = [l]
 | [],_=>rfl
 | b::l,h=>by
  simp only[List.mem_cons,not_or]at h;rw[yf,if_neg (fun e=>h.1 e.symm),yib c l h.2]
theorem y8 (c : UInt8) : ∀ (a l : List UInt8), c ∉ a -> yf c (a ++ c :: l) = a :: yf c l
 | [],l,_=>by simp[yf]
 | b::a,l,h=>by
  simp only[List.mem_cons,not_or]at h;rw[List.cons_append,yf,if_neg (fun e=>h.1 e.symm),y8 c a l h.2]
theorem y53 (c:UInt8):∀ (n:Nat) (s:List UInt8),s.length<=n->splitK [c] 0 (count s [c]) s=yf c s:=by
 intro n
 induction n with
 | zero=>
  intro s h;have:s=[]:=List.length_eq_zero_iff.1 (by omega);subst this;have hi:index [] [c] = -1:=by rw[index_one];rfl
  rw[count_miss hi];rfl
 | succ n ih=>
  intro s h;have h1:=index_one s c;by_cases hm:indexByte s c = -1
  ·rw[count_miss (by rw[h1];exact hm)]
   have hn:=indexByte_none hm
   rw[yib c s (fun hc=>by
    obtain⟨k,hk⟩:=List.getElem?_of_mem hc
    exact hn k hk)]
   rfl
  ·have hge:=indexByte_ge s c
   obtain⟨o,ho⟩:∃ o:Nat,indexByte s c=o:=⟨(indexByte s c).toNat,by omega⟩
   obtain⟨e1,e2⟩:=indexByte_some ho;have hio:index s [c]=(o:Int):=h1.trans ho;rw[count_hit (by simp) hio,Nat.add_comm,splitK,if_neg (by rw[hio];simp),hio];have hlt:o<s.length:=(List.getElem?_eq_some_iff.1 e1).1
   have hs:s=s.take o++c::s.drop (o+1):=by
    conv=>lhs;rw[<- List.take_append_drop o s]
    rw[List.drop_eq_getElem_cons hlt];congr 2
    exact(List.getElem?_eq_some_iff.1 e1).2
   have hnot:c∉s.take o:=fun hc=>by
    obtain⟨k,hk⟩:=List.getElem?_of_mem hc
    have hko:k<o:=by
     have:=(List.getElem?_eq_some_iff.1 hk).1;simp at this;omega
    rw[List.getElem?_take_of_lt hko]at hk;exact e2 k hko hk
   have hd:s.drop ((o:Int).toNat+[c].length)=s.drop (o+1):=by simp
   rw[hd,show o+[c].length=o+1 from rfl,ih (s.drop (o+1)) (by simp;omega)];conv=>rhs;rw[hs]
   rw[y8 c _ _ hnot];simp
theorem yu (c : UInt8) : ∀ (l : List UInt8), (yf c l).length <= l.length + 1 /\ ∀ x ∈ yf c l, x.length <= l.length
 | []=>by simp[yf]
 | b::l=>by
  obtain⟨h1,h2⟩:=yu c l;simp only[yf];split
  ·simp only[List.length_cons,List.mem_cons]
   refine⟨by omega,fun x hx => ?_⟩;rcases hx with rfl|hx
   ·simp
   ·have:=h2 x hx;omega
  ·split
   ·simp
   ·rename_i x r he
    rw[he]at h1 h2;simp only[List.length_cons,List.mem_cons]at h1 ⊢;refine⟨by omega,fun y hy => ?_⟩;rcases hy with rfl|hy
    ·have:=h2 x (by simp);simp only[List.length_cons];omega
    ·have:=h2 y (by simp[hy]);omega
end Go.Ab
