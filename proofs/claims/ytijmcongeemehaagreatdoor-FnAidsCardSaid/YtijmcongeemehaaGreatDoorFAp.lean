/- A part of a proof: walks of functions and lemmas of our own. No conditions. -/
import Derived.Test.YtijmcongeemehaaGreatDoorFAl
import Derived.Test.YtijmcongeemehaaGreatDoorFAg
import Derived.ProofKit
import Derived.Test.YtijmcongeemehaaGreatDoorFAm
import Derived.Test.YtijmcongeemehaaGreatDoorFAn
import Derived.Test.YtijmcongeemehaaGreatDoorFAo
import Derived.Shelf.Strings.Split
import Derived.Test.YtijmcongeemehaaGreatDoorFAi
import Derived.Test.YtijmcongeemehaaGreatDoorFAj
import Derived.Test.YtijmcongeemehaaGreatDoorRows
set_option linter.unusedSectionVars false
set_option linter.unusedVariables false
set_option linter.unusedSimpArgs false
set_option maxHeartbeats 1000000
namespace Go.Ab
open Go
def ydc (y:Int):Bool:=(((y.tmod 4 == 0) && (y.tmod 100 != 0)) || (y.tmod 400 == 0))
theorem yhl {n:Int} (h1 : -9223372036854775808<=n) (h2:n<=9223372036854775807):IntKind.wrap .i64 n=n:=by
 rw[IntKind.wrap_i64];omega
theorem yel {m:Int} (h1:1<=m) (h2:m<=12):m=1\/m=2\/m=3\/m=4\/m=5\/m=6\/m=7\/m=8\/m=9\/m=10\/m=11\/m=12:=by omega
def ybD (y:Int):Int:=365 * (y-2000)+(y-1997) / 4-(y-1901) / 100+(y-1601) / 400
def mbD (l:Bool) (m:Nat):Nat:=([0,0,31,59,90,120,151,181,212,243,273,304,334]:List Nat).getD m 0+(bif l && Nat.blt 2 m then 1 else 0)
def mdD (l:Bool) (m:Nat):Nat:=([0,31,28,31,30,31,30,31,31,30,31,30,31]:List Nat).getD m 0+(bif l && Nat.beq 2 m then 1 else 0)
theorem yct:∀ (l:Bool) (m m':Fin 13),1<=m.val->m<m'->mbD l m+mdD l m<=mbD l m':=by decide
theorem ys6:∀ (l:Bool) (m:Fin 13),mdD l m<=31:=by decide
theorem yu8 {l:Bool} {m:Int} (h1:1<=m) (h2:m<=12):mdD l m.toNat<=31:=ys6 l ⟨m.toNat,by omega⟩
theorem yv6:∀ (l:Bool) (m:Fin 12),1<=m.val->mbD l (m.val+1)=mbD l m+mdD l m:=by decide
def ydp (a y m d:Int):Prop:=2000<=y/\1<=m/\m<=12/\1<=d/\d<=mdD (ydc y) m.toNat/\a=ybD y+mbD (ydc y) m.toNat+d-1
theorem ygt (y:Int) (h:2000<=y):ybD (y+1)=ybD y+365+(bif ydc y then 1 else 0):=by
 have e1:y.tmod 4=y % 4:=Int.tmod_eq_emod_of_nonneg (by omega);have e2:y.tmod 100=y % 100:=Int.tmod_eq_emod_of_nonneg (by omega);have e3:y.tmod 400=y % 400:=Int.tmod_eq_emod_of_nonneg (by omega);by_cases hc:(y % 4=0/\y % 100≠0)\/y % 400=0
 ·have hl:ydc y=true:=by unfold ydc;rw[e1,e2,e3];simpa using hc
  rw[hl];simp only[cond_true];unfold ybD;omega
 ·have hl:ydc y=false:=by unfold ydc;rw[e1,e2,e3];simpa using hc
  rw[hl];simp only[cond_false];unfold ybD;omega
theorem ypr {y:Int} (h:2000<=y):0<=ybD y:=by unfold ybD;omega
theorem ypx (y y':Int) (h:y<=y'):ybD y<=ybD y':=by unfold ybD;omega
theorem ycx {y:Int} (h:ybD y<=99999):y<=2273:=by unfold ybD at h;omega
theorem yx5 {l:Bool} {m:Int} (h1:1<=m) (h2:m<=11):mbD l (m+1).toNat=mbD l m.toNat+mdD l m.toNat:=by
 have:=yv6 l ⟨m.toNat,by omega⟩ (by show 1<=m.toNat;omega);rw[show(m+1).toNat=m.toNat+1 by omega];exact this
theorem y75 (l:Bool):mbD l 12+mdD l 12=365+(bif l then 1 else 0):=by cases l<;>rfl
theorem yr2 (l:Bool):mbD l 1=0:=by cases l<;>rfl
theorem yuz {l:Bool} {m:Int} (h1:1<=m) (h2:m<=12):mbD l m.toNat+mdD l m.toNat<=365+(bif l then 1 else 0):=by
 rw[<- y75 l];by_cases h:m=12
 ·subst h;exact Nat.le_refl _
 ·have:=yct l ⟨m.toNat,by omega⟩ ⟨12,by omega⟩ (by show 1<=m.toNat;omega) (by show m.toNat<12;omega)
  have h3:mbD l m.toNat+mdD l m.toNat<=mbD l 12:=this;omega
theorem ydp.unique {a y m d y' m' d':Int} (h:ydp a y m d) (h':ydp a y' m' d'):y=y'/\m=m'/\d=d':=by
 obtain⟨hy,hm1,hm2,hd1,hd2,ha⟩:=h;obtain⟨hy',hm1',hm2',hd1',hd2',ha'⟩:=h';have e1:=yuz (l:=ydc y) hm1 hm2;have e1':=yuz (l:=ydc y') hm1' hm2';have l1:=ygt y hy;have l1':=ygt y' hy'
 have hyy:y=y':=by
  by_cases h1:y<y'
  ·have:=ypx (y+1) y' (by omega)
   cases hl:ydc y<;>cases hl':ydc y'<;>simp only[hl,hl',cond_true,cond_false]at * <;> omega
  ·by_cases h2:y'<y
   ·have:=ypx (y'+1) y (by omega)
    cases hl:ydc y<;>cases hl':ydc y'<;>simp only[hl,hl',cond_true,cond_false]at * <;> omega
   ·omega
 subst hyy
 have hmm:m=m':=by
  by_cases h1:m<m'
  ·have:=yct (ydc y) ⟨m.toNat,by omega⟩ ⟨m'.toNat,by omega⟩ (by show 1<=m.toNat;omega) (by show m.toNat<m'.toNat;omega)
   have h3:mbD (ydc y) m.toNat+mdD (ydc y) m.toNat<=mbD (ydc y) m'.toNat:=this;omega
  ·by_cases h2:m'<m
   ·have:=yct (ydc y) ⟨m'.toNat,by omega⟩ ⟨m.toNat,by omega⟩ (by show 1<=m'.toNat;omega) (by show m'.toNat<m.toNat;omega)
    have h3:mbD (ydc y) m'.toNat+mdD (ydc y) m'.toNat<=mbD (ydc y) m.toNat:=this;omega
   ·omega
 subst hmm;exact⟨rfl,rfl,by omega⟩
theorem ylr {ρ σ:Type} {body:σ->Except ρ σ} {I:σ->Prop} {Q:ρ->Prop} (hi:∀ s,I s->match body s with|.error r=>Q r|.ok t=>I t) :
  ∀ (k:Nat) (s:σ),I s->match y0 body k s with|.error r=>Q r|.ok t=>I t
 | 0,s,h=>by simpa [y0]using h
 | k+1,s,h=>by
  have:=hi s h;simp only[y0]
  cases hb:body s with
  | error r=>simp only[hb]at this ⊢;exact this
  | ok t=>simp only[hb]at this ⊢;exact ylr hi k t this
theorem y1k {ρ σ:Type} {body:σ->Except ρ σ} {I:σ->Prop} {Q:ρ->Prop} {M:σ->Nat} (hi:∀ s,I s->match body s with|.error r=>Q r|.ok t=>I t/\M t<M s) :
  ∀ (k:Nat) (s:σ),I s->M s<k->∃ r,y0 body k s=.error r/\Q r
 | 0,s,h,hk=>by omega
 | k+1,s,h,hk=>by
  have:=hi s h;simp only[y0]
  cases hb:body s with
  | error r=>simp only[hb]at this ⊢;exact⟨r,rfl,this⟩
  | ok t=>simp only[hb]at this ⊢;exact y1k hi k t this.1 (by omega)
end Go.Ab
namespace Go.Ab
open Go Go.Proofs
def zah (a0:(List UInt8)) (a1:Int):(List UInt8):=Go.Lib.repeatL a0 a1.toNat
theorem y0z {f : FuncId} {T : TypeId} (hok : FnOk Tryz.prog f) (a0 a1 : List UInt8) (hp0 : a0.length <= 1048576) (hp1 : a1.length = 1)
  (hS:∀ (s sep:ByteArray) (m:Int) (w:World),s.size<4294967281->w.cell? ⟨1,0,none⟩=some (.int .i64 m)->1<=sep.size->Calls Tryz.prog f #[.string s,.string sep] w fun e w'=>
   e=.returned (.slice (some ⟨w.heap.size,0,none⟩) (Go.Lib.countB s sep+1) (Go.Lib.countB s sep+1))/\w'=w.alloc (.cells ((Go.Lib.splitB sep 0 (Go.Lib.countB s sep) s).map Value.string).toArray T)) :
  Den Tryz.prog f [.str a0,.str a1] (ownL T 1 (fun s:List UInt8=>[.str s]) (ym (a1.getD 0 0) a0)):=by
 obtain⟨c,rfl⟩:∃ c,a1=[c]:=List.length_eq_one_iff.1 hp1
 have hl:Go.Lib.splitB ⟨#[c]⟩ 0 (Go.Lib.countB ⟨a0.toArray⟩ ⟨#[c]⟩) ⟨a0.toArray⟩=(ym c a0).map fun x=>(⟨x.toArray⟩:ByteArray):=by
  have h1:=Go.Lib.splitB_data ⟨#[c]⟩ 0 (Go.Lib.countB ⟨a0.toArray⟩ ⟨#[c]⟩) ⟨a0.toArray⟩;rw[show Go.Lib.splitK (⟨#[c]⟩:ByteArray).data.toList 0 (Go.Lib.countB ⟨a0.toArray⟩ ⟨#[c]⟩) (⟨a0.toArray⟩:ByteArray).data.toList=ym c a0 from yl3 c _ a0 (Nat.le_refl _)]at h1;rw[<- h1,List.map_map];refine(List.map_id'' (fun x => ?_) _).symm;rfl
 have hcl:(ym c a0).length=Go.Lib.countB ⟨a0.toArray⟩ ⟨#[c]⟩+1:=by
  have h2:=Go.Lib.splitB_all ⟨#[c]⟩ (by show 1<=1;omega) 0 (Go.Lib.countB ⟨a0.toArray⟩ ⟨#[c]⟩) ⟨a0.toArray⟩ rfl;rw[hl]at h2;simpa using h2
 obtain⟨l1,l2⟩:=ycb c a0
 have hnth:∀ i,i<(ym c a0).length->((ym c a0).getD i default).length<=maxLen:=by
  intro i hi
  have:(ym c a0).getD i default∈ym c a0:=by
   rw[List.getD_eq_getElem?_getD,List.getElem?_eq_getElem hi];simp
  have:=l2 _ this;unfold maxLen;omega
 refine Den.fresh (T:=T) (e:=1) (enc:=fun s:List UInt8=>[.str s]) (l:=ym c a0) hok (by simp[NoOwnL,NoOwn]) (fun i=>[Value.string ⟨((ym c a0).getD i default).toArray⟩]) (fun w M i hi=>⟨?_,rfl,by simp[Value.oneCell']⟩) ?_
 ·simp only[RepL]
  exact⟨_,[],[],[],rfl,rfl,y0b _ (hnth i hi),rfl,rfl⟩
 ·intro w M vs hI hr
  simp only[RepL]at hr;obtain⟨u0,us0,f0,g0,rfl,h0e,h0,u1,us1,f1,g1,rfl,h1e,h1,rfl,_⟩:=hr;have e0:=h0.val_str;have e1:=h1.val_str;subst e0 e1;obtain⟨m,hm⟩:=hI.1.2;refine(hS ⟨a0.toArray⟩ ⟨#[c]⟩ m w (by show a0.length<_;omega) hm (by show 1<=1;omega)).mono ?_;rintro e w' ⟨rfl,rfl⟩
  refine⟨w.heap.size,(ym c a0).length,((ym c a0).map fun x=>Value.string ⟨x.toArray⟩).toArray,by rw[<- hcl],?_⟩
  have hmap:(Go.Lib.splitB ⟨#[c]⟩ 0 (Go.Lib.countB ⟨a0.toArray⟩ ⟨#[c]⟩) ⟨a0.toArray⟩).map Value.string=(ym c a0).map fun x=>Value.string ⟨x.toArray⟩:=by
   rw[hl,List.map_map];rfl
  rw[hmap];have hfl:=ykk w T ((ym c a0).map fun x=>Value.string ⟨x.toArray⟩) (by rw[List.length_map];unfold maxLen;omega);rw[List.length_map]at hfl
  have hus:((List.range (ym c a0).length).flatMap fun i=>[((ym c a0).map fun x=>Value.string ⟨x.toArray⟩).getD i default])=(List.range (ym c a0).length).flatMap fun i=>[Value.string ⟨((ym c a0).getD i default).toArray⟩]:=by
   rw[List.flatMap_def,List.flatMap_def];congr 1
   apply List.map_congr_left;intro i hi;have hi:=List.mem_range.1 hi;simp[List.getD_eq_getElem?_getD,List.getElem?_map,List.getElem?_eq_getElem hi]
  rw[hus]at hfl;exact hfl
def zg (a0:(List UInt8)) (a1:(List UInt8)):(List (List UInt8)):=ym (a1.getD 0 0) a0
theorem ym8 (a0:(List UInt8)) (a1:(List UInt8)) (hp0:a0.length<=1048576) (hp1:a1.length=1):Den Tryz.prog 80 [.str a0,.str a1] (ownL 9 1 eS (zg a0 a1)):=by
 exact y0z ⟨_,Tryz.func80,rfl,rfl⟩ a0 a1 hp0 hp1 (fun s sep m w=>Any.strings_Split Tryz.lays146 (by kernel_rfl) s sep m w)
def D_zg : DF
 | [x0,x1]=>some (ownL 9 1 eS (zg (rdS x0) (rdS x1)),false,[wS x0,wS x1,(rdS x0).length<=1048576,(rdS x1).length=1])
 | _=>none
theorem ygo:OkD Tryz.prog 80 D_zg:=by
 intro xs r z ob h ho;unfold D_zg at h;split at h
 ·simp only[Option.some.injEq,Prod.mk.injEq]at h
  obtain⟨rfl,rfl,rfl⟩:=h;obtain⟨h0,h1,hp0,hp1,_⟩:=ho;exact Den.sim (ym8 _ _ hp0 hp1) (yr (yjb h0).1 <| yr (yjb h1).1 <| trivial) (yy (yjb h0).2 <| yy (yjb h1).2 <| rfl) rfl
 ·cases h
theorem yfu (a b:List UInt8) (h:a.length<=1048576):(zg a b).length<=1048577/\∀ x∈zg a b,x.length<=1048576:=by
 obtain⟨h1,h2⟩:=ycb (b.getD 0 0) a;exact⟨by unfold zg;omega,fun x hx=>by have:=h2 x hx;omega⟩
def zd (a0:(List UInt8)) (a1:(List UInt8)):((List UInt8)×(List UInt8)×Bool):=Go.Lib.cut a0 a1
theorem yg8 (a0:(List UInt8)) (a1:(List UInt8)) (hp0:a0.length<=1048576):Den Tryz.prog 164 [.str a0,.str a1] (.tup [.str ((zd a0 a1).1),.str ((zd a0 a1).2.1),.bool ((zd a0 a1).2.2)]):=by
 refine Den.plain ⟨_,Tryz.func164,rfl,rfl⟩ (by simp[NoOwnL,NoOwn]) ?_;intro w M vs hI hr;simp only[RepL]at hr;obtain⟨u0,us0,f0,g0,rfl,h0e,h0,u1,us1,f1,g1,rfl,h1e,h1,rfl,_⟩:=hr;have e0:=h0.val_str;have e1:=h1.val_str;subst e0 e1;obtain⟨m,hm⟩:=hI.1.2;refine(Any.strings_Cut Tryz.lays145 ⟨a0.toArray⟩ ⟨a1.toArray⟩ m w (by show a0.length<_;omega) hm).mono ?_;rintro e w' ⟨rfl,k,rfl⟩
 exact⟨_,rfl,y4x w k,fun M'=>yyx (y0b _ (by have:=yes a0 a1;show(Go.Lib.cut a0 a1).1.length<=maxLen;unfold maxLen;omega)) (y0b _ (by have:=yes a0 a1;show(Go.Lib.cut a0 a1).2.1.length<=maxLen;unfold maxLen;omega)) (yhc _)⟩
def D_zd : DF
 | [x0,x1]=>some (.tup [.str ((zd (rdS x0) (rdS x1)).1),.str ((zd (rdS x0) (rdS x1)).2.1),.bool ((zd (rdS x0) (rdS x1)).2.2)],false,[wS x0,wS x1,(rdS x0).length<=1048576])
 | _=>none
theorem yhk:OkD Tryz.prog 164 D_zd:=by
 intro xs r z ob h ho;unfold D_zd at h;split at h
 ·simp only[Option.some.injEq,Prod.mk.injEq]at h
  obtain⟨rfl,rfl,rfl⟩:=h;obtain⟨h0,h1,hp0,_⟩:=ho;exact Den.sim (yg8 _ _ hp0) (yr (yjb h0).1 <| yr (yjb h1).1 <| trivial) (yy (yjb h0).2 <| yy (yjb h1).2 <| rfl) rfl
 ·cases h
def zi (a0:(List UInt8)) (a1:(List UInt8)):((List UInt8)×Bool):=(Go.Lib.trimSuffix a0 a1,Go.Lib.hasSuffix a0 a1)
theorem yn7 (a0:(List UInt8)) (a1:(List UInt8)) (hp0:a0.length<=1048576):Den Tryz.prog 243 [.str a0,.str a1] (.tup [.str ((zi a0 a1).1),.bool ((zi a0 a1).2)]):=by
 refine Den.plain ⟨_,Tryz.func243,rfl,rfl⟩ (by simp[NoOwnL,NoOwn]) ?_;intro w M vs hI hr;simp only[RepL]at hr;obtain⟨u0,us0,f0,g0,rfl,h0e,h0,u1,us1,f1,g1,rfl,h1e,h1,rfl,_⟩:=hr;have e0:=h0.val_str;have e1:=h1.val_str;subst e0 e1;refine(Any.strings_CutSuffix Tryz.lays104 ⟨a0.toArray⟩ ⟨a1.toArray⟩ w (by show a0.length<=_;omega)).mono ?_;rintro e w' ⟨rfl,rfl⟩
 exact⟨_,rfl,Grow.refl _,fun M'=>y05 (y0b _ (by have:=yvc a0 a1;show(Go.Lib.trimSuffix a0 a1).length<=maxLen;unfold maxLen;omega)) (yhc _)⟩
def D_zi : DF
 | [x0,x1]=>some (.tup [.str ((zi (rdS x0) (rdS x1)).1),.bool ((zi (rdS x0) (rdS x1)).2)],false,[wS x0,wS x1,(rdS x0).length<=1048576])
 | _=>none
theorem yq5:OkD Tryz.prog 243 D_zi:=by
 intro xs r z ob h ho;unfold D_zi at h;split at h
 ·simp only[Option.some.injEq,Prod.mk.injEq]at h
  obtain⟨rfl,rfl,rfl⟩:=h;obtain⟨h0,h1,hp0,_⟩:=ho;exact Den.sim (yn7 _ _ hp0) (yr (yjb h0).1 <| yr (yjb h1).1 <| trivial) (yy (yjb h0).2 <| yy (yjb h1).2 <| rfl) rfl
 ·cases h
theorem yze (a b:List UInt8):(zd a b).1.length<=a.length/\(zd a b).2.1.length<=a.length:=yes a b
theorem yhq (a b:List UInt8):(zi a b).1.length<=a.length:=yvc a b
theorem yde {ρ σ : Type} {b : Nat -> σ -> Except ρ σ} (I : Nat -> σ -> Prop) : ∀ {k i : Nat} {s t : σ}, yf b k i s = .ok t -> I i s -> (∀ j u v, i <= j -> j < i + k -> I j u -> b j u = .ok v -> I (j + 1) v) -> I (i + k) t
 | 0,i,s,t,h,h0,_=>by simp only[yf,Except.ok.injEq]at h;subst h;exact h0
 | k+1,i,s,t,h,h0,hb=>by
  simp only[yf]at h
  cases hq:b i s with
  | error e=>rw[hq]at h;simp at h
  | ok v=>
   rw[hq]at h;have:=yde I (k:=k) (i:=i+1) h (hb i s v (Nat.le_refl _) (by omega) h0 hq) (fun j u v h1 h2=>hb j u v (by omega) (by omega));rw[show i+1+k=i+(k+1)by omega]at this;exact this
def zqd (a0:(List UInt8)) (a1:(List UInt8)):(List UInt8):=Go.Lib.trimSuffix a0 a1
theorem yw6 (a0:(List UInt8)) (a1:(List UInt8)) (hp0:a0.length<=1048576):Den Tryz.prog 169 [.str a0,.str a1] (.str (zqd a0 a1)):=by
 refine Den.plain ⟨_,Tryz.func169,rfl,rfl⟩ (by simp[NoOwnL,NoOwn]) ?_;intro w M vs hI hr;simp only[RepL]at hr;obtain⟨u0,us0,f0,g0,rfl,h0e,h0,u1,us1,f1,g1,rfl,h1e,h1,rfl,_⟩:=hr;have e0:=h0.val_str;have e1:=h1.val_str;subst e0 e1;refine(Any.strings_TrimSuffix Tryz.lays102 ⟨a0.toArray⟩ ⟨a1.toArray⟩ w (by show a0.length<=_;omega)).mono ?_;rintro e w' ⟨rfl,rfl⟩
 exact⟨_,rfl,Grow.refl _,fun M'=>y0b _ (by have:=yvc a0 a1;show(Go.Lib.trimSuffix a0 a1).length<=maxLen;unfold maxLen;omega)⟩
def D_zqd : DF
 | [x0,x1]=>some (.str (zqd (rdS x0) (rdS x1)),false,[wS x0,wS x1,(rdS x0).length<=1048576])
 | _=>none
theorem y8z:OkD Tryz.prog 169 D_zqd:=by
 intro xs r z ob h ho;unfold D_zqd at h;split at h
 ·simp only[Option.some.injEq,Prod.mk.injEq]at h
  obtain⟨rfl,rfl,rfl⟩:=h;obtain⟨h0,h1,hp0,_⟩:=ho;exact Den.sim (yw6 _ _ hp0) (yr (yjb h0).1 <| yr (yjb h1).1 <| trivial) (yy (yjb h0).2 <| yy (yjb h1).2 <| rfl) rfl
 ·cases h
theorem ysx (a b:List UInt8):(zqd a b).length<=a.length:=yvc a b
end Go.Ab
namespace Go.Ab
open Go
structure RdOk {α:Type} (V:α->Prop) (T:α->List UInt8) (z:α) (f:List UInt8->α×Bool) (N:Nat):Prop where
 r1:∀ p,V p->(T p).length<=N->f (T p)=(p,true)
 r2:∀ a:List UInt8,a.length<=N->(f a).2=true->V (f a).1/\a=T (f a).1
 r3:∀ a:List UInt8,a.length<=N->(f a).2=false->(f a).1=z
theorem RdOk.eq {α:Type} {V:α->Prop} {T:α->List UInt8} {z:α} {f g:List UInt8->α×Bool} {N:Nat} (hf:RdOk V T z f N) (hg:RdOk V T z g N) (a:List UInt8) (h:a.length<=N):f a=g a:=by
 cases e:(f a).2 with
 | true=>
  obtain⟨h1,h2⟩:=hf.r2 a h e;have h3:=hg.r1 _ h1 (by rw[<- h2];exact h);rw[<- h2]at h3;rw[h3, <- e]
 | false=>
  cases e2:(g a).2 with
  | true=>
   obtain⟨h1,h2⟩:=hg.r2 a h e2;have h3:=hf.r1 _ h1 (by rw[<- h2];exact h);rw[<- h2]at h3;rw[h3]at e;cases e
  | false=>
   have h1:=hf.r3 a h e;have h2:=hg.r3 a h e2;exact Prod.ext (h1.trans h2.symm) (e.trans e2.symm)
theorem RdOk.of {α:Type} {V:α->Prop} {T:α->List UInt8} {z:α} {f:List UInt8->α×Bool} {N:Nat} (r1:∀ p,V p->(T p).length<=N->f (T p)=(p,true)) (inv:∀ a:List UInt8,a.length<=N->f a=(z,false)\/∃ p,f a=(p,true)/\V p/\a=T p):RdOk V T z f N:=
 ⟨r1,fun a h e=>by
  rcases inv a h with h1|⟨p,h1,h2,h3⟩
  ·rw[h1]at e;cases e
  ·rw[h1];exact⟨h2,h3⟩,fun a h e=>by
  rcases inv a h with h1|⟨p,h1,h2,h3⟩
  ·rw[h1]
  ·rw[h1]at e;cases e⟩
theorem yfi {α:Type} {V:α->Prop} {T:α->List UInt8} {z:α} (a:List UInt8) (m:α) (c:Bool) (hc:c=false->V m/\a=T m):(bif c then(z,false)else(m,true))=(z,false)\/∃ p,(bif c then(z,false)else(m,true))=(p,true)/\V p/\a=T p:=by
 cases c with
 | true=>exact .inl rfl
 | false=>exact .inr ⟨m,rfl,hc rfl⟩
theorem yhf {α:Type} [Inhabited α] (l:List α) (j:Nat) (hj:j<l.length):l.take j++[l.getD j default]=l.take (j+1):=by
 rw[List.take_succ_eq_append_getElem hj,List.getD_eq_getElem?_getD,List.getElem?_eq_getElem hj];rfl
end Go.Ab
