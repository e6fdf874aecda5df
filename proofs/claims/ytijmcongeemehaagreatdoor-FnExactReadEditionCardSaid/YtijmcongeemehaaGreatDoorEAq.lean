/- A part of a proof: walks of functions and lemmas of our own. No conditions. -/
import Derived.Test.YtijmcongeemehaaGreatDoorEAm
import Derived.Test.YtijmcongeemehaaGreatDoorEAl
import Derived.Test.YtijmcongeemehaaGreatDoorEAp
import Derived.Test.YtijmcongeemehaaGreatDoorEAo
import Derived.Shelf.Strings.Split
import Derived.Lib.IndexMore
import Derived.Lib.Join
import Derived.Test.YtijmcongeemehaaGreatDoorEAi
import Derived.Test.YtijmcongeemehaaGreatDoorEAj
import Derived.Test.YtijmcongeemehaaGreatDoorRows
set_option linter.unusedSectionVars false
set_option linter.unusedVariables false
set_option linter.unusedSimpArgs false
set_option maxHeartbeats 1000000
namespace Go.Ab
open Go Go.Proofs
theorem ydz {f : FuncId} {T : TypeId} (hok : FnOk Tryz.prog f) (a0 a1 : List UInt8) (hp0 : a0.length <= 1048576) (hp1 : a1.length = 1)
  (hS:∀ (s sep:ByteArray) (m:Int) (w:World),s.size<4294967281->w.cell? ⟨1,0,none⟩=some (.int .i64 m)->1<=sep.size->Calls Tryz.prog f #[.string s,.string sep] w fun e w'=>
   e=.returned (.slice (some ⟨w.heap.size,0,none⟩) (Go.Lib.countB s sep+1) (Go.Lib.countB s sep+1))/\w'=w.alloc (.cells ((Go.Lib.splitB sep 0 (Go.Lib.countB s sep) s).map Value.string).toArray T)) :
  Den Tryz.prog f [.str a0,.str a1] (ownL T 1 (fun s:List UInt8=>[.str s]) (yf (a1.getD 0 0) a0)):=by
 obtain⟨c,rfl⟩:∃ c,a1=[c]:=List.length_eq_one_iff.1 hp1
 have hl:Go.Lib.splitB ⟨#[c]⟩ 0 (Go.Lib.countB ⟨a0.toArray⟩ ⟨#[c]⟩) ⟨a0.toArray⟩=(yf c a0).map fun x=>(⟨x.toArray⟩:ByteArray):=by
  have h1:=Go.Lib.splitB_data ⟨#[c]⟩ 0 (Go.Lib.countB ⟨a0.toArray⟩ ⟨#[c]⟩) ⟨a0.toArray⟩;rw[show Go.Lib.splitK (⟨#[c]⟩:ByteArray).data.toList 0 (Go.Lib.countB ⟨a0.toArray⟩ ⟨#[c]⟩) (⟨a0.toArray⟩:ByteArray).data.toList=yf c a0 from y53 c _ a0 (Nat.le_refl _)]at h1;rw[<- h1,List.map_map];refine(List.map_id'' (fun x => ?_) _).symm;rfl
 have hcl:(yf c a0).length=Go.Lib.countB ⟨a0.toArray⟩ ⟨#[c]⟩+1:=by
  have h2:=Go.Lib.splitB_all ⟨#[c]⟩ (by show 1<=1;omega) 0 (Go.Lib.countB ⟨a0.toArray⟩ ⟨#[c]⟩) ⟨a0.toArray⟩ rfl;rw[hl]at h2;simpa using h2
 obtain⟨l1,l2⟩:=yu c a0
 have hnth:∀ i,i<(yf c a0).length->((yf c a0).getD i default).length<=maxLen:=by
  intro i hi
  have:(yf c a0).getD i default∈yf c a0:=by
   rw[List.getD_eq_getElem?_getD,List.getElem?_eq_getElem hi];simp
  have:=l2 _ this;unfold maxLen;omega
 refine Den.fresh (T:=T) (e:=1) (enc:=fun s:List UInt8=>[.str s]) (l:=yf c a0) hok (by simp[NoOwnL,NoOwn]) (fun i=>[Value.string ⟨((yf c a0).getD i default).toArray⟩]) (fun w M i hi=>⟨?_,rfl,by simp[Value.oneCell']⟩) ?_
 ·simp only[RepL]
  exact⟨_,[],[],[],rfl,rfl,ysb _ (hnth i hi),rfl,rfl⟩
 ·intro w M vs hI hr
  simp only[RepL]at hr;obtain⟨u0,us0,f0,g0,rfl,h0e,h0,u1,us1,f1,g1,rfl,h1e,h1,rfl,_⟩:=hr;have e0:=h0.val_str;have e1:=h1.val_str;subst e0 e1;obtain⟨m,hm⟩:=hI.1.2;refine(hS ⟨a0.toArray⟩ ⟨#[c]⟩ m w (by show a0.length<_;omega) hm (by show 1<=1;omega)).mono ?_;rintro e w' ⟨rfl,rfl⟩
  refine⟨w.heap.size,(yf c a0).length,((yf c a0).map fun x=>Value.string ⟨x.toArray⟩).toArray,by rw[<- hcl],?_⟩
  have hmap:(Go.Lib.splitB ⟨#[c]⟩ 0 (Go.Lib.countB ⟨a0.toArray⟩ ⟨#[c]⟩) ⟨a0.toArray⟩).map Value.string=(yf c a0).map fun x=>Value.string ⟨x.toArray⟩:=by
   rw[hl,List.map_map];rfl
  rw[hmap];have hfl:=yzk w T ((yf c a0).map fun x=>Value.string ⟨x.toArray⟩) (by rw[List.length_map];unfold maxLen;omega);rw[List.length_map]at hfl
  have hus:((List.range (yf c a0).length).flatMap fun i=>[((yf c a0).map fun x=>Value.string ⟨x.toArray⟩).getD i default])=(List.range (yf c a0).length).flatMap fun i=>[Value.string ⟨((yf c a0).getD i default).toArray⟩]:=by
   rw[List.flatMap_def,List.flatMap_def];congr 1
   apply List.map_congr_left;intro i hi;have hi:=List.mem_range.1 hi;simp[List.getD_eq_getElem?_getD,List.getElem?_map,List.getElem?_eq_getElem hi]
  rw[hus]at hfl;exact hfl
def zb (a0:(List UInt8)) (a1:(List UInt8)):(List (List UInt8)):=yf (a1.getD 0 0) a0
theorem y78 (a0:(List UInt8)) (a1:(List UInt8)) (hp0:a0.length<=1048576) (hp1:a1.length=1):Den Tryz.prog 80 [.str a0,.str a1] (ownL 9 1 eS (zb a0 a1)):=by
 exact ydz ⟨_,Tryz.func80,rfl,rfl⟩ a0 a1 hp0 hp1 (fun s sep m w=>Any.strings_Split Tryz.lays146 (by kernel_rfl) s sep m w)
def D_zb : DF
 | [x0,x1]=>some (ownL 9 1 eS (zb (rdS x0) (rdS x1)),false,[wS x0,wS x1,(rdS x0).length<=1048576,(rdS x1).length=1])
 | _=>none
theorem yri:OkD Tryz.prog 80 D_zb:=by
 intro xs r z ob h ho;unfold D_zb at h;split at h
 ·simp only[Option.some.injEq,Prod.mk.injEq]at h
  obtain⟨rfl,rfl,rfl⟩:=h;obtain⟨h0,h1,hp0,hp1,_⟩:=ho;exact Den.sim (y78 _ _ hp0 hp1) (yv (yfb h0).1 <| yv (yfb h1).1 <| trivial) (y0 (yfb h0).2 <| y0 (yfb h1).2 <| rfl) rfl
 ·cases h
theorem yjr (a b:List UInt8) (h:a.length<=1048576):(zb a b).length<=1048577/\∀ x∈zb a b,x.length<=1048576:=by
 obtain⟨h1,h2⟩:=yu (b.getD 0 0) a;exact⟨by unfold zb;omega,fun x hx=>by have:=h2 x hx;omega⟩
theorem yxk (x:Int):(0<=x/\x.tdiv 10=x / 10)\/(x<0/\x.tdiv 10 = -((-x) / 10)):=by
 by_cases h:0<=x
 ·exact .inl ⟨h,Int.tdiv_eq_ediv_of_nonneg h⟩
 ·refine .inr ⟨by omega,?_⟩
  have h2:=Int.neg_tdiv (a:=x) (b:=10);rw[Int.tdiv_eq_ediv_of_nonneg (show 0 <= -x by omega)]at h2;omega
end Go.Ab
namespace Go.Ab
open Go
theorem ytg : ∀ (l : List UInt8) (c : UInt8), c ∉ l -> Lib.index l [c] = -1
 | [],c,_=>rfl
 | b::l,c,h=>by
  have h1:¬ c=b:=fun e=>h (by simp[e])
  have h2:=ytg l c (fun e=>h (by simp[e]));have h3:(c == b)=false:=by simpa using h1
  simp[Lib.index,h2,List.isPrefixOf,h3]
theorem yhi : ∀ (l t : List UInt8) (c : UInt8), c ∉ l -> Lib.index (l ++ c :: t) [c] = l.length
 | [],t,c,_=>by simp[Lib.index,List.isPrefixOf]
 | b::l,t,c,h=>by
  have h1:¬ c=b:=fun e=>h (by simp[e])
  have h2:=yhi l t c (fun e=>h (by simp[e]));have h3:(c == b)=false:=by simpa using h1
  have h4:((l.length:Int) == -1)=false:=by rw[beq_eq_false_iff_ne];omega
  simp only[List.cons_append,Lib.index,h2,List.isPrefixOf,h3,h4,Bool.false_and,List.length_cons];simp
theorem ynf (l t:List UInt8) (c:UInt8) (h:c∉l):Lib.cut (l++c::t) [c]=(l,t,true):=by
 unfold Lib.cut;rw[yhi l t c h,if_pos (by omega)];simp only[Int.toNat_natCast,List.length_singleton];rw[List.take_left' rfl, <- List.drop_drop,List.drop_left' rfl];rfl
theorem ydk (l:List UInt8) (c:UInt8) (h:c∉l):Lib.cut l [c]=(l,[],false):=by
 unfold Lib.cut;rw[ytg l c h,if_neg (by omega)]
theorem yvc (l p:List UInt8):Lib.hasSuffix (l++p) p=true:=by
 unfold Lib.hasSuffix;rw[List.isSuffixOf_iff_suffix];exact List.suffix_append l p
theorem ybc (l p:List UInt8):Lib.trimSuffix (l++p) p=l:=by
 unfold Lib.trimSuffix;rw[yvc];simp
theorem ygm (l p:List UInt8) (a b:UInt8) (h:a≠b):Lib.hasSuffix (l++[a]) (p++[b])=false:=by
 cases hs:Lib.hasSuffix (l++[a]) (p++[b])with
 | false=>rfl
 | true=>
  unfold Lib.hasSuffix at hs;rw[List.isSuffixOf_iff_suffix]at hs;obtain⟨t,ht⟩:=hs;have:=congrArg List.getLast? ht;rw[<- List.append_assoc]at this;simp at this
  exact absurd this.symm h
theorem ycf (l p:List UInt8) (h:Lib.hasSuffix l p=false):Lib.trimSuffix l p=l:=by
 unfold Lib.trimSuffix;rw[h];simp
end Go.Ab
namespace Go.Ab
open Go Go.Proofs
def zd (a0:(List UInt8)) (a1:(List UInt8)):((List UInt8)×(List UInt8)×Bool):=Go.Lib.cut a0 a1
theorem yg8 (a0:(List UInt8)) (a1:(List UInt8)) (hp0:a0.length<=1048576):Den Tryz.prog 164 [.str a0,.str a1] (.tup [.str ((zd a0 a1).1),.str ((zd a0 a1).2.1),.bool ((zd a0 a1).2.2)]):=by
 refine Den.plain ⟨_,Tryz.func164,rfl,rfl⟩ (by simp[NoOwnL,NoOwn]) ?_;intro w M vs hI hr;simp only[RepL]at hr;obtain⟨u0,us0,f0,g0,rfl,h0e,h0,u1,us1,f1,g1,rfl,h1e,h1,rfl,_⟩:=hr;have e0:=h0.val_str;have e1:=h1.val_str;subst e0 e1;obtain⟨m,hm⟩:=hI.1.2;refine(Any.strings_Cut Tryz.lays145 ⟨a0.toArray⟩ ⟨a1.toArray⟩ m w (by show a0.length<_;omega) hm).mono ?_;rintro e w' ⟨rfl,k,rfl⟩
 exact⟨_,rfl,ycy w k,fun M'=>yi0 (ysb _ (by have:=ypt a0 a1;show(Go.Lib.cut a0 a1).1.length<=maxLen;unfold maxLen;omega)) (ysb _ (by have:=ypt a0 a1;show(Go.Lib.cut a0 a1).2.1.length<=maxLen;unfold maxLen;omega)) (ygc _)⟩
def D_zd : DF
 | [x0,x1]=>some (.tup [.str ((zd (rdS x0) (rdS x1)).1),.str ((zd (rdS x0) (rdS x1)).2.1),.bool ((zd (rdS x0) (rdS x1)).2.2)],false,[wS x0,wS x1,(rdS x0).length<=1048576])
 | _=>none
theorem yyl:OkD Tryz.prog 164 D_zd:=by
 intro xs r z ob h ho;unfold D_zd at h;split at h
 ·simp only[Option.some.injEq,Prod.mk.injEq]at h
  obtain⟨rfl,rfl,rfl⟩:=h;obtain⟨h0,h1,hp0,_⟩:=ho;exact Den.sim (yg8 _ _ hp0) (yv (yfb h0).1 <| yv (yfb h1).1 <| trivial) (y0 (yfb h0).2 <| y0 (yfb h1).2 <| rfl) rfl
 ·cases h
def zg (a0:(List UInt8)) (a1:(List UInt8)):((List UInt8)×Bool):=(Go.Lib.trimSuffix a0 a1,Go.Lib.hasSuffix a0 a1)
theorem yi9 (a0:(List UInt8)) (a1:(List UInt8)) (hp0:a0.length<=1048576):Den Tryz.prog 243 [.str a0,.str a1] (.tup [.str ((zg a0 a1).1),.bool ((zg a0 a1).2)]):=by
 refine Den.plain ⟨_,Tryz.func243,rfl,rfl⟩ (by simp[NoOwnL,NoOwn]) ?_;intro w M vs hI hr;simp only[RepL]at hr;obtain⟨u0,us0,f0,g0,rfl,h0e,h0,u1,us1,f1,g1,rfl,h1e,h1,rfl,_⟩:=hr;have e0:=h0.val_str;have e1:=h1.val_str;subst e0 e1;refine(Any.strings_CutSuffix Tryz.lays104 ⟨a0.toArray⟩ ⟨a1.toArray⟩ w (by show a0.length<=_;omega)).mono ?_;rintro e w' ⟨rfl,rfl⟩
 exact⟨_,rfl,Grow.refl _,fun M'=>ya6 (ysb _ (by have:=y2c a0 a1;show(Go.Lib.trimSuffix a0 a1).length<=maxLen;unfold maxLen;omega)) (ygc _)⟩
def D_zg : DF
 | [x0,x1]=>some (.tup [.str ((zg (rdS x0) (rdS x1)).1),.bool ((zg (rdS x0) (rdS x1)).2)],false,[wS x0,wS x1,(rdS x0).length<=1048576])
 | _=>none
theorem y56:OkD Tryz.prog 243 D_zg:=by
 intro xs r z ob h ho;unfold D_zg at h;split at h
 ·simp only[Option.some.injEq,Prod.mk.injEq]at h
  obtain⟨rfl,rfl,rfl⟩:=h;obtain⟨h0,h1,hp0,_⟩:=ho;exact Den.sim (yi9 _ _ hp0) (yv (yfb h0).1 <| yv (yfb h1).1 <| trivial) (y0 (yfb h0).2 <| y0 (yfb h1).2 <| rfl) rfl
 ·cases h
theorem yhf (a b:List UInt8):(zd a b).1.length<=a.length/\(zd a b).2.1.length<=a.length:=ypt a b
theorem yup (a b:List UInt8):(zg a b).1.length<=a.length:=y2c a b
end Go.Ab
namespace Go.Ab
open Go
theorem yfr (c : UInt8) : ∀ (l : List UInt8), 2 <= (yf c l).length -> ∀ x ∈ yf c l, x.length + 1 <= l.length
 | [],h=>by simp[yf]at h
 | b::l,h=>by
  obtain⟨_,g2⟩:=yu c l;have ih:=yfr c l;simp only[yf]at h ⊢;split
  ·intro x hx
   simp only[List.length_cons,List.mem_cons]at hx ⊢;rcases hx with rfl|hx
   ·simp
   ·have:=g2 x hx;omega
  ·rename_i hb
   rw[if_neg hb]at h;split
   ·rename_i he
    rw[he]at h;simp at h
   ·rename_i y r he
    rw[he]at h ih;simp only[List.length_cons]at h;have ih:=ih (by simp only[List.length_cons];omega);intro x hx;simp only[List.mem_cons,List.length_cons]at hx ⊢;rcases hx with rfl|hx
    ·have:=ih y (by simp);simp only[List.length_cons];omega
    ·have:=ih x (by simp[hx]);omega
theorem y6l (c:UInt8) (l:List UInt8) (h:2<=(yf c l).length) (i:Nat):((yf c l).getD i default).length+1<=l.length:=by
 rw[List.getD_eq_getElem?_getD]
 cases hg:(yf c l)[i]? with
 | none=>
  cases l with
  | nil=>simp[yf]at h
  | cons b l=>show 0+1<=_;simp
 | some x=>exact yfr c l h x (List.mem_of_getElem? hg)
structure RdOk {α:Type} (V:α->Prop) (T:α->List UInt8) (z:α) (f:List UInt8->α×Bool) (N:Nat):Prop where
 r1:∀ p,V p->(T p).length<=N->f (T p)=(p,true)
 r2:∀ a:List UInt8,a.length<=N->(f a).2=true->V (f a).1/\a=T (f a).1
 r3:∀ a:List UInt8,a.length<=N->(f a).2=false->(f a).1=z
theorem RdOk.eq {α:Type} {V:α->Prop} {T:α->List UInt8} {z:α} {f g:List UInt8->α×Bool} {N:Nat} (hf:RdOk V T z f N) (hg:RdOk V T z g N) (a:List UInt8) (h:a.length<=N):f a=g a:=by
 cases e:(f a).2 with
 | true=>
  obtain⟨h1,h2⟩:=hf.r2 a h e;have h3:=hg.r1 _ h1 (by rw[<- h2];exact h);rw[<- h2]at h3;rw[h3, <- e]
 | false=>
  cases e2:(g a).2 with
  | true=>
   obtain⟨h1,h2⟩:=hg.r2 a h e2;have h3:=hf.r1 _ h1 (by rw[<- h2];exact h);rw[<- h2]at h3;rw[h3]at e;cases e
  | false=>
   have h1:=hf.r3 a h e;have h2:=hg.r3 a h e2;exact Prod.ext (h1.trans h2.symm) (e.trans e2.symm)
theorem RdOk.of {α:Type} {V:α->Prop} {T:α->List UInt8} {z:α} {f:List UInt8->α×Bool} {N:Nat} (r1:∀ p,V p->(T p).length<=N->f (T p)=(p,true)) (inv:∀ a:List UInt8,a.length<=N->f a=(z,false)\/∃ p,f a=(p,true)/\V p/\a=T p):RdOk V T z f N:=
 ⟨r1,fun a h e=>by
  rcases inv a h with h1|⟨p,h1,h2,h3⟩
  ·rw[h1]at e;cases e
  ·rw[h1];exact⟨h2,h3⟩,fun a h e=>by
  rcases inv a h with h1|⟨p,h1,h2,h3⟩
  ·rw[h1]
  ·rw[h1]at e;cases e⟩
theorem y2i {α:Type} {V:α->Prop} {T:α->List UInt8} {z:α} (a:List UInt8) (m:α) (c:Bool) (hc:c=false->V m/\a=T m):(bif c then(z,false)else(m,true))=(z,false)\/∃ p,(bif c then(z,false)else(m,true))=(p,true)/\V p/\a=T p:=by
 cases c with
 | true=>exact .inl rfl
 | false=>exact .inr ⟨m,rfl,hc rfl⟩
theorem ymf {α:Type} [Inhabited α] (l:List α) (j:Nat) (hj:j<l.length):l.take j++[l.getD j default]=l.take (j+1):=by
 rw[List.take_succ_eq_append_getElem hj,List.getD_eq_getElem?_getD,List.getElem?_eq_getElem hj];rfl
end Go.Ab
namespace Go.Ab
open Go Go.Proofs
theorem yeg {ρ σ : Type} {b : Nat -> σ -> Except ρ σ} (I : Nat -> σ -> Prop) : ∀ {k i : Nat} {s t : σ}, yd b k i s = .ok t -> I i s -> (∀ j u v, i <= j -> j < i + k -> I j u -> b j u = .ok v -> I (j + 1) v) -> I (i + k) t
 | 0,i,s,t,h,h0,_=>by simp only[yd,Except.ok.injEq]at h;subst h;exact h0
 | k+1,i,s,t,h,h0,hb=>by
  simp only[yd]at h
  cases hq:b i s with
  | error e=>rw[hq]at h;simp at h
  | ok v=>
   rw[hq]at h;have:=yeg I (k:=k) (i:=i+1) h (hb i s v (Nat.le_refl _) (by omega) h0 hq) (fun j u v h1 h2=>hb j u v (by omega) (by omega));rw[show i+1+k=i+(k+1)by omega]at this;exact this
def zod (a0:(List UInt8)) (a1:(List UInt8)):(List UInt8):=Go.Lib.trimSuffix a0 a1
theorem y75 (a0:(List UInt8)) (a1:(List UInt8)) (hp0:a0.length<=1048576):Den Tryz.prog 169 [.str a0,.str a1] (.str (zod a0 a1)):=by
 refine Den.plain ⟨_,Tryz.func169,rfl,rfl⟩ (by simp[NoOwnL,NoOwn]) ?_;intro w M vs hI hr;simp only[RepL]at hr;obtain⟨u0,us0,f0,g0,rfl,h0e,h0,u1,us1,f1,g1,rfl,h1e,h1,rfl,_⟩:=hr;have e0:=h0.val_str;have e1:=h1.val_str;subst e0 e1;refine(Any.strings_TrimSuffix Tryz.lays102 ⟨a0.toArray⟩ ⟨a1.toArray⟩ w (by show a0.length<=_;omega)).mono ?_;rintro e w' ⟨rfl,rfl⟩
 exact⟨_,rfl,Grow.refl _,fun M'=>ysb _ (by have:=y2c a0 a1;show(Go.Lib.trimSuffix a0 a1).length<=maxLen;unfold maxLen;omega)⟩
def D_zod : DF
 | [x0,x1]=>some (.str (zod (rdS x0) (rdS x1)),false,[wS x0,wS x1,(rdS x0).length<=1048576])
 | _=>none
theorem yx1:OkD Tryz.prog 169 D_zod:=by
 intro xs r z ob h ho;unfold D_zod at h;split at h
 ·simp only[Option.some.injEq,Prod.mk.injEq]at h
  obtain⟨rfl,rfl,rfl⟩:=h;obtain⟨h0,h1,hp0,_⟩:=ho;exact Den.sim (y75 _ _ hp0) (yv (yfb h0).1 <| yv (yfb h1).1 <| trivial) (y0 (yfb h0).2 <| y0 (yfb h1).2 <| rfl) rfl
 ·cases h
theorem y8x (a b:List UInt8):(zod a b).length<=a.length:=y2c a b
end Go.Ab
namespace Go.Ab
open Go
theorem y6w (s : List UInt8) (i : Int) (h0 : 0 <= i) (h1 : i < (s.length : Int)) (hl : s.length <= 1048576)
  (hb:((((s.getD i.toNat 0).toNat:Int) == 40) && (((s.getD (IntKind.wrap .i64 ((s.length:Int)-1)).toNat 0).toNat:Int) == 41))=true) :
  0<=IntKind.wrap .i64 (i+1)/\IntKind.wrap .i64 (i+1)<=IntKind.wrap .i64 ((s.length:Int)-1)/\IntKind.wrap .i64 ((s.length:Int)-1)<=s.length:=by
 have w1:IntKind.wrap .i64 (i+1)=i+1:=by rw[IntKind.wrap_i64];omega
 have w2:IntKind.wrap .i64 ((s.length:Int)-1)=(s.length:Int)-1:=by rw[IntKind.wrap_i64];omega
 rw[w2]at hb;rw[w1,w2];simp only[Bool.and_eq_true,beq_iff_eq]at hb
 have hne:i≠(s.length:Int)-1:=by
  intro h;rw[<- h,hb.1]at hb;exact absurd hb.2 (by decide)
 omega
end Go.Ab
namespace Go.Ab
open Go Go.Proofs
def yyc {T : Type} (step : T -> Int -> Int × T) : List T -> Int -> Int × List T
 | [],k=>(k,[])
 | x::xs,k=>((yyc step xs (step x k).1).1,(step x k).2::(yyc step xs (step x k).1).2)
theorem ypl {T : Type} (step : T -> Int -> Int × T) : ∀ (l : List T) (k : Int), (yyc step l k).2.length = l.length
 | [],_=>rfl
 | x::xs,k=>by simp only[yyc,List.length_cons,ypl step xs]
theorem y7i {ρ T : Type} [Inhabited T] (step : T -> Int -> Int × T) (b : Nat -> Int × List T -> Except ρ (Int × List T))
  (hb:∀ i s,b i s=.ok ((step (s.2.getD i default) s.1).1,s.2.set i (step (s.2.getD i default) s.1).2)):∀ (r p:List T) (k:Int),yd b r.length p.length (k,p++r)=.ok ((yyc step r k).1,p++(yyc step r k).2)
 | [],p,k=>by simp only[List.length_nil,yd,yyc]
 | x::r,p,k=>by
  have hg:(p++x::r).getD p.length default=x:=by simp
  have hs:(p++x::r).set p.length (step x k).2=(p++[(step x k).2])++r:=by
   rw[List.set_append_right _ _ (Nat.le_refl _)];simp
  simp only[List.length_cons,yd,hb,hg,hs];have:=y7i step b hb r (p++[(step x k).2]) (step x k).1;rw[List.length_append,List.length_singleton]at this;rw[this];simp only[yyc,List.append_assoc,List.singleton_append]
theorem y5v {T:Type} (step:T->Int->Int×T) (P:T->Prop) (W B:Int) (hW:0<=W) (hs:∀ x k,P x->0<=k->k<=B->k<=(step x k).1/\(step x k).1<=k+W) :
  ∀ (l:List T) (k:Int),(∀ x∈l,P x)->0<=k->k+W * l.length<=B->k<=(yyc step l k).1/\(yyc step l k).1<=k+W * l.length
 | [],k,_,_,_=>by simp[yyc]
 | x::xs,k,hp,h0,hB=>by
  have e:W * ((x::xs).length:Int)=W * (xs.length:Int)+W:=by simp only[List.length_cons];push_cast;rw[Int.mul_add,Int.mul_one]
  rw[e]at hB ⊢;have hn:0<=W * (xs.length:Int):=Int.mul_nonneg hW (by omega);have h1:=hs x k (hp x (by simp)) h0 (by omega);have h2:=y5v step P W B hW hs xs (step x k).1 (fun y hy=>hp y (by simp[hy])) (by omega) (by omega);simp only[yyc];omega
theorem y3i {ρ T : Type} [Inhabited T] (step : T -> Int -> Int × T) (h : Nat -> Int -> Except ρ Int) (P : T -> Prop) (W B : Int) (hW : 0 <= W)
  (hs:∀ x k,P x->0<=k->k<=B->k<=(step x k).1/\(step x k).1<=k+W) :
  ∀ (r:List T) (i:Nat) (k:Int),(∀ x∈r,P x)->0<=k->k+W * r.length<=B ->
  (∀ (j:Nat) (x:T) (s:Int),P x->0<=s->s<=B->(yyc step r k).2[j]? = some (step x s).2->h (i+j) s=.ok (step x s).1) ->
  yd h r.length i k=.ok (yyc step r k).1
 | [],i,k,_,_,_,_=>by simp only[List.length_nil,yd,yyc]
 | x::r,i,k,hp,h0,hB,hh=>by
  have e:W * ((x::r).length:Int)=W * (r.length:Int)+W:=by simp only[List.length_cons];push_cast;rw[Int.mul_add,Int.mul_one]
  rw[e]at hB;have hn:0<=W * (r.length:Int):=Int.mul_nonneg hW (by omega);have h1:=hs x k (hp x (by simp)) h0 (by omega);have h2:=hh 0 x k (hp x (by simp)) h0 (by omega) (by simp[yyc]);simp only[List.length_cons,yd];rw[Nat.add_zero]at h2;rw[h2];simp only[yyc];refine y3i step h P W B hW hs r (i+1) (step x k).1 (fun y hy=>hp y (by simp[hy])) (by omega) (by omega) fun j y s hy g0 g1 g2 => ?_
  have:=hh (j+1) y s hy g0 g1 (by simpa [yyc]using g2);rwa [show i+(j+1)=i+1+j by omega]at this
theorem ybe (x:Int):IntKind.wrap .i64 x<=9223372036854775807:=by rw[IntKind.wrap_i64];omega
theorem yo2 {α:Type} [Inhabited α] {l:List α} {i:Nat} {x:α} (h:i<l.length):(l.set i x).getD i default=x:=by
 rw[yii,if_pos ⟨rfl,h⟩]
theorem y0z {α:Type} [Inhabited α] {l:List α} {i j:Nat} {x:α} (h:¬ j=i):(l.set i x).getD j default=l.getD j default:=by
 rw[yii,if_neg (fun hh=>h hh.1)]
theorem beqF {i j:Nat} (h:¬ j=i):(j == i)=false/\Nat.beq j i=false:=by
 have:(j == i)=false:=by simp[h]
 refine⟨this,?_⟩
 cases hb:Nat.beq j i with
 | true=>exact absurd (Nat.eq_of_beq_eq_true hb) h
 | false=>rfl
theorem mrg {p:Prop} (h:p:=by(and_intros<;>first|trivial|assumption|omega|exact ybe _|(simp only[List.length_set];omega)|exact hW1.1|exact hW1.2|(simp only[IntKind.wrap_i64];omega));first|done|fail):p:=h
theorem digx {k a:Int} {n:Nat} (hW:0<=k/\n<=19/\k * 10 ^ n<=a) (hb:decide (0<k)=true) (ha:a<=9223372036854775807) :
  IntKind.wrap .i64 (k.tdiv 10)=k / 10/\n<=18/\(k / 10) * 10 ^ (n+1)<=a/\k<=9223372036854775807:=by
 obtain⟨h0,h1,h2⟩:=hW;have h:=of_decide_eq_true hb
 have p1:(1:Int)<=10 ^ n:=by
  have:=Nat.one_le_two_pow (n:=0);have h3:0<10 ^ n:=Nat.pow_pos (by omega);have h4:((10 ^ n:Nat):Int)=(10:Int) ^ n:=by simp
  omega
 have p2:=Int.mul_le_mul_of_nonneg_left p1 h0;rw[Int.mul_one]at p2;have hk:k<=9223372036854775807:=by omega
 refine⟨?_,?_,?_,hk⟩
 ·rw[Int.tdiv_eq_ediv_of_nonneg h0,IntKind.wrap_i64];omega
 ·by_cases hn:n=19
  ·subst hn
   have e:(10:Int) ^ 19=10000000000000000000:=by decide
   rw[e]at h2;omega
  ·omega
 ·have q:=Int.mul_le_mul_of_nonneg_right (Int.ediv_mul_le k (show(10:Int)≠0 by decide)) (show(0:Int)<=10 ^ n by omega)
  have e:(k / 10) * 10 ^ (n+1)=k / 10 * 10 * 10 ^ n:=by rw[Int.pow_succ];ac_rfl
  rw[e];omega
theorem digd {k a:Int} {n:Nat} (hW:0<=k/\n<=19/\k * 10 ^ n<=a) (hb:decide (0<k)=true) (ha:a<=9223372036854775807):(IntKind.wrap .i64 (k.tdiv 10)).toNat<k.toNat:=by
 have h:=of_decide_eq_true hb;rw[(digx hW hb ha).1];omega
theorem digw {k a:Int} {x l:List UInt8} (hx:x.length=1) (hW:0<=k/\l.length<=19/\k * 10 ^ l.length<=a) (hb:decide (0<k)=true) (ha:a<=9223372036854775807) :
  0<=IntKind.wrap .i64 (k.tdiv 10)/\(x++l).length<=19/\IntKind.wrap .i64 (k.tdiv 10) * 10 ^ (x++l).length<=a:=by
 obtain⟨e1,e2,e3,e4⟩:=digx hW hb ha;rw[e1,List.length_append,hx,Nat.add_comm 1];exact⟨by omega,by omega,e3⟩
end Go.Ab
