/- A part of a proof: walks of functions and lemmas of our own. No conditions. -/
import Derived.Test.YtijmcongeemehaaGreatDoorFAm
import Derived.Test.YtijmcongeemehaaGreatDoorFAl
import Derived.Shelf.Strings.Fields
import Derived.Test.YtijmcongeemehaaGreatDoorFAn
import Derived.Test.YtijmcongeemehaaGreatDoorFAi
import Derived.Below
import Derived.Lib.Join
import Derived.Shelf.Strings.OnBuilder
import Derived.Handy
import Derived.Lib.IndexMore
import Derived.Lib.Split
import Derived.Lib.IndexLaws
import Derived.Lib.IndexBytes
import Derived.Lib.CountLaws
set_option linter.unusedSectionVars false
set_option linter.unusedVariables false
set_option linter.unusedSimpArgs false
set_option maxHeartbeats 1000000
namespace Go.Ab
open Go Go.Proofs
theorem yqd : ∀ (l cur : List UInt8) (m : Nat), cur.length + l.length <= m -> (Go.Lib.fieldsGo cur l).length <= cur.length + l.length /\ ∀ x ∈ Go.Lib.fieldsGo cur l, x.length <= m
 | [],cur,m,h=>by
  cases cur with
  | nil=>simp[Go.Lib.fieldsGo]
  | cons a c=>
   simp only[Go.Lib.fieldsGo,List.isEmpty_cons,List.length_cons,List.length_nil];refine⟨by simp,fun x hx => ?_⟩;simp at hx
   subst hx;simpa using h
 | b::l,cur,m,h=>by
  simp only[List.length_cons]at h ⊢;simp only[Go.Lib.fieldsGo];split
  ·split
   ·have:=yqd l [] m (by simp;omega)
    simp only[List.length_nil]at this;exact⟨by omega,this.2⟩
   ·rename_i hc
    have:=yqd l [] m (by simp;omega);simp only[List.length_nil]at this;have hcl:0<cur.length:=by cases cur with|nil=>simp at hc|cons _ _=>simp
    refine⟨by simp only[List.length_cons];omega,fun x hx => ?_⟩;rcases List.mem_cons.1 hx with rfl|hx
    ·omega
    ·exact this.2 x hx
  ·have:=yqd l (cur++[b]) m (by simp;omega)
   simp only[List.length_append,List.length_cons,List.length_nil]at this;exact⟨by omega,this.2⟩
theorem yiw (s:List UInt8):(Go.Lib.fields s).length<=s.length/\∀ x∈Go.Lib.fields s,x.length<=s.length:=by
 have:=yqd s [] s.length (by simp);simpa [Go.Lib.fields]using this
theorem yew {f : FuncId} {T : TypeId} (hok : FnOk Tryz.prog f) (a0 : List UInt8) (hp0 : a0.length <= 1048576) (hp1 : ∀ x ∈ a0, x.toNat < 128)
  (hS:∀ (s:ByteArray) (w:World),s.size<4294967281->(∀ (j:Nat) b,s.data.toList[j]? = some b->b.toNat<128)->Go.Lib.TabIs Tryz.prog w tn1 .u8 Go.Lib.asciiSpaceTab->Calls Tryz.prog f #[.string s] w fun e w'=>
   e=.returned (.slice (some ⟨w.heap.size,0,none⟩) (Go.Lib.fields s.data.toList).length (Go.Lib.fields s.data.toList).length)/\w'=w.alloc (.cells ((Go.Lib.fields s.data.toList).map fun l=>Value.string ⟨l.toArray⟩).toArray T)) :
  Den Tryz.prog f [.str a0] (ownL T 1 (fun s:List UInt8=>[.str s]) (Go.Lib.fields a0)):=by
 obtain⟨l1,l2⟩:=yiw a0
 have hnth:∀ i,i<(Go.Lib.fields a0).length->((Go.Lib.fields a0).getD i default).length<=maxLen:=by
  intro i hi
  have:(Go.Lib.fields a0).getD i default∈Go.Lib.fields a0:=by
   rw[List.getD_eq_getElem?_getD,List.getElem?_eq_getElem hi];simp
  have:=l2 _ this;unfold maxLen;omega
 refine Den.fresh (T:=T) (e:=1) (enc:=fun s:List UInt8=>[.str s]) (l:=Go.Lib.fields a0) hok (by simp[NoOwnL,NoOwn]) (fun i=>[Value.string ⟨((Go.Lib.fields a0).getD i default).toArray⟩]) (fun w M i hi=>⟨?_,rfl,by simp[Value.oneCell']⟩) ?_
 ·simp only[RepL]
  exact⟨_,[],[],[],rfl,rfl,y0b _ (hnth i hi),rfl,rfl⟩
 ·intro w M vs hI hr
  simp only[RepL]at hr;obtain⟨u0,us0,f0,g0,rfl,h0e,h0,rfl,_⟩:=hr;have e0:=h0.val_str;subst e0;refine(hS ⟨a0.toArray⟩ w (by show a0.length<_;omega) (fun j b hb=>hp1 b (List.mem_of_getElem? hb)) hI.2.2.2).mono ?_;rintro e w' ⟨rfl,rfl⟩
  refine⟨w.heap.size,(Go.Lib.fields a0).length,((Go.Lib.fields a0).map fun x=>Value.string ⟨x.toArray⟩).toArray,rfl,?_⟩;have hfl:=ykk w T ((Go.Lib.fields a0).map fun x=>Value.string ⟨x.toArray⟩) (by rw[List.length_map];unfold maxLen;omega);rw[List.length_map]at hfl
  have hus:((List.range (Go.Lib.fields a0).length).flatMap fun i=>[((Go.Lib.fields a0).map fun x=>Value.string ⟨x.toArray⟩).getD i default])=(List.range (Go.Lib.fields a0).length).flatMap fun i=>[Value.string ⟨((Go.Lib.fields a0).getD i default).toArray⟩]:=by
   rw[List.flatMap_def,List.flatMap_def];congr 1
   apply List.map_congr_left;intro i hi;have hi:=List.mem_range.1 hi;simp[List.getD_eq_getElem?_getD,List.getElem?_map,List.getElem?_eq_getElem hi]
  rw[hus]at hfl;exact hfl
def zmg (a0:(List UInt8)):(List (List UInt8)):=Go.Lib.fields a0
theorem yh6 (a0:(List UInt8)) (hp0:a0.length<=1048576) (hp1:∀ x∈a0,x.toNat<128):Den Tryz.prog 266 [.str a0] (ownL 9 1 eS (zmg a0)):=by
 exact yew ⟨_,Tryz.func266,rfl,rfl⟩ a0 hp0 hp1 (fun s w h1 h2 h3=>Any.strings_Fields Tryz.lays157 (by kernel_rfl) (by kernel_rfl) s w h1 h2 h3)
def D_zmg : DF
 | [x0]=>some (ownL 9 1 eS (zmg (rdS x0)),false,[wS x0,(rdS x0).length<=1048576,∀ x∈(rdS x0),x.toNat<128])
 | _=>none
theorem yl1:OkD Tryz.prog 266 D_zmg:=by
 intro xs r z ob h ho;unfold D_zmg at h;split at h
 ·simp only[Option.some.injEq,Prod.mk.injEq]at h
  obtain⟨rfl,rfl,rfl⟩:=h;obtain⟨h0,hp0,hp1,_⟩:=ho;exact Den.sim (yh6 _ hp0 hp1) (yr (yjb h0).1 <| trivial) (yy (yjb h0).2 <| rfl) rfl
 ·cases h
def ygm (a0:(List Int)) (a1:(List Int)) (i1:Nat) (s1:Unit):Except (Bool) (Unit):=
 (bif ((a0.getD i1 default) != (a1.getD i1 default))then .error false else .ok ())
def zyc (a0:(List Int)) (a1:(List Int)):Bool:=
 (bif ((a0.length:Int) != (a1.length:Int))then false else(match yf (ygm a0 a1) (a0.length-0) 0 ()with|.error e=>e|.ok s1=>true))
namespace N269
theorem DD:DOk Tryz.prog (Go.Ab.DD []):=ye _
theorem den (a0:(List Int)) (a1:(List Int))  : Den Tryz.prog 269 [encL 1 yw a0,encL 1 yw a1] (.bool (zyc a0 a1)):=by
 generalize hR:zyc a0 a1=r;unfold zyc at hR;refine di Tryz.func269 Tryz.ntmps269 Tryz.results269 ?_;intro c hL hc hk;obtain⟨hL0,hL1,_⟩:=hL;have hw0:a0.length<9223372036854775808:=Nat.lt_succ_of_le (yc hL0).1;have hw1:a1.length<9223372036854775808:=Nat.lt_succ_of_le (yc hL1).1;clear hL0 hL1;simp only[pars,Nat.zero_add];iterate 2 refine rS ?_
 refine AWP.cond rfl (fun hb => ?_) (fun hb => ?_)
 ·replace hR:=ct hR
  refine rS ?_;refine AWP.ret ?_;subst hR;exact es
 ·replace hR:=cf hR
  refine rS ?_;refine AWP.block ?_;generalize hz1:yf (ygm a0 a1) (a0.length-0) 0 ()=z1 at hR;refine AWP.range (ygm a0 a1) (fun i1 s1=>⟨[(0,encL 1 yw a0),(1,encL 1 yw a1),(12,.int .i64 (a0.length:Int)),(13,.int .i64 (i1:Int))],[]⟩) (fun i1 s1=>True) (a0.length) 0 () [] hz1 ot wt sm ?_;clear hz1;intro i1 s1 hi1 hW1 hz1;refine rS ?_;refine AWP.seq ?_;refine AWP.cond rfl (fun hb => ?_) (fun hb => ?_)
  ·have hlt1:i1<a0.length:=ot
   rw[yp hlt1]at hz1;simp only[ygm]at hz1;refine rS ?_;refine rD 8 ?_;refine AWP.cond rfl (fun hb => ?_) (fun hb => ?_)
   ·simp only[hb,cond_true]at hz1
    refine rS ?_;refine AWP.ret ?_;subst hz1;dsimp only at hR;subst hR;exact es
   ·simp only[hb,cond_false]at hz1
    refine rS ?_;exact⟨_,[],hlt1,wt,hz1,sm⟩
  ·obtain rfl:i1=a0.length:=ot
   rw[yq (Nat.le_refl _)]at hz1;subst hz1;dsimp only at hR;refine AWP.exit ?_;refine yb ?_;refine rS ?_;refine AWP.ret ?_;subst hR;exact es
end N269
def D_zyc : DF
 | [x0,x1]=>some (.bool (zyc (rdL y4b x0) (rdL y4b x1)),false,[wL 1 yw y4b x0,wL 1 yw y4b x1])
 | _=>none
theorem ymu:OkD Tryz.prog 269 D_zyc:=by unfold D_zyc;exact dk N269.den
def zte (a0:(List UInt8)) (a1:Int):Int:=Go.Lib.indexByte a0 a1.toNat.toUInt8
theorem y96 (a0:(List UInt8)) (a1:Int)  : Den Tryz.prog 267 [.str a0,.int .u8 a1] (.int .i64 (zte a0 a1)):=by
 refine Den.plain ⟨_,Tryz.func267,rfl,rfl⟩ (by simp[NoOwnL,NoOwn]) ?_;intro w M vs hI hr;simp only[RepL]at hr;obtain⟨u0,us0,f0,g0,rfl,h0e,h0,u1,us1,f1,g1,rfl,h1e,h1,rfl,_⟩:=hr;have e0:=h0.val_str;have e1:=h1.val_int;subst e0 e1;refine(Any.strings_IndexByte Tryz.lays137 ⟨a0.toArray⟩ a1 w).mono ?_;rintro e w' ⟨rfl,rfl⟩
 exact⟨_,rfl,Grow.refl _,fun M'=>ylb _ _⟩
def D_zte : DF
 | [x0,x1]=>some (.int .i64 (zte (rdS x0) (rdI x1)),false,[wS x0,wI .u8 x1])
 | _=>none
theorem yu0:OkD Tryz.prog 267 D_zte:=by
 intro xs r z ob h ho;unfold D_zte at h;split at h
 ·simp only[Option.some.injEq,Prod.mk.injEq]at h
  obtain⟨rfl,rfl,rfl⟩:=h;obtain⟨h0,h1,_⟩:=ho;exact Den.sim (y96 _ _ ) (yr (yjb h0).1 <| yr (yue h1).1 <| trivial) (yy (yjb h0).2 <| yy (yue h1).2 <| rfl) rfl
 ·cases h
end Go.Ab
namespace Go.Ab
open Go
def y6c:List (List UInt8):=[[46,45],[45,46,46,46],[45,46,45,46],[45,46,46],[46],[46,46,45,46],[45,45,46],[46,46,46,46],[46,46],[46,45,45,45],[45,46,45],[46,45,46,46],[45,45],[45,46],[45,45,45],[46,45,45,46],[45,45,46,45],[46,45,46],[46,46,46],[45],[46,46,45],[46,46,46,45],[46,45,45],[45,46,46,45],[45,46,45,45],[45,45,46,46]]
theorem y0g:∀ x∈y6c,1<=x.length/\x.length<=4/\∀ c∈x,c=45\/c=46:=by decide
theorem y6k (n:Nat):(y6c.getD n default).length<=4:=by
 rw[List.getD_eq_getElem?_getD]
 cases h:y6c[n]? with
 | none=>show(0:Nat)<=4;omega
 | some x=>exact(y0g x (List.mem_of_getElem? h)).2.1
theorem ys1 (n:Nat):(([[46,45],[45,46,46,46],[45,46,45,46],[45,46,46],[46],[46,46,45,46],[45,45,46],[46,46,46,46],[46,46],[46,45,45,45],[45,46,45],[46,45,46,46],[45,45],[45,46],[45,45,45],[46,45,45,46],[45,45,46,45],[46,45,46],[46,46,46],[45],[46,46,45],[46,46,46,45],[46,45,45],[45,46,46,45],[45,46,45,45],[45,45,46,46]]:List (List UInt8)).getD n default).length<=4:=y6k n
theorem yqh (a:List UInt8) (c:UInt8) (h:a.length=1):Op.bytesLess a [c]=decide ((a.getD 0 0).toNat<c.toNat):=by
 obtain⟨x,rfl⟩:=List.length_eq_one_iff.1 h;simp only[Op.bytesLess,Bool.and_false,Bool.or_false,List.getD_cons_zero];rfl
theorem yay (a:List UInt8) (c:UInt8) (h:a.length=1):(a == [c])=decide ((a.getD 0 0).toNat=c.toNat):=by
 obtain⟨x,rfl⟩:=List.length_eq_one_iff.1 h;apply Bool.eq_iff_iff.2;simp[UInt8.toNat_inj]
theorem y8k (n:Int) (h1:0<=n) (h2:n<256):IntKind.wrap .u8 n=n:=by
 have:IntKind.wrap .u8 n=n % 256:=rfl;rw[this];omega
theorem y82 (a:List UInt8) (h:((a.length:Int)=1/\Op.bytesLess a [65]=false)/\(Op.bytesLess a [90]=true\/(a == [90])=true)) :
  0<=IntKind.wrap .u8 (((a.getD 0 0).toNat:Int)-65)/\IntKind.wrap .u8 (((a.getD 0 0).toNat:Int)-65)<26/\0<=IntKind.wrap .u8 (((a.getD 0 0).toNat:Int) + -65)/\IntKind.wrap .u8 (((a.getD 0 0).toNat:Int) + -65)<26:=by
 have h1:a.length=1:=by omega
 rw[yqh a 65 h1,yqh a 90 h1,yay a 90 h1]at h;have e1:(65:UInt8).toNat=65:=rfl;have e2:(90:UInt8).toNat=90:=rfl;rw[e1,e2]at h;simp only[decide_eq_true_eq,decide_eq_false_iff_not]at h;have hx:65<=(a.getD 0 0).toNat/\(a.getD 0 0).toNat<=90:=by omega
 rw[y8k _ (by omega) (by omega),y8k _ (by omega) (by omega)];omega
theorem y1c {ρ α : Type} (b : Nat -> List α -> Except ρ (List α)) (f : Nat -> List α) : ∀ (n i : Nat) (s : List α), (∀ j s, i <= j -> j < i + n -> b j s = .ok (s ++ f j)) -> yf b n i s = .ok (s ++ (List.range' i n).flatMap f)
 | 0,i,s,_=>by simp[yf]
 | n+1,i,s,h=>by
  simp only[yf];rw[h i s (Nat.le_refl _) (by omega)];simp only;rw[y1c b f n (i+1) _ (fun j s h1 h2=>h j s (by omega) (by omega)),List.range'_succ,List.flatMap_cons,List.append_assoc]
theorem y0l {ρ σ:Type} {b b':Nat->σ->Except ρ σ} (n i:Nat) (s:σ) (h:∀ j u,i<=j->j<i+n->b j u=b' j u):yf b n i s=yf b' n i s:=loopR_congr0 n i s h
where
 loopR_congr0 {ρ σ:Type} {b b':Nat->σ->Except ρ σ}:∀ (n i:Nat) (s:σ),(∀ j u,i<=j->j<i+n->b j u=b' j u)->yf b n i s=yf b' n i s
 | 0,i,s,_=>rfl
 | n+1,i,s,h=>by
  simp only[yf];rw[h i s (Nat.le_refl _) (by omega)]
  cases b' i s with
  | error r=>rfl
  | ok t=>exact loopR_congr0 n (i+1) t (fun j u h1 h2=>h j u (by omega) (by omega))
theorem y9e {α β:Type} (l:List α) (d:α) (f:α->β):(List.range' 0 l.length).flatMap (fun j=>[f (l.getD j d)])=l.map f:=by
 rw[<- List.map_eq_flatMap];apply List.ext_getElem
 ·simp
 ·intro i h1 h2
  simp only[List.length_map]at h2;simp[List.getD_eq_getElem?_getD,h2]
theorem yij (s:List Int) (a b:Int) (i:Nat) (hi:i<s.length+2):(bif i.blt s.length then[AV.int .i64 (s.getD i default)]else borrowL (elt [[AV.int .i64 a],[AV.int .i64 b]] (i-s.length)))=[AV.int .i64 ((s++[a,b]).getD i default)]:=by
 by_cases h:i<s.length
 ·have:i.blt s.length=true:=by rw[Nat.blt_eq];exact h
  rw[this];simp[List.getD_eq_getElem?_getD,List.getElem?_append_left h]
 ·have:i.blt s.length=false:=by rw[<- Bool.not_eq_true,Nat.blt_eq];exact h
  rw[this];rcases(show i=s.length\/i=s.length+1 by omega)with h1|h1
  ·subst h1
   simp[elt,borrowL,borrow,List.getD_eq_getElem?_getD]
  ·subst h1
   simp[elt,borrowL,borrow,List.getD_eq_getElem?_getD]
theorem yfh (s:List Int) (a:Int) (i:Nat) (hi:i<s.length+1):(bif i.blt s.length then[AV.int .i64 (s.getD i default)]else borrowL (elt [[AV.int .i64 a]] (i-s.length)))=[AV.int .i64 ((s++[a]).getD i default)]:=by
 by_cases h:i<s.length
 ·have:i.blt s.length=true:=by rw[Nat.blt_eq];exact h
  rw[this];simp[List.getD_eq_getElem?_getD,List.getElem?_append_left h]
 ·have:i.blt s.length=false:=by rw[<- Bool.not_eq_true,Nat.blt_eq];exact h
  rw[this];have h1:i=s.length:=by omega
  subst h1;simp[elt,borrowL,borrow,List.getD_eq_getElem?_getD]
theorem y2q (s:List Int) (a b:Int) (i:Nat) (hi:i<s.length+1+1):(bif i.blt (s.length+1)then bif i.blt s.length then[AV.int .i64 (s.getD i default)]else borrowL (elt [[AV.int .i64 a]] (i-s.length))else borrowL (elt [[AV.int .i64 b]] (i-(s.length+1))))=[AV.int .i64 ((s++[a]++[b]).getD i default)]:=by
 by_cases h:i<s.length+1
 ·have:i.blt (s.length+1)=true:=by rw[Nat.blt_eq];exact h
  rw[this,cond_true];refine(yfh s a i h).trans ?_;rw[List.getD_eq_getElem?_getD,List.getD_eq_getElem?_getD,List.getElem?_append_left (l₁:=s++[a]) (l₂:=[b]) (by simpa using h)]
 ·have:i.blt (s.length+1)=false:=by rw[<- Bool.not_eq_true,Nat.blt_eq];exact h
  rw[this];have h1:i=s.length+1:=by omega
  subst h1;simp[elt,borrowL,borrow,List.getD_eq_getElem?_getD]
theorem yuq (s:List Int) (a b:Int) (i:Nat) (hi:i<s.length+2):(i.blt s.length || pureL (borrowL (elt [[AV.int .i64 a],[AV.int .i64 b]] (i-s.length))))=true:=by
 by_cases h:i<s.length
 ·have:i.blt s.length=true:=by rw[Nat.blt_eq];exact h
  rw[this];rfl
 ·rcases(show i-s.length=0\/i-s.length=1 by omega)with h1|h1<;>rw[h1]<;>simp[elt,borrowL,borrow,pureL,pureV]
end Go.Ab
namespace Go.Ab
open Go Go.Proofs
theorem yru {i:Nat} (h:i<4):(([87,82,71,89]:List UInt8).take (IntKind.wrap .i64 ((i:Int)+1)).toNat |>.drop i).length=1:=by
 rw[show(IntKind.wrap .i64 ((i:Int)+1)).toNat=i+1 from by rw[IntKind.wrap_i64];omega];rcases i with _|_|_|_|i<;>first|rfl|omega
theorem yw3 (i:Nat):(([87,82,71,89]:List UInt8).take (IntKind.wrap .i64 ((i:Int)+1)).toNat |>.drop i).length<=1\/4<=i:=by
 by_cases h:i<4
 ·left;rw[yru h];exact Nat.le_refl _
 ·right;omega
theorem ned {α:Type} [DecidableEq α] (x y:α):(x != y) = !decide (x=y):=by by_cases h:x=y<;>simp[h]
open Go.RowKit in
theorem y80 {f : FuncId} (hok : FnOk Tryz.prog f) (a0 : List (List UInt8)) (a1 : List UInt8) (hp0 : a0.length <= 1048576) (hp1 : (Go.Lib.join a0 a1).length <= 1099511627776)
  (hS:∀ (bk o c:Nat) (xs:List ByteArray) (sep:ByteArray) (w:World),(∀ (j:Nat) x,xs[j]? = some x->w.cell? ⟨bk,o+j,none⟩=some (.string x))->bk<w.heap.size->xs.length<=140737488355328->xs.length<=c ->
   (Go.Lib.join (xs.map (·.data.toList)) sep.data.toList).length<=140737488355328 ->
   Calls Tryz.prog f #[.slice (some ⟨bk,o,none⟩) xs.length c,.string sep] w fun e w'=>e=.returned (.string ⟨(Go.Lib.join (xs.map (·.data.toList)) sep.data.toList).toArray⟩)/\Below w.heap.size w w')
  (hN:∀ (a:Option Addr) (c:Nat) (sep:ByteArray) (w:World),Calls Tryz.prog f #[.slice a 0 c,.string sep] w fun e w'=>e=.returned (.string ⟨#[]⟩)/\w'=w) :
  Den Tryz.prog f [encL 1 (fun s:List UInt8=>[.str s]) a0,.str a1] (.str (Go.Lib.join a0 a1)):=by
 refine Den.plain hok (by simp[NoOwnL,NoOwn,encL]) ?_;intro w M vs hI hr;simp only[RepL]at hr;obtain⟨u0,us0,f0,g0,rfl,h0e,h0,u1,us1,f1,g1,rfl,h1e,h1,rfl,_⟩:=hr;have e1:=h1.val_str;subst e1;simp only[encL,Rep]at h0;rcases h0 with⟨hn,hev,_⟩|⟨b,o,cap,us,fps,rfl,⟨hc1,hc2⟩,hb,hcl,_⟩
 ·have h9:a0=[]:=List.length_eq_zero_iff.1 hn
  subst h9;rcases hev with rfl|⟨a,c,rfl⟩
  ·refine(hN none 0 ⟨a1.toArray⟩ w).mono ?_
   rintro e w' ⟨rfl,rfl⟩
   exact⟨_,rfl,Grow.refl _,fun M'=>y0b [] (by unfold maxLen;simp)⟩
  ·refine(hN (some a) c ⟨a1.toArray⟩ w).mono ?_
   rintro e w' ⟨rfl,rfl⟩
   exact⟨_,rfl,Grow.refl _,fun M'=>y0b [] (by unfold maxLen;simp)⟩
 ·have hx:((a0.map fun x=>(⟨x.toArray⟩:ByteArray)).map fun x=>x.data.toList)=a0:=by
   rw[List.map_map];exact List.map_id'' (fun x=>rfl) _
  have hcall:=hS b o cap (a0.map fun x=>(⟨x.toArray⟩:ByteArray)) ⟨a1.toArray⟩ w (fun j x hj=>by
   rw[List.getElem?_map]at hj
   cases hg:a0[j]? with
   | none=>rw[hg]at hj;simp at hj
   | some y=>
    rw[hg]at hj;simp only[Option.map_some,Option.some.injEq]at hj;subst hj;have hjl:=(List.getElem?_eq_some_iff.1 hg).1;obtain⟨c1,c2,c3⟩:=hcl j hjl;simp only[RepL]at c1;obtain⟨v,vs',q1,q2,hus,_,hv,hvs,_⟩:=c1;subst hvs;have hv:=hv.val_str;subst hv;rw[hus]at c3;have hgd:a0.getD j default=y:=by rw[List.getD_eq_getElem?_getD,hg];rfl
    rw[hgd]at c3;have h0:=(c3 0 _ rfl).1;rw[Nat.mul_one,Nat.add_zero]at h0
    exact h0) hb (by rw[List.length_map];omega) (by rw[List.length_map];exact hc1) (by rw[hx];exact Nat.le_trans hp1 (by omega))
  rw[List.length_map,hx]at hcall;refine hcall.mono ?_;rintro e w' ⟨rfl,hbl⟩
  exact⟨_,rfl,y6h hbl,fun M'=>y0b _ (by unfold maxLen;omega)⟩
def zkc (a0:(List (List UInt8))) (a1:(List UInt8)):(List UInt8):=Go.Lib.join a0 a1
theorem yr5 (a0:(List (List UInt8))) (a1:(List UInt8)) (hp0:a0.length<=1048576) (hp1:(Go.Lib.join a0 a1).length<=1099511627776):Den Tryz.prog 62 [encL 1 eS a0,.str a1] (.str (zkc a0 a1)):=by
 exact y80 ⟨_,Tryz.func62,rfl,rfl⟩ a0 a1 hp0 hp1 (fun bk o c xs sep w h1 h2 h3 h4 h5=>Any.strings_Join Tryz.lays156 Tryz.Builder_Extra_156 bk o c xs sep w h1 h2 h3 h4 h5) (fun a c sep w=>Any.strings_Join_none Tryz.lays156 Tryz.Builder_Extra_156 a c sep w)
def D_zkc : DF
 | [x0,x1]=>some (.str (zkc (rdL dS x0) (rdS x1)),false,[wL 1 eS dS x0,wS x1,(rdL dS x0).length<=1048576,(Go.Lib.join (rdL dS x0) (rdS x1)).length<=1099511627776])
 | _=>none
theorem ymj:OkD Tryz.prog 62 D_zkc:=by
 intro xs r z ob h ho;unfold D_zkc at h;split at h
 ·simp only[Option.some.injEq,Prod.mk.injEq]at h
  obtain⟨rfl,rfl,rfl⟩:=h;obtain⟨h0,h1,hp0,hp1,_⟩:=ho;exact Den.sim (yr5 _ _ hp0 hp1) (yr (y1g h0).1 <| yr (yjb h1).1 <| trivial) (yy (y1g h0).2 <| yy (yjb h1).2 <| rfl) rfl
 ·cases h
theorem ybf {α:Type} [Inhabited α] {l:List α} {x:α} {j:Nat} (h:j<l.length):(l++[x]).getD j default=l.getD j default:=by
 rw[List.getD_eq_getElem?_getD,List.getD_eq_getElem?_getD,List.getElem?_append_left h]
theorem y8e {α:Type} [Inhabited α] {l:List α} {x:α} {j:Nat} (h:¬ j<l.length) (h2:j<l.length+1):(l++[x]).getD j default=x:=by
 have:j=l.length:=by omega
 subst this;simp
theorem yll {j n:Nat} (h:j<n):Nat.blt j n=true:=by
 cases hb:Nat.blt j n with
 | true=>rfl
 | false=>rw[<- Bool.not_eq_true,Nat.blt_eq]at hb;exact absurd h hb
theorem yzk {j n:Nat} (h:¬ j<n):Nat.blt j n=false:=by
 cases hb:Nat.blt j n with
 | true=>rw[Nat.blt_eq]at hb;exact absurd hb h
 | false=>rfl
theorem y25 {α:Type} [Inhabited α] (l:List α) (i:Nat) (b:α) (h:i<l.length):(l.set i b).getD i default=b:=by
 rw[List.getD_eq_getElem?_getD,List.getElem?_set_self h];rfl
theorem yc5 {α:Type} [Inhabited α] (l:List α) (k i:Nat) (b:α) (h:i≠k):(l.set k b).getD i default=l.getD i default:=by
 rw[List.getD_eq_getElem?_getD,List.getElem?_set_ne (by omega), <- List.getD_eq_getElem?_getD]
end Go.Ab
namespace Go.Ab
open Go Go.Proofs Go.RowKit Go.Lib Go.Shelf
set_option maxHeartbeats 4000000 in
set_option maxRecDepth 100000 in
theorem y95:yt4 Tryz.prog 76 59 16 208:=by
 intro w v y n i m A B news hin hm hA hB hN oA oB oN hv hy hne hby hbig;obtain⟨i0,z,ET⟩:=ElT.mk' (tS:=24) (tE:=59) G_ok rfl rfl rfl (by decide);obtain⟨u0,inf0,zero0,size0,byt0,zs0,pos0,zone0⟩:=ET;have u3:Tryz.prog.underlying 3=some (.int .i64):=by kernel_rfl
 rcases hy with⟨_,h⟩|⟨vb,vc,vcur,rfl,hvh,hvs,hvm,hvc,hvn⟩
 ·omega
 have hz1:¬ ((m:Int)=0):=by omega
 have hsrc:∀ (j:Nat) (u:Value),news[j]? = some u->w.cell? ((⟨vb,0,none⟩:Addr).add j)=some u:=by
  intro j u hu;have hj:j<m * 16:=by rw[<- hN];exact(List.getElem?_eq_some_iff.1 hu).1
  rw[Addr.add_lit,Nat.zero_add,cell_of_row w vb j vcur 59 (0,0) hvh,hvn j hj];exact hu
 by_cases hend:i=n
 ·subst hend
  have hB0:B=[]:=List.eq_nil_of_length_eq_zero (by simpa using hB);subst hB0
  obtain⟨v',w',hr,ho⟩:=yzm (P:=Tryz.prog) (w:=w) (ty:=24) (y:=.slice (some ⟨vb,0,none⟩) m vc) u0 inf0 zero0 size0 byt0 zs0 hA hN oN (by
   rcases hv with h|⟨b,c,cur,h1,h2,h3,h4,h5,h6⟩
   ·exact .inl h
   ·exact .inr ⟨b,c,cur,h1,h2,h3,h4,h5,fun j hj=>by rw[h6 j hj,List.append_nil]⟩) (.inr ⟨_,_,rfl,hsrc⟩) hby hbig
  rcases ho with⟨_,h,_⟩|⟨b',cap',cur',rfl,ho⟩
  ·omega
  have fin:AppOut w w' 59 16 (i+m) 0 v.ownBlock (A++news++[]) [] b' cap' cur':=by
   refine⟨ho.os,ho.tape,ho.output,ho.size,ho.other,ho.row,ho.len,by have:=ho.fit;omega,ho.big,?_,fun j hj=>by omega,ho.place⟩;intro j hj;rw[List.append_nil];by_cases h:j<i * 16
   ·rw[List.getElem?_append_left (by omega)];exact ho.olds j h
   ·have:=ho.adds (j-i * 16) (by omega)
    rw[List.getElem?_append_right (by omega),hA, <- this];congr 1;omega
  rw[List.append_nil]at fin
  have hsh:(v=.slice none 0 0/\i=0)\/∃ b c,v=.slice (some ⟨b,0,none⟩) i c/\i<=c/\c<=9223372036854775807:=by
   rcases hv with h|⟨b,c,cur,h1,h2,h3,h4,h5,h6⟩
   ·exact .inl h
   ·exact .inr ⟨b,c,h1,h4,h5⟩
  clear hne ho hv hvh hvs hvn hsrc hA hB hN oA oB oN;rcases hsh with⟨rfl,rfl⟩|⟨b,c,rfl,hic,hcm⟩
  ·go_enter Tryz.func76,Tryz.ntmps76
   go_wp2_with (at_builtin;refine yud _ rfl _ _ _ _ rfl _ _ rfl rfl hr ?_)
   go_ret
   rw[Nat.zero_add]at fin ⊢;first|exact⟨b',cap',cur',rfl,by first|exact fin|(rw[List.append_nil];exact fin)⟩|exact⟨b',cap',rfl,cur',by first|exact fin|(rw[List.append_nil];exact fin)⟩
  ·go_enter Tryz.func76,Tryz.ntmps76
   go_wp2_with (at_builtin;refine yud _ rfl _ _ _ _ rfl _ _ rfl rfl hr ?_)
   all_goals go_ret
   all_goals first|exact⟨b',cap',cur',rfl,by first|exact fin|(rw[List.append_nil];exact fin)⟩|exact⟨b',cap',rfl,cur',by first|exact fin|(rw[List.append_nil];exact fin)⟩
 ·have hlt:i<n:=by omega
  rcases hv with⟨_,h⟩|⟨b,c,cur,rfl,hb,hcs,hnc,hcm,hold⟩
  ·omega
  have hvb:vb≠b:=fun h=>hne b rfl (by rw[h];rfl)
  have mixed:Tryz.prog.follows .mixedOrders=true:=by kernel_rfl
  have hz2:¬ ((i:Int)=(n:Int)):=by omega
  have hcSX:c<=9223372036854775807:=hcm;have hw1:IntKind.i64.wrap ((i:Int)+(m:Int))=(i:Int)+(m:Int):=by rw[IntKind.wrap_i64];omega
  have hb1:(0:Int)<=(i:Int)+(m:Int):=by omega
  have hin:i<=n:=by omega
  have htn:((i:Int)+(m:Int)).toNat=i+m:=by omega
  have hb4:¬ (c=i):=by omega
  have hAn:A.length+B.length=n * 16:=by omega
  have hgA:∀ (j:Nat) (u:Value),A[j]? = some u->cur[j]? = some u:=by
   intro j u hu;have hj:j<A.length:=(List.getElem?_eq_some_iff.1 hu).1;rw[hold j (by omega),List.getElem?_append_left hj,hu]
  have hgB:∀ (j:Nat) (u:Value),B[j]? = some u->cur[i * 16+j]? = some u:=by
   intro j u hu;have hj:j<B.length:=(List.getElem?_eq_some_iff.1 hu).1;rw[hold _ (by omega),List.getElem?_append_right (by omega),hA,Nat.add_sub_cancel_left,hu]
  by_cases hroom:n+m<=c
  ·have hb2:¬ (c=i+m):=by omega
   have hb3:(i:Int)<=(n:Int)+(m:Int):=by omega
   have hmin:Nat.min (n+m-i) (n+m-(i+m))=n-i:=by simp only[Nat.min_def];split<;>omega
   have hmin2:Nat.min m (n+m-i)=m:=by simp only[Nat.min_def];split<;>omega
   obtain⟨cur1,hcur1⟩:∃ cur1,cur1=(putV ((i+m) * 16) B cur.toList).toArray:=⟨_,rfl⟩
   have hl1:cur1.size=cur.size:=by rw[hcur1];simp[yfb]
   have hov:∀ lb cb,(callFunc 157 #[.slice (some ⟨vb,0,none⟩) m vc,.slice (some ⟨b,(i+m) * 16,none⟩) lb cb]).run Tryz.prog w=.ok (.value (.bool false)) w:=fun lb cb=>by
    rw[run_callFunc_extern Tryz.func157 (by kernel_rfl) (by kernel_rfl) (by kernel_rfl) (e:=Extern.SlicesOverlaps.overlaps #[24,24] #[4]) (by kernel_rfl),
     y7n w 24 4 59 i0 u0 inf0 vb b 0 ((i+m) * 16) m vc lb cb hvb vcur cur 59 59 hvh hb (by omega)]
    rfl
   have hcp1:∀ ty dc sc,(Builtin.copy_ #[24,24] ty #[.slice (some ⟨b,(i+m) * 16,none⟩) (n+m-(i+m)) dc,.slice (some ⟨b,i * 16,none⟩) (n+m-i) sc]).run Tryz.prog w.drew=.ok (goInt ((n-i:Nat):Int)) (w.drew.setRow b cur1):=fun ty dc sc=>by
    rw[hcur1]
    exact y2g w.drew 24 24 ty 59 i0 b ((i + m) * 16) _ dc ⟨b, i * 16, none⟩ _ sc (n - i) cur 59 B u0 inf0 hb hmin (by rw [size0]; exact hB)
     (fun j u hj=>by rw[Addr.add_lit,cell_of_row w.drew b _ cur 59 (0,0) hb];exact hgB j u hj) (by omega) oB
   have hr1:∀ W:World,W.heap=(w.drew.setRow b cur1).heap->W.heap[b]? = some (.cells cur1 59 (0,0)):=fun W h=>by rw[h];exact setRow_heap w.drew b cur cur1 59 (0,0) hb
   have hcp2:∀ (W:World),W.heap=(w.drew.setRow b cur1).heap->∀ ty dc,(Builtin.copy_ #[24,24] ty #[.slice (some ⟨b,i * 16,none⟩) (n+m-i) dc,.slice (some ⟨vb,0,none⟩) m vc]).run Tryz.prog W=.ok (goInt m) (W.setRow b (putV (i * 16) news cur1.toList).toArray):=fun W hW ty dc=>
    y2g W 24 24 ty 59 i0 b (i * 16) _ dc ⟨vb, 0, none⟩ m vc m cur1 59 news u0 inf0 (hr1 W hW) hmin2 (by rw [size0]; exact hN)
     (fun j u hj=>by
      have hj2:j<m * 16:=by rw[<- hN];exact(List.getElem?_eq_some_iff.1 hj).1
      have hvh2:W.heap[vb]? = some (.cells vcur 59 (0,0)):=by rw[hW,setRow_other w.drew b vb cur1 hvb];exact hvh
      rw[Addr.add_lit,Nat.zero_add,cell_of_row W vb j vcur 59 (0,0) hvh2,hvn j hj2];exact hj) (by omega) oN
   have fin:∀ W:World,W.heap=(w.drew.setRow b cur1).heap->W.os=w.os->W.tape=w.tape->W.output=w.output ->
     AppOut w (W.setRow b (putV (i * 16) news cur1.toList).toArray) 59 16 (n+m) 0 (Value.ownBlock (.slice (some ⟨b,0,none⟩) n c)) (A++news++B) [] b c (putV (i * 16) news cur1.toList).toArray:=by
    intro W hW h1 h2 h3;refine⟨h1,h2,h3,?_,?_,setRow_heap W b cur1 _ 59 (0,0) (hr1 W hW),by simp[yfb,hl1,hcs],by omega,hcm,?_,fun j hj=>by omega,.inl rfl⟩
    ·simp[hW]
    ·intro k hk hkb
     rw[setRow_other W b k _ hkb,hW,setRow_other w.drew b k _ hkb];rfl
    ·intro j hj
     simp only[List.getElem?_toArray,yhb];have hcl:cur1.toList.length=c * 16:=by simp[hl1,hcs]
     by_cases h1:j<i * 16
     ·rw[if_neg (by omega),List.append_assoc,List.getElem?_append_left (by omega),hcur1]
      simp only[yhb];rw[if_neg (by omega)];have:A[j]? = some A[j]:=List.getElem?_eq_getElem (by omega);rw[this];simpa using hgA j _ this
     ·by_cases h2:j<(i+m) * 16
      ·rw[if_pos (by rw[hcl,hN];omega),List.append_assoc,List.getElem?_append_right (by omega),List.getElem?_append_left (by omega),hA]
      ·rw[if_neg (by omega),List.getElem?_append_right (by simp only[List.length_append];omega),hcur1]
       simp only[yhb];rw[if_pos (by simp only[Array.length_toList];omega)];congr 1;simp only[List.length_append];omega
   clear hold hgA hgB hcs hb hvh hvs hvn hsrc hA hB hN oA oB oN hne hby hAn hr1 zero0 byt0 zs0 zone0 size0 hcur1 hl1 hmin hmin2;go_enter Tryz.func76,Tryz.ntmps76
   go_wp2_with (simp only[hov])
   go_region_law_o (refine ymm rfl _ _ 24 24 rfl _ _ (by simp[Act.eval,Act.put]) (by simp[Act.eval,Act.put]) (hcp1 _ _ _) ?_)
   go_wp2_with (at_builtin;refine yur _ rfl _ _ 24 24 rfl _ _ rfl rfl (hcp2 _ rfl _ _) ?_)
   go_ret
   exact⟨b,c,_,rfl,fin _ rfl rfl rfl rfl⟩
  ·have hz3:(c:Int)<(n:Int)+(m:Int):=by omega
   have hbw:b<w.heap.size:=(Array.getElem?_eq_some_iff.1 hb).1;have hvw:vb<w.heap.size:=(Array.getElem?_eq_some_iff.1 hvh).1;have hik:i+(n+m-i)=n+m:=by omega
   have hrz:∀ ty,(Builtin.append_ #[24,3] ty #[.slice (some ⟨b,0,none⟩) i c,.int .i64 ((n:Int)+(m:Int)-(i:Int))]).run Tryz.prog w=.ok (.slice (some ⟨w.heap.size,0,none⟩) (n+m) (grownCap w (n+m) c 59)) (w.drew.alloc (.cells (A.toArray++Builtin.zeroCells z.cells (n+m-i)++Builtin.zeroCells z.cells (grownCap w (n+m) c 59-(n+m))) 59)):=fun ty=>by
    have h := y9i (P := Tryz.prog) w 24 3 ty 59 i0 z u0 u3 inf0 zero0 ⟨b, 0, none⟩ i c A (by rw [size0]; exact hA)
     (fun j u hj=>by rw[Addr.add_lit,Nat.zero_add,cell_of_row w b _ cur 59 (0,0) hb];exact hgA j u hj) (n+m-i) (by omega) (by rw[size0];decide) (by omega) (by omega) (by rw[byt0,hik];exact hby)
    rw[hik,show((n+m-i:Nat):Int)=(n:Int)+(m:Int)-(i:Int)by omega]at h;exact h
   obtain⟨N,hN0⟩:∃ N,N=w.heap.size:=⟨_,rfl⟩
   obtain⟨G9,hG⟩:∃ G9,G9=grownCap w (n+m) c 59:=⟨_,rfl⟩
   have hGn:n+m<=G9:=by rw[hG];exact grownCap_ge w _ _ _
   have hGSX:G9<=9223372036854775807:=by
    have:=grownCap_le_maxLen w (n+m) c 59 (by unfold maxLen;omega);rw[<- hG]at this;unfold maxLen at this;omega
   obtain⟨row,hrow⟩:∃ row:Array Value,row=A.toArray++Builtin.zeroCells z.cells (n+m-i)++Builtin.zeroCells z.cells (G9-(n+m)):=⟨_,rfl⟩
   rw[<- hG, <- hrow, <- hN0]at hrz
   have hrl:row.size=G9 * 16:=by
    rw[hrow];simp only[Array.size_append,List.size_toArray,size_zeroCells,zs0,hA];omega
   have hGi:¬ (G9=i):=by omega
   have hGim:¬ (G9=i+m):=by omega
   have hbN:b≠N:=by omega
   have hvN:vb≠N:=by omega
   have hmin1:Nat.min m (n+m-i)=m:=by simp only[Nat.min_def];split<;>omega
   have hmin2:Nat.min (n-i) (n+m-(i+m))=n-i:=by simp only[Nat.min_def];split<;>omega
   have hW1:∀ W:World,W.heap=w.heap.push (.cells row 59)->W.heap[N]? = some (.cells row 59 (0,0))/\W.heap[b]? = some (.cells cur 59 (0,0))/\W.heap[vb]? = some (.cells vcur 59 (0,0)):=by
    intro W h;rw[h];refine⟨by rw[hN0];simp,?_,?_⟩
    ·rw[Array.getElem?_push,if_neg (by omega)];exact hb
    ·rw[Array.getElem?_push,if_neg (by omega)];exact hvh
   obtain⟨row2,hrow2⟩:∃ row2,row2=(putV (i * 16) news row.toList).toArray:=⟨_,rfl⟩
   have hl2:row2.size=G9 * 16:=by rw[hrow2];simp[yfb,hrl]
   have hcpA:∀ (W:World),W.heap=w.heap.push (.cells row 59)->∀ ty dc,(Builtin.copy_ #[24,24] ty #[.slice (some ⟨N,i * 16,none⟩) (n+m-i) dc,.slice (some ⟨vb,0,none⟩) m vc]).run Tryz.prog W=.ok (goInt m) (W.setRow N row2):=fun W hW ty dc=>by
    rw[hrow2]
    exact y2g W 24 24 ty 59 i0 N (i * 16) _ dc ⟨vb, 0, none⟩ m vc m row 59 news u0 inf0 (hW1 W hW).1 hmin1 (by rw [size0]; exact hN)
     (fun j u hj=>by
      have hj2:j<m * 16:=by rw[<- hN];exact(List.getElem?_eq_some_iff.1 hj).1
      rw[Addr.add_lit,Nat.zero_add,cell_of_row W vb j vcur 59 (0,0) (hW1 W hW).2.2,hvn j hj2];exact hj) (by omega) oN
   have hW2:∀ W W0:World,W0.heap=w.heap.push (.cells row 59)->W.heap=(W0.setRow N row2).heap->W.heap[N]? = some (.cells row2 59 (0,0))/\W.heap[b]? = some (.cells cur 59 (0,0)):=by
    intro W W0 h0 h;rw[h];exact⟨setRow_heap W0 N row row2 59 (0,0) (hW1 W0 h0).1,by rw[setRow_other W0 N b row2 hbN];exact(hW1 W0 h0).2.1⟩
   have hcpB:∀ (W W0:World),W0.heap=w.heap.push (.cells row 59)->W.heap=(W0.setRow N row2).heap->∀ ty dc sc,(Builtin.copy_ #[24,24] ty #[.slice (some ⟨N,(i+m) * 16,none⟩) (n+m-(i+m)) dc,.slice (some ⟨b,i * 16,none⟩) (n-i) sc]).run Tryz.prog W=.ok (goInt ((n-i:Nat):Int)) (W.setRow N (putV ((i+m) * 16) B row2.toList).toArray):=fun W W0 h0 hW ty dc sc=>
    y2g W 24 24 ty 59 i0 N ((i + m) * 16) _ dc ⟨b, i * 16, none⟩ _ sc (n - i) row2 59 B u0 inf0 (hW2 W W0 h0 hW).1 hmin2 (by rw [size0]; exact hB)
     (fun j u hj=>by rw[Addr.add_lit,cell_of_row W b _ cur 59 (0,0) (hW2 W W0 h0 hW).2];exact hgB j u hj) (by omega) oB
   have fin:∀ W W0:World,W0.heap=w.heap.push (.cells row 59)->W.heap=(W0.setRow N row2).heap->W.os=w.os->W.tape=w.tape->W.output=w.output ->
     AppOut w (W.setRow N (putV ((i+m) * 16) B row2.toList).toArray) 59 16 (n+m) 0 (Value.ownBlock (.slice (some ⟨b,0,none⟩) n c)) (A++news++B) [] N G9 (putV ((i+m) * 16) B row2.toList).toArray:=by
    intro W W0 h0 hW h1 h2 h3;refine⟨h1,h2,h3,?_,?_,setRow_heap W N row2 _ 59 (0,0) (hW2 W W0 h0 hW).1,by simp[yfb,hl2],by omega,hGSX,?_,fun j hj=>by omega,.inr hN0⟩
    ·simp[hW,h0]
    ·intro k hk hkb
     rw[setRow_other W N k _ hkb,hW,setRow_other W0 N k _ hkb,h0,Array.getElem?_push,if_neg (by omega)]
    ·intro j hj
     simp only[List.getElem?_toArray,yhb];have hcl:row2.toList.length=G9 * 16:=by simp[hl2]
     have hcl1:row.toList.length=G9 * 16:=by simp[hrl]
     by_cases h1:(i+m) * 16<=j
     ·rw[if_pos (by omega),List.getElem?_append_right (by simp only[List.length_append];omega)]
      congr 1;simp only[List.length_append];omega
     ·rw[if_neg (by omega),hrow2,List.getElem?_append_left (by simp only[List.length_append];omega)]
      simp only[yhb];by_cases h2:i * 16<=j
      ·rw[if_pos (by omega),List.getElem?_append_right (by omega),hA]
      ·rw[if_neg (by omega),List.getElem?_append_left (by omega),hrow]
       rw[Array.toList_append,Array.toList_append,List.append_assoc,List.getElem?_append_left (by simp;omega)]
   clear hold hgA hgB hcs hb hvh hvs hvn hsrc hA hB hN oA oB oN hne hby hAn zero0 byt0 zs0 zone0 size0 hW1 hW2 hrl hl2 hik hrow hrow2 hG hmin1 hmin2 hbw hvw;subst hN0;have hcpA1:=hcpA (w.alloc (.cells row 59)).drew rfl;have hcpB1:=hcpB ((w.alloc (.cells row 59)).drew.setRow w.heap.size row2).drew (w.alloc (.cells row 59)).drew rfl rfl;go_enter Tryz.func76,Tryz.ntmps76
   go_wp2_with (at_builtin;refine yud _ rfl _ _ _ _ rfl _ _ rfl rfl (hrz _) ?_)
   go_region_law_o (refine ymm rfl _ _ 24 24 rfl _ _ (by simp[Act.eval,Act.put]) (by simp[Act.eval,Act.put]) (hcpB1 _ _ _) ?_)
   go_wp2
   go_ret
   first|exact⟨_,_,_,rfl,fin _ (w.alloc (.cells row 59)).drew rfl rfl rfl rfl rfl⟩|exact⟨_,_,rfl,_,fin _ (w.alloc (.cells row 59)).drew rfl rfl rfl rfl rfl⟩
def zjf (a0:(List Aid)) (a1:Int) (a2:(List Aid)):List Aid:=a0.take a1.toNat++a2++a0.drop a1.toNat
theorem y15 (a0:(List Aid)) (a1:Int) (a2:(List Aid)) (hp0:0<=a1) (hp1:a1<=a0.length) (hp2:0<a2.length) (hp3:a0.length<338311270084) (hp4:a2.length<338311270084):DenM Tryz.prog 76 [ownL 59 16 yob a0,.int .i64 a1,ownL 59 16 yob a2] (ownL 59 16 yob (zjf a0 a1 a2)) [.any,.any,.any]:=
 ye5 ⟨_,Tryz.func76,rfl,rfl⟩ y95 (fun v=>by simp[yob,ownL,NoBorL,NoBor,yw,yl]) a0 a2 a1 hp0 hp1 hp2 (by omega) (by omega)
def D_zjf : List AV -> Option (AV × List AV × List Prop)
 | [x0,x1,x2]=>some (ownL 59 16 yob (zjf (rdL dAid x0) (rdI x1) (rdL dAid x2)),[.any,.any,.any],[wO 59 16 yob dAid x0,wI .i64 x1,wO 59 16 yob dAid x2,0<=(rdI x1),(rdI x1)<=(rdL dAid x0).length,0<(rdL dAid x2).length,(rdL dAid x0).length<338311270084,(rdL dAid x2).length<338311270084])
 | _=>none
theorem yo0:OkM Tryz.prog 76 D_zjf:=by
 intro xs r outs ob h ho;unfold D_zjf at h;split at h
 ·simp only[Option.some.injEq,Prod.mk.injEq]at h
  obtain⟨rfl,rfl,rfl⟩:=h;obtain⟨h0,h1,h2,hp0,hp1,hp2,hp3,hp4,_⟩:=ho;exact DenM.sim (y15 _ _ _ hp0 hp1 hp2 hp3 hp4) (yr (ymq h0) <| yr (yue h1).1 <| yr (ymq h2) <| trivial)
 ·cases h
end Go.Ab
namespace Go.Ab
open Go Go.Proofs
theorem yg4 {α:Type} [Inhabited α] (R:α->α->Prop) (ht:∀ a b c,R a b->R b c->R a c) (l:List α):l.Pairwise R↔∀ j,j+1<l.length->R (l.getD j default) (l.getD (j+1) default):=by
 rw[List.pairwise_iff_getElem];constructor
 ·intro h j hj
  have:=h j (j+1) (by omega) hj (by omega);rw[List.getD_eq_getElem?_getD,List.getD_eq_getElem?_getD,List.getElem?_eq_getElem hj,List.getElem?_eq_getElem (show j<l.length by omega)];exact this
 ·intro h i j hi hj hij
  have h':∀ j (hj:j+1<l.length),R (l[j]'(by omega)) (l[j+1]'hj):=by
   intro j hj;have:=h j hj;rw[List.getD_eq_getElem?_getD,List.getD_eq_getElem?_getD,List.getElem?_eq_getElem hj,List.getElem?_eq_getElem (show j<l.length by omega)]at this;exact this
  obtain⟨d,rfl⟩:∃ d,j=i+1+d:=⟨j-(i+1),by omega⟩
  clear hij
  induction d with
  | zero=>exact h' i hj
  | succ d ih=>exact ht _ _ _ (ih (by omega) h') (h' (i+1+d) hj)
theorem yls {b:Nat->Unit->Except Bool Unit} (p:Nat->Bool) (n:Nat) (r:Bool) (hb:∀ j u,j<n->b j u=bif p j then .error false else .ok ()) :
  (match yf b (n-0) 0 ()with|.error e=>e|.ok _=>r)=true↔(∀ j,j<n->p j=false)/\r=true:=by
 rw[ykd p false (fun j u _ hj=>hb j u (by omega))];simp only[Nat.sub_zero,Nat.zero_add]
 cases h:(List.range n).any fun j=>p j with
 | true=>
  simp only[cond_true];constructor
  ·intro h;cases h
  ·rintro⟨h1,_⟩
   obtain⟨j,hj,hp⟩:=List.any_eq_true.1 h;rw[h1 j (by simpa using hj)]at hp;cases hp
 | false=>
  simp only[cond_false];constructor
  ·intro hr
   refine⟨fun j hj => ?_,hr⟩
   cases hp:p j with
   | false=>rfl
   | true=>exact absurd (List.any_eq_true.2 ⟨j,List.mem_range.2 hj,hp⟩) (by rw[h];simp)
  ·exact fun h=>h.2
end Go.Ab
namespace Go.Ab
open Go Go.Proofs Go.RowKit Go.Lib Go.Shelf
set_option maxHeartbeats 4000000 in
set_option maxRecDepth 100000 in
theorem yz6:yp4 Tryz.prog 79 59 16:=by
 intro w b cap n i j cur A C B hij hjn hA hC hB oB hb hcs hnc hcm hold;obtain⟨i0,z,ET⟩:=ElT.mk' (tS:=24) (tE:=59) G_ok rfl rfl rfl (by decide);obtain⟨u0,inf0,zero0,size0,byt0,zs0,pos0,zone0⟩:=ET;have mixed:Tryz.prog.follows .mixedOrders=true:=by kernel_rfl
 have hz2:¬ ((i:Int)=(j:Int)):=by omega
 have hcSX:cap<=9223372036854775807:=hcm;have hic:i<=cap:=by omega
 have hjc:j<=cap:=by omega
 have hin:i<=n:=by omega
 have hnn:i+(n-j)=n-(j-i):=by omega
 have hgA:∀ (k:Nat) (u:Value),A[k]? = some u->cur[k]? = some u:=by
  intro k u hu;have hj:k<A.length:=(List.getElem?_eq_some_iff.1 hu).1;rw[hold k (by omega),List.append_assoc,List.getElem?_append_left hj,hu]
 have hgB:∀ (k:Nat) (u:Value),B[k]? = some u->cur[j * 16+k]? = some u:=by
  intro k u hu;have hj:k<B.length:=(List.getElem?_eq_some_iff.1 hu).1;rw[hold _ (by omega),List.getElem?_append_right (by simp only[List.length_append];omega),show j * 16+k-(A++C).length=k by simp only[List.length_append];omega,hu]
 obtain⟨src,hsrc⟩:∃ src:Addr,(if cap=j then(⟨b,0,none⟩:Addr)else⟨b,j * 16,none⟩)=src:=⟨_,rfl⟩
 have hsc:∀ (k:Nat) (u:Value),B[k]? = some u->w.drew.cell? (src.add k)=some u:=by
  intro k u hu;have hj:k<B.length:=(List.getElem?_eq_some_iff.1 hu).1;rw[<- hsrc,if_neg (by omega),Addr.add_lit,cell_of_row w.drew b _ cur 59 (0,0) hb];exact hgB k u hu
 obtain⟨cur1,hcur1⟩:∃ cur1,cur1=(putV (i * 16) B cur.toList).toArray:=⟨_,rfl⟩
 have hl1:cur1.size=cap * 16:=by rw[hcur1];simp[yfb,hcs]
 have hap:∀ ty,(Builtin.append_ #[24,24] ty #[.slice (some ⟨b,0,none⟩) i cap,.slice (some src) (n-j) (cap-j)]).run Tryz.prog w.drew=.ok (.slice (some ⟨b,0,none⟩) (n-(j-i)) cap) (w.drew.setRow b cur1):=fun ty=>by
  have h:=run_append_room (P:=Tryz.prog) w.drew 24 ty 59 i0 u0 inf0 b i cap cur hb src (n-j) (cap-j) B (by rw[size0];exact hB) hsc oB (by omega) (by rw[size0];omega);rw[size0,ymd (i * 16) B cur.toList (by simp;omega), <- hcur1,hnn]at h;exact h
 have hr1:(w.drew.setRow b cur1).heap[b]? = some (.cells cur1 59 (0,0)):=setRow_heap w.drew b cur cur1 59 (0,0) hb;obtain⟨cur2,hcur2⟩:∃ cur2,cur2=(putV ((n-(j-i)) * 16) ((List.range (j-i)).flatMap fun _=>z.cells.toList) cur1.toList).toArray:=⟨_,rfl⟩
 have hcl:∀ ty c,(Builtin.clear_ #[24] ty #[.slice (some ⟨b,(n-(j-i)) * 16,none⟩) (n-(n-(j-i))) c]).run Tryz.prog (w.drew.setRow b cur1)=.ok (.tuple #[]) ((w.drew.setRow b cur1).setRow b cur2):=fun ty c=>by
  rw[show n-(n-(j-i))=j-i by omega,hcur2];exact yhw _ 24 ty 59 i0 z u0 inf0 zero0 (by rw[size0];exact zs0) zone0 b _ (j-i) c 59 cur1 hr1 (by rw[size0,hl1];omega) (by omega)
 have hvl:=ype (vs:=fun _=>z.cells.toList) (e:=16) (j-i) (fun _ _=>by simpa using zs0)
 have fin:AppOut w ((w.drew.setRow b cur1).setRow b cur2) 59 16 (n-(j-i)) 0 (some b) (A++B) [] b cap cur2:=by
  refine⟨rfl,rfl,rfl,by simp,?_,setRow_heap _ b cur1 _ 59 (0,0) hr1,by rw[hcur2];simp[yfb,hl1],by omega,hcm,?_,fun j hj=>by omega,.inl rfl⟩
  ·intro k hk hkb
   rw[setRow_other _ b k _ hkb,setRow_other w.drew b k _ hkb];rfl
  ·intro k hk
   rw[hcur2];simp only[List.getElem?_toArray,yhb];rw[if_neg (by omega),hcur1];simp only[yhb];by_cases h1:k<i * 16
   ·rw[if_neg (by omega),List.getElem?_append_left (by omega)]
    have:A[k]? = some A[k]:=List.getElem?_eq_getElem (by omega);rw[this];simpa using hgA k _ this
   ·rw[if_pos (by simp only[Array.length_toList];omega),List.getElem?_append_right (by omega),hA]
 have hile:i<=j:=by omega
 have hne1:¬ (cap=n-(j-i)):=by omega
 have hle1:n-(j-i)<=n:=by omega
 by_cases hcj:cap=j
 all_goals
  first|rw[if_pos hcj]at hsrc|rw[if_neg hcj]at hsrc
  subst hsrc;try subst hcj
  clear hold hgA hgB hcs hb hA hC hB oB zero0 byt0 zs0 zone0 size0 hr1 hcur1 hcur2 hl1 hvl hsc hnn;go_enter Tryz.func79,Tryz.ntmps79
  go_wp2
  go_region_law_o (refine yjp rfl _ _ 24 24 rfl _ _ (by simp[Act.eval,Act.put]<;>omega) (by simp[Act.eval,Act.put]<;>omega) (hap _) ?_)
  go_wp2
  go_ret
  first|exact⟨_,rfl,fin⟩|exact⟨rfl,_,fin⟩
def zaf (a0:(List Aid)) (a1:Int) (a2:Int):List Aid:=a0.take a1.toNat++a0.drop a2.toNat
theorem yi6 (a0:(List Aid)) (a1:Int) (a2:Int) (hp0:0<=a1) (hp1:a1<a2) (hp2:a2<=a0.length):DenM Tryz.prog 79 [ownL 59 16 yob a0,.int .i64 a1,.int .i64 a2] (ownL 59 16 yob (zaf a0 a1 a2)) [.any,.any,.any]:=
 yl6 ⟨_,Tryz.func79,rfl,rfl⟩ yz6 (fun v=>by simp[yob,ownL,NoBorL,NoBor,yw,yl]) a0 a1 a2 hp0 hp1 hp2
def D_zaf : List AV -> Option (AV × List AV × List Prop)
 | [x0,x1,x2]=>some (ownL 59 16 yob (zaf (rdL dAid x0) (rdI x1) (rdI x2)),[.any,.any,.any],[wO 59 16 yob dAid x0,wI .i64 x1,wI .i64 x2,0<=(rdI x1),(rdI x1)<(rdI x2),(rdI x2)<=(rdL dAid x0).length])
 | _=>none
theorem yi2:OkM Tryz.prog 79 D_zaf:=by
 intro xs r outs ob h ho;unfold D_zaf at h;split at h
 ·simp only[Option.some.injEq,Prod.mk.injEq]at h
  obtain⟨rfl,rfl,rfl⟩:=h;obtain⟨h0,h1,h2,hp0,hp1,hp2,_⟩:=ho;exact DenM.sim (yi6 _ _ _ hp0 hp1 hp2) (yr (ymq h0) <| yr (yue h1).1 <| yr (yue h2).1 <| trivial)
 ·cases h
end Go.Ab
namespace Go.Ab
open Go Go.Proofs
theorem ykz (x:Int):(0<=x/\x.tdiv 10=x / 10)\/(x<0/\x.tdiv 10 = -((-x) / 10)):=by
 by_cases h:0<=x
 ·exact .inl ⟨h,Int.tdiv_eq_ediv_of_nonneg h⟩
 ·refine .inr ⟨by omega,?_⟩
  have h2:=Int.neg_tdiv (a:=x) (b:=10);rw[Int.tdiv_eq_ediv_of_nonneg (show 0 <= -x by omega)]at h2;omega
end Go.Ab
namespace Go.Ab
open Go
theorem y5f : ∀ (l : List UInt8) (c : UInt8), c ∉ l -> Lib.index l [c] = -1
 | [],c,_=>rfl
 | b::l,c,h=>by
  have h1:¬ c=b:=fun e=>h (by simp[e])
  have h2:=y5f l c (fun e=>h (by simp[e]));have h3:(c == b)=false:=by simpa using h1
  simp[Lib.index,h2,List.isPrefixOf,h3]
theorem ytg : ∀ (l t : List UInt8) (c : UInt8), c ∉ l -> Lib.index (l ++ c :: t) [c] = l.length
 | [],t,c,_=>by simp[Lib.index,List.isPrefixOf]
 | b::l,t,c,h=>by
  have h1:¬ c=b:=fun e=>h (by simp[e])
  have h2:=ytg l t c (fun e=>h (by simp[e]));have h3:(c == b)=false:=by simpa using h1
  have h4:((l.length:Int) == -1)=false:=by rw[beq_eq_false_iff_ne];omega
  simp only[List.cons_append,Lib.index,h2,List.isPrefixOf,h3,h4,Bool.false_and,List.length_cons];simp
theorem y0e (l t:List UInt8) (c:UInt8) (h:c∉l):Lib.cut (l++c::t) [c]=(l,t,true):=by
 unfold Lib.cut;rw[ytg l t c h,if_pos (by omega)];simp only[Int.toNat_natCast,List.length_singleton];rw[List.take_left' rfl, <- List.drop_drop,List.drop_left' rfl];rfl
theorem ylj (l:List UInt8) (c:UInt8) (h:c∉l):Lib.cut l [c]=(l,[],false):=by
 unfold Lib.cut;rw[y5f l c h,if_neg (by omega)]
theorem ync (l p:List UInt8):Lib.hasSuffix (l++p) p=true:=by
 unfold Lib.hasSuffix;rw[List.isSuffixOf_iff_suffix];exact List.suffix_append l p
theorem yfc (l p:List UInt8):Lib.trimSuffix (l++p) p=l:=by
 unfold Lib.trimSuffix;rw[ync];simp
theorem yvl (l p:List UInt8) (a b:UInt8) (h:a≠b):Lib.hasSuffix (l++[a]) (p++[b])=false:=by
 cases hs:Lib.hasSuffix (l++[a]) (p++[b])with
 | false=>rfl
 | true=>
  unfold Lib.hasSuffix at hs;rw[List.isSuffixOf_iff_suffix]at hs;obtain⟨t,ht⟩:=hs;have:=congrArg List.getLast? ht;rw[<- List.append_assoc]at this;simp at this
  exact absurd this.symm h
theorem yme (l p:List UInt8) (h:Lib.hasSuffix l p=false):Lib.trimSuffix l p=l:=by
 unfold Lib.trimSuffix;rw[h];simp
end Go.Ab
namespace Go.Ab
open Go Go.Lib
def ym (c : UInt8) : List UInt8 -> List (List UInt8)
  | []=>[[]]
  | b :: l => if b = c then [] :: ym c l else match ym c l with
    | []=>[[b]]
    | x::r=>(b::x)::r
theorem y1e (c : UInt8) : ∀ l, ym c l ≠ []
 | []=>by simp[ym]
 | b::l=>by
  simp only[ym];split
  ·simp
  ·split<;>simp
theorem ykb (c : UInt8) : ∀ l : List UInt8, c ∉ l -> ym c l = [l]
 | [],_=>rfl
 | b::l,h=>by
  simp only[List.mem_cons,not_or]at h;rw[ym,if_neg (fun e=>h.1 e.symm),ykb c l h.2]
theorem y7 (c : UInt8) : ∀ (a l : List UInt8), c ∉ a -> ym c (a ++ c :: l) = a :: ym c l
 | [],l,_=>by simp[ym]
 | b::a,l,h=>by
  simp only[List.mem_cons,not_or]at h;rw[List.cons_append,ym,if_neg (fun e=>h.1 e.symm),y7 c a l h.2]
theorem yl3 (c:UInt8):∀ (n:Nat) (s:List UInt8),s.length<=n->splitK [c] 0 (count s [c]) s=ym c s:=by
 intro n
 induction n with
 | zero=>
  intro s h;have:s=[]:=List.length_eq_zero_iff.1 (by omega);subst this;have hi:index [] [c] = -1:=by rw[index_one];rfl
  rw[count_miss hi];rfl
 | succ n ih=>
  intro s h;have h1:=index_one s c;by_cases hm:indexByte s c = -1
  ·rw[count_miss (by rw[h1];exact hm)]
   have hn:=indexByte_none hm
   rw[ykb c s (fun hc=>by
    obtain⟨k,hk⟩:=List.getElem?_of_mem hc
    exact hn k hk)]
   rfl
  ·have hge:=indexByte_ge s c
   obtain⟨o,ho⟩:∃ o:Nat,indexByte s c=o:=⟨(indexByte s c).toNat,by omega⟩
   obtain⟨e1,e2⟩:=indexByte_some ho;have hio:index s [c]=(o:Int):=h1.trans ho;rw[count_hit (by simp) hio,Nat.add_comm,splitK,if_neg (by rw[hio];simp),hio];have hlt:o<s.length:=(List.getElem?_eq_some_iff.1 e1).1
   have hs:s=s.take o++c::s.drop (o+1):=by
    conv=>lhs;rw[<- List.take_append_drop o s]
    rw[List.drop_eq_getElem_cons hlt];congr 2
    exact(List.getElem?_eq_some_iff.1 e1).2
   have hnot:c∉s.take o:=fun hc=>by
    obtain⟨k,hk⟩:=List.getElem?_of_mem hc
    have hko:k<o:=by
     have:=(List.getElem?_eq_some_iff.1 hk).1;simp at this;omega
    rw[List.getElem?_take_of_lt hko]at hk;exact e2 k hko hk
   have hd:s.drop ((o:Int).toNat+[c].length)=s.drop (o+1):=by simp
   rw[hd,show o+[c].length=o+1 from rfl,ih (s.drop (o+1)) (by simp;omega)];conv=>rhs;rw[hs]
   rw[y7 c _ _ hnot];simp
theorem ycb (c : UInt8) : ∀ (l : List UInt8), (ym c l).length <= l.length + 1 /\ ∀ x ∈ ym c l, x.length <= l.length
 | []=>by simp[ym]
 | b::l=>by
  obtain⟨h1,h2⟩:=ycb c l;simp only[ym];split
  ·simp only[List.length_cons,List.mem_cons]
   refine⟨by omega,fun x hx => ?_⟩;rcases hx with rfl|hx
   ·simp
   ·have:=h2 x hx;omega
  ·split
   ·simp
   ·rename_i x r he
    rw[he]at h1 h2;simp only[List.length_cons,List.mem_cons]at h1 ⊢;refine⟨by omega,fun y hy => ?_⟩;rcases hy with rfl|hy
    ·have:=h2 x (by simp);simp only[List.length_cons];omega
    ·have:=h2 y (by simp[hy]);omega
end Go.Ab
