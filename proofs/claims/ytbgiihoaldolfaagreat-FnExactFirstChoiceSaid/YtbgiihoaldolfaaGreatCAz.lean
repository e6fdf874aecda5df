/- A part of a proof: walks of functions and lemmas of our own. No conditions. -/
import Derived.Test.YtbgiihoaldolfaaGreatCAy
import Derived.Test.YtbgiihoaldolfaaGreatCAl
import Derived.Test.YtbgiihoaldolfaaGreatCAi
import Derived.Test.YtbgiihoaldolfaaGreatCAq
import Derived.Test.YtbgiihoaldolfaaGreatCAm
import Derived.Test.YtbgiihoaldolfaaGreatCAn
import Derived.Test.YtbgiihoaldolfaaGreatCAo
set_option linter.unusedSectionVars false
set_option linter.unusedVariables false
set_option linter.unusedSimpArgs false
set_option maxHeartbeats 1000000
namespace Go.Ab
open Go Go.Proofs
theorem CloB.symm {A B:List (Bool×Int)} {w:Int} (h:CloB A B w):CloB B A w:=by
 obtain⟨hl,f,hf,h⟩:=h;refine⟨hl.symm,(B.length-f) % B.length,?_,fun i hi => ?_⟩
 ·rw[hl];exact Nat.mod_lt _ (by omega)
 ·have hn:0<B.length:=by omega
  have hj:((B.length-f) % B.length+i) % A.length<A.length:=Nat.mod_lt _ (by omega);have h9:=h _ hj
  have e:(f+((B.length-f) % B.length+i) % A.length) % B.length=i:=by
   rw[hl,Nat.mod_add_mod,Nat.add_mod_mod];rw[show f+(B.length-f+i)=B.length+i by omega,Nat.add_mod_left,Nat.mod_eq_of_lt hi]
  rw[e]at h9;exact⟨h9.1.symm,by omega,by omega⟩
theorem y2l {a b:Character} {w:Int} (ha:zg a=true) (hb:zg b=true) (hw:0<=w/\w<=20) {x:UInt8} (hx:x.toNat≠0):zab (zf a [x]) (zf b [x]) w=true↔zab (zf b [x]) (zf a [x]) w=true:=by
 obtain⟨Ra,la,ea⟩:=yng ha;obtain⟨Rb,lb,eb⟩:=yng hb;obtain⟨Ka,hKa⟩:=y4c a;obtain⟨Kb,hKb⟩:=y4c b;obtain⟨ja,ja2,ja3⟩:=y0g x la;obtain⟨jb,jb2,jb3⟩:=y0g x lb;have sa:Sm (yug Ra):=⟨by omega,fun v hv=>by have:=ja3 v hv;omega⟩
 have sb:Sm (yug Rb):=⟨by omega,fun v hv=>by have:=jb3 v hv;omega⟩
 have iA:zn (zo (zf a [x]))=(yug Ra).map (phB x):=by rw[ea x hx,ja]
 have iB:zn (zo (zf b [x]))=(yug Rb).map (phB x):=by rw[eb x hx,jb]
 have nA:=ymh hx (yhc (col:=[x]) ha (by simp)) (by rw[hKa];exact yuh x Ka);have nB:=ymh hx (yhc (col:=[x]) hb (by simp)) (by rw[hKb];exact yuh x Kb);rw[yxm (nA.trans iA) (nB.trans iB) sa sb hw,yxm (nB.trans iB) (nA.trans iA) sb sa hw];exact⟨CloB.symm,CloB.symm⟩
theorem y1i {a:Character} (ha:zg a=true) {x:UInt8} (hx:x∈a.Colors):x.toNat≠0:=by
 rcases(yrh ha).1 _ hx with h|h|h|h<;>rw[h]<;>decide
theorem ydi {a b:Character} {w:Int} (ha:zg a=true) (hb:zg b=true) (ba:bdCharacter a) (bb:bdCharacter b) (hw:0<=w/\w<=20) :
  zmb a b w=true↔∃ x,x∈a.Colors/\x∈b.Colors/\zab (zf a [x]) (zf b [x]) w=true:=by
 obtain⟨P,hP⟩:=y2r ha hb hw;have hla:a.Colors.length<1099511627776:=ba.2.2;have hlb:b.Colors.length<1099511627776:=bb.2.2
 have hmem:∀ i,i<a.Colors.length->a.Colors.getD i 0∈a.Colors:=fun i hi=>by
  rw[List.getD_eq_getElem?_getD,List.getElem?_eq_getElem hi,Option.getD_some];exact List.getElem_mem _
 have hS:∀ i,i<a.Colors.length->yxf a b w i ()=bif decide (a.Colors.getD i 0∈b.Colors)then .error (zab (zf a [a.Colors.getD i 0]) (zf b [a.Colors.getD i 0]) w)else .ok ():=fun i hi=>by
  unfold yxf;rw[yho hla hi,ykn hlb]
 unfold zmb;rcases yu (b:=yxf a b w) (fun i=>decide (a.Colors.getD i 0∈b.Colors)) (fun i=>zab (zf a [a.Colors.getD i 0]) (zf b [a.Colors.getD i 0]) w) (k:=a.Colors.length-0) (i:=0) (s:=()) (fun j u _ h=>hS j (by omega))with⟨j,_,h2,h3,h4,h5⟩|⟨h1,h2⟩
 ·rw[h5]
  have hj:=hmem j (by omega);constructor
  ·intro h
   exact⟨_,hj,of_decide_eq_true h3,h⟩
  ·rintro⟨x,hx1,hx2,hx3⟩
   exact(hP _ (y1i ha hj)).1.2 ((hP x (y1i ha hx1)).1.1 hx3)
 ·rw[h2]
  constructor
  ·intro h;cases h
  ·rintro⟨x,hx1,hx2,hx3⟩
   obtain⟨i,hi,rfl⟩:=List.getElem_of_mem hx1;have h3:=h1 i (by omega) (by omega);rw[List.getD_eq_getElem?_getD,List.getElem?_eq_getElem hi,Option.getD_some]at h3;exact absurd hx2 (of_decide_eq_false h3)
theorem yqg {a b:Character} {w:Int} (ha:zg a=true) (hb:zg b=true) (ba:bdCharacter a) (bb:bdCharacter b) (hw:0<=w/\w<=20):zmb a b w=zmb b a w:=by
 rw[Bool.eq_iff_iff,ydi ha hb ba bb hw,ydi hb ha bb ba hw];constructor
 ·rintro⟨x,h1,h2,h3⟩
  exact⟨x,h2,h1,(y2l ha hb hw (y1i ha h1)).1 h3⟩
 ·rintro⟨x,h1,h2,h3⟩
  exact⟨x,h2,h1,(y2l hb ha hw (y1i hb h1)).1 h3⟩
theorem yyj {l:List Bool} {i j:Nat} (hi:i<l.length):(l.set i true).getD j false=(l.getD j false || (j == i)):=by
 rw[List.getD_eq_getElem?_getD,List.getD_eq_getElem?_getD,List.getElem?_set];by_cases h:i=j
 ·subst h
  simp[hi]
 ·rw[if_neg h]
  have:(j == i)=false:=by rw[beq_eq_false_iff_ne];omega
  rw[this,Bool.or_false]
def pos1 (p:List Int):Nat:=(p.getD 0 default).toNat * 12+(p.getD 1 default).toNat
def pos2 (p:List Int):Nat:=(p.getD 1 default).toNat * 12+(p.getD 0 default).toNat
theorem y11 {kl:List Bool} {p:List Int} (hl:kl.length=144) (h1:pos1 p<144) (h2:pos2 p<144) (j:Nat):(clS kl p).getD j false=(kl.getD j false || (j == pos1 p || j == pos2 p)):=by
 unfold clS;rw[yyj (by rw[List.length_set,hl];exact h2),yyj (by rw[hl];exact h1),Bool.or_assoc];rfl
theorem ydz (j : Nat) : ∀ (cs : List (List Int)) (kl : List Bool), kl.length = 144 -> (∀ p ∈ cs, pos1 p < 144 /\ pos2 p < 144) -> (cs.foldl clS kl).getD j false = (kl.getD j false || cs.any fun p => j == pos1 p || j == pos2 p)
 | [],kl,_,_=>by simp
 | p::cs,kl,hl,h=>by
  rw[List.foldl_cons,ydz j cs (clS kl p) (by unfold clS;rw[List.length_set,List.length_set,hl]) (fun q hq=>h q (by simp[hq])),y11 hl (h p (by simp)).1 (h p (by simp)).2,List.any_cons,Bool.or_assoc]
theorem yiz (m j : Nat) : ∀ k, k <= 12 -> (clD m k).getD j false = decide (∃ i, i < k /\ j = i * 12 + i)
 | 0,_=>by
  rw[clD,List.getD_eq_getElem?_getD,List.getElem?_replicate];have:¬ ∃ i,i<0/\j=i * 12+i:=fun⟨i,h,_⟩=>by omega
  rw[decide_eq_false this];split<;>rfl
 | k+1,hk=>by
  rw[clD,yyj (by rw[yzh];omega),yiz m j k (by omega)];by_cases h:j=k * 12+k
  ·subst h
   rw[decide_eq_true (⟨k,by omega,rfl⟩:∃ i,i<k+1/\k * 12+k=i * 12+i)];simp
  ·have hne:(j == k * 12+k)=false:=by rw[beq_eq_false_iff_ne];exact h
   rw[hne,Bool.or_false];refine decide_eq_decide.2 ⟨fun⟨i,h1,h2⟩=>⟨i,by omega,h2⟩,fun⟨i,h1,h2⟩=>⟨i,?_,h2⟩⟩;by_cases hik:i=k
   ·subst hik;exact absurd h2 h
   ·omega
theorem yow {a2:List Character} {a3:Int} (hm:a2.length<=12) (hv:∀ v∈a2,zg v=true/\bdCharacter v) (ht:0<=a3/\a3<=20) {i k:Nat} (hi:i<a2.length) (hk:k<a2.length) :
  (clP a2 a3).getD (i * 12+k) false=ytk a2 a3 i k:=by
 have hat:∀ j,j<a2.length->zg (a2.getD j default)=true/\bdCharacter (a2.getD j default):=fun j hj=>hv _ (yz hj)
 have hcf:∀ x y,x<a2.length->y<a2.length->zqb (a2.getD x default) (a2.getD y default) a3=zmb (a2.getD x default) (a2.getD y default) a3:=fun x y hx hy=>ykq (hat x hx).1 (hat y hy).1 (hat x hx).2 (hat y hy).2 ht
 unfold clP
 rw[ydz (i * 12+k) _ _ (yzh _ _) (fun p hp=>by
  obtain⟨x,y,h1,h2,_,rfl⟩:=(yyc hm).1 hp;unfold pos1 pos2;simp
  omega),yiz _ _ _ hm]
 unfold ytk;rw[Bool.eq_iff_iff,Bool.or_eq_true,Bool.or_eq_true,decide_eq_true_eq,List.any_eq_true,beq_iff_eq];constructor
 ·rintro(⟨x,h1,h2⟩|⟨p,hp,h⟩)
  ·left;omega
  ·obtain⟨x,y,h1,h2,h3,rfl⟩:=(yyc hm).1 hp
   right
   unfold pos1 pos2 at h;simp only[Bool.or_eq_true,beq_iff_eq,List.getD_cons_zero,List.getD_cons_succ,Int.toNat_natCast]at h;rw[hcf x y (by omega) h2]at h3;rcases h with h|h
   ·obtain rfl:i=x:=by omega
    obtain rfl:k=y:=by omega
    exact h3
   ·obtain rfl:i=y:=by omega
    obtain rfl:k=x:=by omega
    rw[yqg (hat i hi).1 (hat k hk).1 (hat i hi).2 (hat k hk).2 ht];exact h3
 ·rintro(h|h)
  ·left;exact⟨i,hi,by omega⟩
  ·by_cases hik:i=k
   ·left;exact⟨i,hi,by omega⟩
   ·right
    by_cases hlt:i<k
    ·refine⟨[(i:Int),(k:Int)],(yyc hm).2 ⟨i,k,hlt,hk,by rw[hcf i k hi hk];exact h,rfl⟩,?_⟩
     unfold pos1 pos2;simp
    ·refine⟨[(k:Int),(i:Int)],(yyc hm).2 ⟨k,i,by omega,hi,?_,rfl⟩,?_⟩
     ·rw[hcf k i hk hi,yqg (hat k hk).1 (hat i hi).1 (hat k hk).2 (hat i hi).2 ht];exact h
     ·unfold pos1 pos2
      simp
def y3p (a0:(List Int)) (a1:Int) (i1:Nat) (s1:Int×List Int):Except (Int×(List Int)) (Int×List Int):=
 .ok (IntKind.wrap .i64 (s1.1+1),s1.2.set i1 s1.1)
def zb (a0:(List Int)) (a1:Int):Int×(List Int):=
 (match ye (y3p a0 a1) (a0.length-0) 0 (a1,a0)with|.error e=>e|.ok s1=>(s1.1,s1.2))
namespace N16
theorem DD:DOk Tryz.prog (Go.Ab.DD []):=yj _
theorem den (a0:(List Int)) (a1:Int)  : DenM Tryz.prog 16 [ownL 2 1 yi a0,.int .i64 a1] (.int .i64 ((zb a0 a1).1)) [(ownL 2 1 yi ((zb a0 a1).2)),.any]:=by
 generalize hR:zb a0 a1=r;unfold zb at hR;refine dj (gb:=[true,false]) Tryz.func16 Tryz.ntmps16 Tryz.results16 ?_;intro c hL hc hk;obtain⟨hL0,hL1,_⟩:=hL;have hw0:a0.length<9223372036854775808:=Nat.lt_succ_of_le (yzc hL0).1;clear hL0 hL1;simp only[adEL,adE,adRL,adR,ownL,encL,sv,List.nil_append,List.append_nil,List.cons_append,List.length_cons,List.length_nil,pars,Nat.zero_add,Nat.reduceAdd]at hk ⊢;iterate 2 refine rS ?_
 refine AWP.block ?_;generalize hz1:ye (y3p a0 a1) (a0.length-0) 0 (a1,a0)=z1 at hR;refine AWP.range (y3p a0 a1) (fun i1 s1=>⟨[(0,.ref 0 1 0 s1.2.length),(1,.int .i64 s1.1),(5,.int .i64 (i1:Int))],[.arr 2 1 s1.2.length (fun j=>yi (s1.2.getD j default))]⟩) (fun i1 s1=>s1.2.length=a0.length) (a0.length) 0 (a1,a0) [0] hz1 ot wt sm ?_;clear hz1;intro i1 s1 hi1 hW1 hz1;refine rS ?_;refine AWP.cond rfl (fun hb => ?_) (fun hb => ?_)
 ·have hlt1:i1<a0.length:=ot
  rw[yg hlt1]at hz1;simp only[y3p]at hz1;iterate 3 refine rS ?_
  exact⟨_,[0],hlt1,wt,hz1,sm⟩
 ·obtain rfl:i1=a0.length:=ot
  rw[yh (Nat.le_refl _)]at hz1;subst hz1;dsimp only at hR;refine AWP.exit ?_;refine yb ?_;refine rS ?_;refine AWP.ret ?_;subst hR;exact es
end N16
def D_zb : List AV -> Option (AV × List AV × List Prop)
 | [x0,x1]=>some (.int .i64 ((zb (rdL ydb x0) (rdI x1)).1),[(ownL 2 1 yi ((zb (rdL ydb x0) (rdI x1)).2)),.any],[wO 2 1 yi ydb x0,wI .i64 x1])
 | _=>none
theorem ysm:OkM Tryz.prog 16 D_zb:=by unfold D_zb;exact dm N16.den
theorem ytc (a:List Int) (k:Int) (h:k<=9223372036854775807):(zb a k).1<=9223372036854775807:=by
 unfold zb
 obtain⟨t,h1,h2⟩:=ym (b:=y3p a k) (fun _ s=>s.1<=9223372036854775807) (k:=a.length-0) (i:=0) (s:=(k,a)) h (by
  intro j u _ _ h
  exact⟨_,rfl,yge _⟩)
 rw[h1];exact h2
def y5k (a0:(List Int)) (a1:Int) (i1:Nat) (s1:Int):Except (Int) (Int):=
 (bif ((a0.getD i1 default) != s1)then .error (-1)else .ok (IntKind.wrap .i64 (s1+1)))
def zjb (a0:(List Int)) (a1:Int):Int:=
 (match ye (y5k a0 a1) (a0.length-0) 0 a1 with|.error e=>e|.ok s1=>s1)
namespace N17
theorem DD:DOk Tryz.prog (Go.Ab.DD []):=yj _
theorem den (a0:(List Int)) (a1:Int)  : Den Tryz.prog 17 [encL 1 yi a0,.int .i64 a1] (.int .i64 (zjb a0 a1)):=by
 generalize hR:zjb a0 a1=r;unfold zjb at hR;refine di Tryz.func17 Tryz.ntmps17 Tryz.results17 ?_;intro c hL hc hk;obtain⟨hL0,hL1,_⟩:=hL;have hw0:a0.length<9223372036854775808:=Nat.lt_succ_of_le (yc hL0).1;clear hL0 hL1;simp only[pars,Nat.zero_add];iterate 2 refine rS ?_
 refine AWP.block ?_;generalize hz1:ye (y5k a0 a1) (a0.length-0) 0 a1=z1 at hR;refine AWP.range (y5k a0 a1) (fun i1 s1=>⟨[(0,encL 1 yi a0),(1,.int .i64 s1),(5,.int .i64 (i1:Int))],[]⟩) (fun i1 s1=>True) (a0.length) 0 a1 [] hz1 ot wt sm ?_;clear hz1;intro i1 s1 hi1 hW1 hz1;refine rS ?_;refine AWP.cond rfl (fun hb => ?_) (fun hb => ?_)
 ·have hlt1:i1<a0.length:=ot
  rw[yg hlt1]at hz1;simp only[y5k]at hz1;refine rS ?_;refine AWP.cond rfl (fun hb => ?_) (fun hb => ?_)
  ·simp only[hb,cond_true]at hz1
   refine rS ?_;refine AWP.ret ?_;subst hz1;dsimp only at hR;subst hR;exact es
  ·simp only[hb,cond_false]at hz1
   iterate 2 refine rS ?_
   exact⟨_,[],hlt1,wt,hz1,sm⟩
 ·obtain rfl:i1=a0.length:=ot
  rw[yh (Nat.le_refl _)]at hz1;subst hz1;dsimp only at hR;refine AWP.exit ?_;refine yb ?_;refine rS ?_;refine AWP.ret ?_;subst hR;exact es
end N17
def D_zjb : DF
 | [x0,x1]=>some (.int .i64 (zjb (rdL ydb x0) (rdI x1)),false,[wL 1 yi ydb x0,wI .i64 x1])
 | _=>none
theorem y4q:OkD Tryz.prog 17 D_zjb:=by unfold D_zjb;exact dk N17.den
def y3e (v:Int):Int:=v
theorem yfc (a:List Int) (k:Int):(zb a k).2.length=a.length:=by
 unfold zb
 obtain⟨t,h1,h2⟩:=ym (b:=y3p a k) (fun _ s=>s.2.length=a.length) (k:=a.length-0) (i:=0) (s:=(k,a)) rfl (by
  intro j u _ _ h
  exact⟨_,rfl,by simpa using h⟩)
 rw[h1];exact h2
theorem yle (a:List Int) (k:Int):subL (zb a k).2 0 a.length=(zb a k).2:=by
 rw[<- yfc a k];exact y6i _
theorem yf1 (a:List Int) (k:Int) (h0:0<=k) (h1:k+1 * a.length<4611686018427387904):zb a k=(k+1 * a.length,(List.range a.length).map (fun j:Nat=>y3e (k+1 * j))):=by
 unfold zb
 obtain⟨t,q1,q2,q3,q4⟩:=ym (b:=y3p a k) (fun i s=>s.1=k+1 * i/\s.2.length=a.length/\∀ j,j<i->s.2.getD j default=y3e (k+1 * j)) (k:=a.length-0) (i:=0) (s:=(k,a)) ⟨by simp,rfl,by intro j hj;omega⟩ (by
  intro j u _ hj ⟨h2,h3,h4⟩;have w1:∀ m:Int,0<=m->m<4611686018427387904->IntKind.wrap .i64 (m+1)=m+1:=by intro m _ _;rw[IntKind.wrap_i64];omega
  have w0:∀ m:Int,0<=m->m<4611686018427387904->IntKind.wrap .i64 m=m:=by intro m _ _;rw[IntKind.wrap_i64];omega
  refine⟨_,rfl,?_,?_,?_⟩
  ·simp only[h2,IntKind.wrap_i64];omega
  ·simpa using h3
  ·intro q hq
   simp only;rw[yij];by_cases h:q=j
   ·subst h
    rw[if_pos ⟨rfl,by omega⟩,h2];simp only[y3e];all_goals (try rw[Int.mk.injEq])
    all_goals (and_intros<;>first|rfl|trivial|(simp only[IntKind.wrap_i64];omega)|(congr 1;(simp only[IntKind.wrap_i64];omega)))
   ·rw[if_neg (fun hh=>h hh.1)]
    exact h4 q (by omega))
 rw[q1];simp only[Nat.zero_add,Nat.sub_zero]at q2 q4;simp only[q2];congr 1
 apply yzi
 ·simpa using q3
 ·intro i hi
  rw[q4 i (by omega)];simp[List.getD_eq_getElem?_getD]
  rw[List.getElem?_range (by omega)];rfl
theorem zb_k (a:List Int) (k:Int) (h0:0<=k) (h1:k<=1152921504606846976) (hl:a.length<1099511627776):(zb a k).1=k+1 * a.length:=by
 rw[yf1 a k h0 (by omega)]
theorem yyq (a:List Int) (k:Int) (h0:0<=k) (hk:k<=1152921504606846976) (h1:a.length<1099511627776):zjb (zb a k).2 k=(zb a k).1/\¬ (zb a k).1<0:=by
 rw[yf1 a k h0 (by omega)];refine⟨?_,by simp only;omega⟩;simp only;unfold zjb
 obtain⟨t,q1,q2⟩:=ym (b:=y5k ((List.range a.length).map (fun j:Nat=>y3e (k+1 * j))) k) (fun i s=>s=k+1 * (i:Int)) (k:=((List.range a.length).map (fun j:Nat=>y3e (k+1 * j))).length-0) (i:=0) (s:=k) (by simp) (by
  intro j u _ hj h2;have hj2:j<a.length:=by simpa using hj
  have hg:((List.range a.length).map (fun j:Nat=>y3e (k+1 * j))).getD j default=y3e (k+1 * j):=by
   simp[List.getD_eq_getElem?_getD,hj2]
  subst h2;refine⟨k+1 * ((j+1:Nat):Int),?_,rfl⟩;have e1:∀ m:Int,0<=m->m<4611686018427387904->(m+9223372036854775808) % 18446744073709551616-9223372036854775808=m:=by intro m _ _;omega
  simp only[y5k];simp only[hg];simp only[y3e,IntKind.wrap_i64]
  (repeat rw[e1 _ (by omega) (by omega)])
  simp only[Int.add_assoc,Int.reduceAdd,bne_self_eq_false,cond_false,Except.ok.injEq]
  omega)
 rw[q1];simp only[q2];simp
def y5l (a0:(List (List Int))) (a1:Int) (i1:Nat) (s1:Int×List (List Int)):Except (Int×(List (List Int))) (Int×List (List Int)):=
 .ok (((zb (s1.2.getD i1 default) s1.1).1),s1.2.set i1 ((zb (s1.2.getD i1 default) s1.1).2))
def zic (a0:(List (List Int))) (a1:Int):Int×(List (List Int)):=
 (match ye (y5l a0 a1) (a0.length-0) 0 (a1,a0)with|.error e=>e|.ok s1=>(s1.1,s1.2))
namespace N14
theorem DD:DOk Tryz.prog (Go.Ab.DD [(16,dM [true,false] D_zb)]):=yd ysm.e <| yj _
theorem dn:type_of% (And.intro @D_zb.eq_1 <| @yle):=And.intro @D_zb.eq_1 <| @yle
theorem ol:type_of% (@yfc):=@yfc
theorem gr {p:Prop} (h:p:=by(grind [yfc]);first|done|fail):p:=h
theorem o0 {p:Prop} (h:p:=by(first|((repeat' with_reducible apply And.intro)<;>first|omega|exact yge _|exact ytc _ _ (yge _)));first|done|fail):p:=h
theorem o1 {p:Prop} (h:p:=by(first|(exact yge _));first|done|fail):p:=h
set_option maxHeartbeats 2000000 in
set_option maxRecDepth 20000 in
theorem den (a0:(List (List Int))) (a1:Int) (hp0:a1<=9223372036854775807):DenD Tryz.prog 14 [ownL 26 1 yw a0,.int .i64 a1] (.int .i64 ((zic a0 a1).1)) [(ownL 26 1 yw ((zic a0 a1).2)),.any]:=by
 generalize hR:zic a0 a1=r;unfold zic at hR;refine y3k (gb:=[true,false]) G_ok Tryz.func14 (by kernel_rfl) rfl Tryz.ntmps14 (by rw[Tryz.results14]) (by simp) ?_;intro c hdp hL hc hk;obtain⟨hL0,hL1,_⟩:=hL;have hw0:a0.length<9223372036854775808:=Nat.lt_succ_of_le (yzc hL0).1;have hw1:∀ v∈a0,bwLIi64 v:=fun v hv=>yqq v ((yzc hL0).2 v hv)
 clear hL0 hL1;simp only[adEL,adE,adRL,adR,ownL,encL,sv,List.nil_append,List.append_nil,List.cons_append,List.length_cons,List.length_nil,pars,Nat.zero_add,Nat.reduceAdd]at hk ⊢;iterate 2 refine rS ?_
 refine AWP.block ?_;generalize hz1:ye (y5l a0 a1) (a0.length-0) 0 (a1,a0)=z1 at hR;refine AWP.range (y5l a0 a1) (fun i1 s1=>⟨[(0,.ref 0 1 0 s1.2.length),(1,.int .i64 s1.1),(5,.int .i64 (i1:Int))],[.arr 26 1 s1.2.length (fun j=>yw (s1.2.getD j default))]⟩) (fun i1 s1=>s1.2.length=a0.length/\s1.1<=9223372036854775807) (a0.length) 0 (a1,a0) [0] hz1 ot wt sm ?_;clear hz1;intro i1 s1 hi1 hW1 hz1;refine rS ?_;refine AWP.cond rfl (fun hb => ?_) (fun hb => ?_)
 ·have hlt1:i1<a0.length:=ot
  rw[yg hlt1]at hz1;simp only[y5l]at hz1;refine AWP.skip ?_;refine AWP.seq ?_;refine AWP.block ?_;refine AWP.openE rb 0 0 i1 0 rfl rfl ot (by simp only[putL,dropL,Nat.beq_refl,cond_true,ea,absV,absVL,cput,gv,sv,dn,reduceCtorEq,reduceIte,Nat.reduceBEq,Nat.reduceAdd,Nat.reduceEqDiff,Nat.reduceLT,Nat.reduceLeDiff,Nat.reduceMul,Nat.reduceSub,BEq.rfl,beq_self_eq_true,Int.reduceToNat];rfl) ?_;simp only[putL,dropL,Nat.beq_refl,cond_true,ea,absV,absVL,cput,gv,sv,dn,reduceCtorEq,reduceIte,Nat.reduceBEq,Nat.reduceAdd,Nat.reduceEqDiff,Nat.reduceLT,Nat.reduceLeDiff,Nat.reduceMul,Nat.reduceSub,BEq.rfl,beq_self_eq_true,Int.reduceToNat];refine rS ?_;simp only[ol];refine AWP.closeE 0 0 i1 0 1 rfl rfl rfl (by decide) ot (by simp only[putL,dropL,Nat.beq_refl,cond_true,ea,absV,absVL,cput,gv,sv,dn,reduceCtorEq,reduceIte,Nat.reduceBEq,Nat.reduceAdd,Nat.reduceEqDiff,Nat.reduceLT,Nat.reduceLeDiff,Nat.reduceMul,Nat.reduceSub,BEq.rfl,beq_self_eq_true,Int.reduceToNat];rfl) (fun k hk=>by rfl) ?_;simp only[putL,dropL,Nat.beq_refl,cond_true,ea,absV,absVL,cput,gv,sv,dn,reduceCtorEq,reduceIte,Nat.reduceBEq,Nat.reduceAdd,Nat.reduceEqDiff,Nat.reduceLT,Nat.reduceLeDiff,Nat.reduceMul,Nat.reduceSub,BEq.rfl,beq_self_eq_true,Int.reduceToNat];refine rS ?_;exact⟨_,[0],hlt1,by(first|(exact⟨by simp only[List.length_set];exact hW1.1,ytc _ _ hW1.2⟩)|exact mrg),hz1,sm⟩
 ·obtain rfl:i1=a0.length:=ot
  rw[yh (Nat.le_refl _)]at hz1;subst hz1;dsimp only at hR;refine AWP.exit ?_;refine yb ?_;refine rS ?_;refine AWP.ret ?_;subst hR;exact es
end N14
def y3r (a0:Int) (s1:Int×List UInt8):Except (Sum ((List UInt8)) (Int×List UInt8)) (Int×List UInt8):=
 (bif decide (0<s1.1)then .ok (IntKind.wrap .i64 (s1.1.tdiv 10),(([IntKind.wrap .u8 (IntKind.wrap .i64 (48+(s1.1.tmod 10)))]:List Int).map fun z=>UInt8.ofNat z.toNat)++s1.2)else .error (.inr (s1.1,s1.2)))
def zbd (a0:Int):(List UInt8):=
 (bif decide (a0<=0)then[109,48]else(match yme (y3r a0) (((a0).toNat)+1) (a0,[])with|.error (.inl e)=>e|.error (.inr s1)=>[109]++s1.2|.ok _=>default))
namespace N32
theorem DD:DOk Tryz.prog (Go.Ab.DD []):=yj _
theorem den (a0:Int) (hp0:a0<=9223372036854775807):Den Tryz.prog 32 [.int .i64 a0] (.str (zbd a0)):=by
 generalize hR:zbd a0=r;unfold zbd at hR;refine di Tryz.func32 Tryz.ntmps32 Tryz.results32 ?_;intro c hL hc hk;clear hL;simp only[pars,Nat.zero_add];iterate 2 refine rS ?_
 refine AWP.cond rfl (fun hb => ?_) (fun hb => ?_)
 ·replace hR:=ct hR
  refine rS ?_;refine AWP.ret ?_;subst hR;exact es
 ·replace hR:=cf hR
  refine rS ?_;refine AWP.seq ?_;refine AWP.block ?_;generalize hz1:yme (y3r a0) (((a0).toNat)+1) (a0,[])=z1 at hR;refine AWP.whileW (y3r a0) (fun s1=>⟨[(0,.int .i64 s1.1),(3,.str s1.2)],[]⟩) (fun s1=>0<=s1.1/\s1.2.length<=19/\s1.1 * 10 ^ s1.2.length<=a0) (fun s1=>(s1.1).toNat) (((a0).toNat)+1) (a0,[]) [] hz1 m0 (by(refine⟨by have:=of_decide_eq_false hb;simp only;omega,by simp,by simp⟩)) sm ?_;clear hz1;intro s1 k1 hW1 hm1 hz1;simp only[y3r]at hz1;refine rS ?_;refine AWP.cond rfl (fun hb => ?_) (fun hb => ?_)
  ·simp only[hb,cond_true]at hz1
   iterate 2 refine rS ?_
   exact⟨_,[],by(exact Nat.lt_of_lt_of_le (digd hW1 hb hp0) (Nat.le_of_lt_succ hm1)),by(exact digw rfl hW1 hb hp0),hz1,sm⟩
  ·simp only[hb,cond_false]at hz1
   refine AWP.exit ?_;refine yb ?_;subst hz1;dsimp only at hR;refine rS ?_;refine AWP.ret ?_;subst hR;exact es
end N32
def D_zbd : DF
 | [x0]=>some (.str (zbd (rdI x0)),false,[wI .i64 x0,(rdI x0)<=9223372036854775807])
 | _=>none
theorem ycx:OkD Tryz.prog 32 D_zbd:=by unfold D_zbd;exact dk N32.den
def ytn (a0:(List Character)) (a1:Int) (i1:Nat) (s1:Int×List Character):Except (Int×(List Character)) (Int×List Character):=
 .ok (IntKind.wrap .i64 ((IntKind.wrap .i64 ((IntKind.wrap .i64 (((zb ((s1.2.getD i1 default).Group) (IntKind.wrap .i64 (s1.1+1))).1)+1))+1))+1),s1.2.set i1 ({ Kind:=s1.1,Group:=(zb ((s1.2.getD i1 default).Group) (IntKind.wrap .i64 (s1.1+1))).2,Letter:=(zbd ((zb ((s1.2.getD i1 default).Group) (IntKind.wrap .i64 (s1.1+1))).1)),Colors:=(zbd (IntKind.wrap .i64 (((zb ((s1.2.getD i1 default).Group) (IntKind.wrap .i64 (s1.1+1))).1)+1))),Period:=IntKind.wrap .i64 ((IntKind.wrap .i64 (((zb ((s1.2.getD i1 default).Group) (IntKind.wrap .i64 (s1.1+1))).1)+1))+1):Character }))
def zod (a0:(List Character)) (a1:Int):Int×(List Character):=
 (match ye (ytn a0 a1) (a0.length-0) 0 (a1,a0)with|.error e=>e|.ok s1=>(s1.1,s1.2))
namespace N15
theorem DD:DOk Tryz.prog (Go.Ab.DD [(16,dM [true,false] D_zb),(32,dP D_zbd)]):=yd ysm.e <| yd ycx.e <| yj _
theorem dn:type_of% (And.intro @D_zb.eq_1 <| And.intro @D_zbd.eq_1 <| @yle):=And.intro @D_zb.eq_1 <| And.intro @D_zbd.eq_1 <| @yle
theorem ol:type_of% (@yfc):=@yfc
theorem gr {p:Prop} (h:p:=by(grind [yfc]);first|done|fail):p:=h
theorem o0 {p:Prop} (h:p:=by(first|((repeat' with_reducible apply And.intro)<;>first|omega|exact yge _|exact ytc _ _ (yge _)));first|done|fail):p:=h
theorem o1 {p:Prop} (h:p:=by(first|(exact yge _));first|done|fail):p:=h
theorem o2 {p:Prop} (h:p:=by(first|((repeat' with_reducible apply And.intro)<;>first|(simp only[List.length_set];(first|done|fail))|(rw[IntKind.wrap_i64];omega)|decide|omega|(intro j hj;by_cases hji:j=i1;(focus(rw[hji,yhd _ _ _ (by omega)];simp only[beq_self_eq_true,cond_true,yfc];first|(first|done|fail)|exact⟨rfl,rfl⟩|rfl));(rw[yid _ _ _ _ hji];simp only[beq_eq_false_iff_ne.2 hji,cond_false];first|(first|done|fail)|exact⟨rfl,rfl⟩|rfl))));first|done|fail):p:=h
set_option maxHeartbeats 2000000 in
set_option maxRecDepth 20000 in
theorem den (a0:(List Character)) (a1:Int) (hp0:a1<=9223372036854775807):DenD Tryz.prog 15 [ownL 51 5 yib a0,.int .i64 a1] (.int .i64 ((zod a0 a1).1)) [(ownL 51 5 yib ((zod a0 a1).2)),.any]:=by
 generalize hR:zod a0 a1=r;unfold zod at hR;refine y3k (gb:=[true,false]) G_ok Tryz.func15 (by kernel_rfl) rfl Tryz.ntmps15 (by rw[Tryz.results15]) (by simp) ?_;intro c hdp hL hc hk;obtain⟨hL0,hL1,_⟩:=hL;have hw0:a0.length<9223372036854775808:=Nat.lt_succ_of_le (yzc hL0).1;have hw1:∀ v∈a0,bwCharacter v:=fun v hv=>yck v ((yzc hL0).2 v hv)
 clear hL0 hL1;simp only[adEL,adE,adRL,adR,ownL,encL,sv,List.nil_append,List.append_nil,List.cons_append,List.length_cons,List.length_nil,pars,Nat.zero_add,Nat.reduceAdd]at hk ⊢;iterate 2 refine rS ?_
 refine AWP.block ?_;generalize hz1:ye (ytn a0 a1) (a0.length-0) 0 (a1,a0)=z1 at hR;refine AWP.range (ytn a0 a1) (fun i1 s1=>⟨[(0,.ref 0 5 0 s1.2.length),(1,.int .i64 s1.1),(5,.int .i64 (i1:Int))],[.arr 51 5 s1.2.length (fun j=>yib (s1.2.getD j default))]⟩) (fun i1 s1=>s1.2.length=a0.length/\s1.1<=9223372036854775807) (a0.length) 0 (a1,a0) [0] hz1 ot wt sm ?_;clear hz1;intro i1 s1 hi1 hW1 hz1;refine rS ?_;refine AWP.cond rfl (fun hb => ?_) (fun hb => ?_)
 ·have hlt1:i1<a0.length:=ot
  rw[yg hlt1]at hz1;simp only[ytn]at hz1;iterate 2 refine rS ?_
  refine AWP.seq ?_;refine AWP.openE rb 0 0 i1 1 rfl rfl ot (by simp only[putL,dropL,Nat.beq_refl,cond_true,ea,absV,absVL,cput,gv,sv,dn,reduceCtorEq,reduceIte,Nat.reduceBEq,Nat.reduceAdd,Nat.reduceEqDiff,Nat.reduceLT,Nat.reduceLeDiff,Nat.reduceMul,Nat.reduceSub,BEq.rfl,beq_self_eq_true,Int.reduceToNat];rfl) ?_;simp only[putL,dropL,Nat.beq_refl,cond_true,ea,absV,absVL,cput,gv,sv,dn,reduceCtorEq,reduceIte,Nat.reduceBEq,Nat.reduceAdd,Nat.reduceEqDiff,Nat.reduceLT,Nat.reduceLeDiff,Nat.reduceMul,Nat.reduceSub,BEq.rfl,beq_self_eq_true,Int.reduceToNat];refine rS ?_;simp only[ol];refine AWP.closeE 0 0 i1 1 1 rfl rfl rfl (by decide) ot (by simp only[putL,dropL,Nat.beq_refl,cond_true,ea,absV,absVL,cput,gv,sv,dn,reduceCtorEq,reduceIte,Nat.reduceBEq,Nat.reduceAdd,Nat.reduceEqDiff,Nat.reduceLT,Nat.reduceLeDiff,Nat.reduceMul,Nat.reduceSub,BEq.rfl,beq_self_eq_true,Int.reduceToNat];rfl) (fun k hk=>by rfl) ?_;simp only[putL,dropL,Nat.beq_refl,cond_true,ea,absV,absVL,cput,gv,sv,dn,reduceCtorEq,reduceIte,Nat.reduceBEq,Nat.reduceAdd,Nat.reduceEqDiff,Nat.reduceLT,Nat.reduceLeDiff,Nat.reduceMul,Nat.reduceSub,BEq.rfl,beq_self_eq_true,Int.reduceToNat];iterate 2 refine rS ?_
  refine AWP.keepT [0,1,5] ?_;simp only[List.map,putL,dropL,Nat.beq_refl,cond_true,ea,absV,absVL,cput,gv,sv,dn,reduceCtorEq,reduceIte,Nat.reduceBEq,Nat.reduceAdd,Nat.reduceEqDiff,Nat.reduceLT,Nat.reduceLeDiff,Nat.reduceMul,Nat.reduceSub,BEq.rfl,beq_self_eq_true,Int.reduceToNat];iterate 5 refine rS ?_
  exact⟨_,[0],hlt1,by(exact⟨by simp only[List.length_set];exact hW1.1,yge _⟩),hz1,sm⟩
 ·obtain rfl:i1=a0.length:=ot
  rw[yh (Nat.le_refl _)]at hz1;subst hz1;dsimp only at hR;refine AWP.exit ?_;refine yb ?_;refine rS ?_;refine AWP.keepT [4] ?_;simp only[List.map,putL,dropL,Nat.beq_refl,cond_true,ea,absV,absVL,cput,gv,sv,dn,reduceCtorEq,reduceIte,Nat.reduceBEq,Nat.reduceAdd,Nat.reduceEqDiff,Nat.reduceLT,Nat.reduceLeDiff,Nat.reduceMul,Nat.reduceSub,BEq.rfl,beq_self_eq_true,Int.reduceToNat];refine AWP.ret ?_;subst hR;exact es
end N15
theorem yrf (a:List (List Int)) (k:Int) (h:k<=9223372036854775807):(zic a k).1<=9223372036854775807:=by
 unfold zic
 obtain⟨t,h1,h2⟩:=ym (b:=y5l a k) (fun _ s=>s.1<=9223372036854775807) (k:=a.length-0) (i:=0) (s:=(k,a)) h (by
  intro j u _ _ h
  exact⟨_,rfl,ytc _ _ h⟩)
 rw[h1];exact h2
def zeb (a0:(List Int)) (a1:Int):Int:=
 (bif decide ((IntKind.wrap .i64 (a1-(a0.length:Int)))<0)then(-1)else IntKind.wrap .i64 (a1-(a0.length:Int)))
namespace N20
theorem DD:DOk Tryz.prog (Go.Ab.DD []):=yj _
theorem den (a0:(List Int)) (a1:Int)  : Den Tryz.prog 20 [encL 1 yi a0,.int .i64 a1] (.int .i64 (zeb a0 a1)):=by
 generalize hR:zeb a0 a1=r;unfold zeb at hR;refine di Tryz.func20 Tryz.ntmps20 Tryz.results20 ?_;intro c hL hc hk;obtain⟨hL0,hL1,_⟩:=hL;have hw0:a0.length<9223372036854775808:=Nat.lt_succ_of_le (yc hL0).1;clear hL0 hL1;simp only[pars,Nat.zero_add];iterate 3 refine rS ?_
 refine AWP.cond rfl (fun hb => ?_) (fun hb => ?_)
 ·replace hR:=ct hR
  refine rS ?_;refine AWP.ret ?_;subst hR;exact es
 ·replace hR:=cf hR
  refine rS ?_;refine AWP.ret ?_;subst hR;exact es
end N20
def D_zeb : DF
 | [x0,x1]=>some (.int .i64 (zeb (rdL ydb x0) (rdI x1)),false,[wL 1 yi ydb x0,wI .i64 x1])
 | _=>none
theorem ycs:OkD Tryz.prog 20 D_zeb:=by unfold D_zeb;exact dk N20.den
theorem yjn (a:List Int) (n:Int) (h0 : -1<=n) (h1:n<=1048576) (hl:a.length<9223372036854775808) :
  -1<=zeb a n/\zeb a n<=n/\(¬ zeb a n<0->a.length<=1048576):=by
 unfold zeb;rw[show IntKind.wrap .i64 (n-(a.length:Int))=n-a.length from by rw[IntKind.wrap_i64];omega];by_cases c:n-(a.length:Int)<0
 ·rw[decide_eq_true c];exact⟨by simp,by simpa using h0,fun h=>absurd (by simp) h⟩
 ·rw[decide_eq_false c];simp only[cond_false];omega
def ybq (a0:(List (List Int))) (a1:Int) (i1:Nat) (s1:Int):Except (Int) (Int):=
 (bif decide ((zeb (a0.getD i1 default) s1)<0)then .error (-1)else .ok (zeb (a0.getD i1 default) s1))
def zt (a0:(List (List Int))) (a1:Int):Int:=
 (bif decide ((IntKind.wrap .i64 (a1-(a0.length:Int)))<0)then(-1)else(match ye (ybq a0 a1) (a0.length-0) 0 (IntKind.wrap .i64 (a1-(a0.length:Int)))with|.error e=>e|.ok s1=>s1))
namespace N5
theorem DD:DOk Tryz.prog (Go.Ab.DD [(20,dP D_zeb)]):=yd ycs.e <| yj _
theorem dn:type_of% (@D_zeb.eq_1):=by and_intros<;>intros<;>rfl
theorem den (a0:(List (List Int))) (a1:Int)  : Den Tryz.prog 5 [encL 1 yt a0,.int .i64 a1] (.int .i64 (zt a0 a1)):=by
 generalize hR:zt a0 a1=r;unfold zt at hR;refine di Tryz.func5 Tryz.ntmps5 Tryz.results5 ?_;intro c hL hc hk;obtain⟨hL0,hL1,_⟩:=hL;have hw0:a0.length<9223372036854775808:=Nat.lt_succ_of_le (yc hL0).1;have hw1:∀ v∈a0,bwLIi64 v:=fun v hv=>ynb v ((yc hL0).2 v hv)
 clear hL0 hL1;simp only[pars,Nat.zero_add];iterate 3 refine rS ?_
 refine AWP.cond rfl (fun hb => ?_) (fun hb => ?_)
 ·replace hR:=ct hR
  refine rS ?_;refine AWP.ret ?_;subst hR;exact es
 ·replace hR:=cf hR
  refine rS ?_;refine AWP.block ?_;generalize hz1:ye (ybq a0 a1) (a0.length-0) 0 (IntKind.wrap .i64 (a1-(a0.length:Int)))=z1 at hR;refine AWP.range (ybq a0 a1) (fun i1 s1=>⟨[(0,encL 1 yt a0),(1,.int .i64 s1),(5,.int .i64 (i1:Int))],[]⟩) (fun i1 s1=>True) (a0.length) 0 (IntKind.wrap .i64 (a1-(a0.length:Int))) [] hz1 ot wt sm ?_;clear hz1;intro i1 s1 hi1 hW1 hz1;refine rS ?_;refine AWP.cond rfl (fun hb => ?_) (fun hb => ?_)
  ·have hlt1:i1<a0.length:=ot
   rw[yg hlt1]at hz1;simp only[ybq]at hz1;iterate 2 refine rS ?_
   refine AWP.cond rfl (fun hb => ?_) (fun hb => ?_)
   ·simp only[hb,cond_true]at hz1
    refine rS ?_;refine AWP.ret ?_;subst hz1;dsimp only at hR;subst hR;exact es
   ·simp only[hb,cond_false]at hz1
    refine rS ?_;exact⟨_,[],hlt1,wt,hz1,sm⟩
  ·obtain rfl:i1=a0.length:=ot
   rw[yh (Nat.le_refl _)]at hz1;subst hz1;dsimp only at hR;refine AWP.exit ?_;refine yb ?_;refine rS ?_;refine AWP.ret ?_;subst hR;exact es
end N5
def D_zt : DF
 | [x0,x1]=>some (.int .i64 (zt (rdL yv x0) (rdI x1)),false,[wL 1 yt yv x0,wI .i64 x1])
 | _=>none
theorem ydv:OkD Tryz.prog 5 D_zt:=by unfold D_zt;exact dk N5.den
def y5m (v:List Int):Prop:=v.length<=1048576
theorem y2i (a:List (List Int)) (n:Int) (h0 : -1<=n) (h1:n<=1048576) (hl:a.length<9223372036854775808) (hx:∀ v∈a,bwLIi64 v) :
  -1<=zt a n/\zt a n<=n/\(¬ zt a n<0->a.length<=1048576/\∀ v∈a,y5m v):=by
 unfold zt;rw[show IntKind.wrap .i64 (n-(a.length:Int))=n-a.length from by rw[IntKind.wrap_i64];omega];by_cases c:n-(a.length:Int)<0
 ·rw[decide_eq_true c];exact⟨by simp,by simpa using h0,fun h=>absurd (by simp) h⟩
 ·rw[decide_eq_false c]
  simp only[cond_false];split
  ·rename_i e h
   obtain⟨j,t,_,_,h3⟩:=ykg h;simp only[ybq]at h3
   have:e = -1:=by
    cases hq:decide (zeb (a.getD j default) t<0)with
    | true=>rw[hq]at h3;simpa using h3.symm
    | false=>rw[hq]at h3;simp at h3
   omega
  ·rename_i s h
   have:=yrk (b:=ybq a n) (fun i s => -1<=s/\s<=n-a.length/\∀ j,j<i->y5m (a.getD j default)) ⟨by omega,by omega,by intro j hj;omega⟩ (by
    intro j u v h1 h2 ⟨h3,h4,h5⟩ h6;simp only[ybq]at h6;have hb:bwLIi64 (a.getD j default):=yye hx (by decide) j;have hf:=yjn (a.getD j default) u h3 (by omega) hb
    cases hq:decide (zeb (a.getD j default) u<0)with
    | true=>rw[hq]at h6;simp at h6
    | false=>
     rw[hq]at h6;simp only[cond_false,Except.ok.injEq]at h6;subst h6;refine⟨by omega,by omega,fun q hq2 => ?_⟩;by_cases hqj:q=j
     ·subst hqj;exact hf.2.2 (of_decide_eq_false hq)
     ·exact h5 q (by omega)) h
   refine⟨by omega,by omega,fun _=>⟨by omega,fun v hv => ?_⟩⟩;obtain⟨i,hi,rfl⟩:=List.getElem_of_mem hv;have:=this.2.2 i (by omega);simpa [List.getD_eq_getElem?_getD,hi]using this
theorem yxl (v:List Int) (h:y5m v):bdLIi64 v:=by unfold y5m at h;unfold bdLIi64;omega
def zvc (a0:Character) (a1:Int):Int:=
 (bif decide ((zeb a0.Group a1)<0)then(-1)else(bif decide ((IntKind.wrap .i64 ((zeb a0.Group a1)-(a0.Letter.length:Int)))<0)then(-1)else(bif decide ((IntKind.wrap .i64 ((IntKind.wrap .i64 ((zeb a0.Group a1)-(a0.Letter.length:Int)))-(a0.Colors.length:Int)))<0)then(-1)else IntKind.wrap .i64 ((IntKind.wrap .i64 ((zeb a0.Group a1)-(a0.Letter.length:Int)))-(a0.Colors.length:Int)))))
namespace N21
theorem DD:DOk Tryz.prog (Go.Ab.DD [(20,dP D_zeb)]):=yd ycs.e <| yj _
theorem dn:type_of% (@D_zeb.eq_1):=by and_intros<;>intros<;>rfl
theorem den (a0:Character) (a1:Int)  : Den Tryz.prog 21 [.agg (eCharacter a0),.int .i64 a1] (.int .i64 (zvc a0 a1)):=by
 generalize hR:zvc a0 a1=r;unfold zvc at hR;refine di Tryz.func21 Tryz.ntmps21 Tryz.results21 ?_;intro c hL hc hk;obtain⟨hL0,hL1,_⟩:=hL;have hw0:bwCharacter a0:=yf a0 hL0;clear hL0 hL1;simp only[pars,Nat.zero_add];iterate 3 refine rS ?_
 refine AWP.cond rfl (fun hb => ?_) (fun hb => ?_)
 ·replace hR:=ct hR
  refine rS ?_;refine AWP.ret ?_;subst hR;exact es
 ·replace hR:=cf hR
  iterate 2 refine rS ?_
  refine AWP.cond rfl (fun hb => ?_) (fun hb => ?_)
  ·replace hR:=ct hR
   refine rS ?_;refine AWP.ret ?_;subst hR;exact es
  ·replace hR:=cf hR
   iterate 2 refine rS ?_
   refine AWP.cond rfl (fun hb => ?_) (fun hb => ?_)
   ·replace hR:=ct hR
    refine rS ?_;refine AWP.ret ?_;subst hR;exact es
   ·replace hR:=cf hR
    refine rS ?_;refine AWP.ret ?_;subst hR;exact es
end N21
def D_zvc : DF
 | [x0,x1]=>some (.int .i64 (zvc (rdG ya x0) (rdI x1)),false,[wG eCharacter ya x0,wI .i64 x1])
 | _=>none
theorem ynx:OkD Tryz.prog 21 D_zvc:=by unfold D_zvc;exact dk N21.den
theorem y0t (x:Character) (n:Int) (h0 : -1<=n) (h1:n<=1048576) (hx:bwCharacter x) : -1<=zvc x n/\zvc x n<=n/\(¬ zvc x n<0->y9d x):=by
 obtain⟨b0,b1,b2⟩:=hx;unfold zvc;have f0:=yjn x.Group (n) (by omega) (by omega) b0;by_cases c0:zeb x.Group (n)<0
 ·rw[decide_eq_true c0];exact⟨by simp,by simpa using h0,fun h=>absurd (by simp) h⟩
 rw[decide_eq_false c0];simp only[cond_false];have b1':x.Letter.length<9223372036854775808:=b1;rw[show IntKind.wrap .i64 (zeb x.Group (n)-(x.Letter.length:Int))=zeb x.Group (n)-(x.Letter.length:Int)from by rw[IntKind.wrap_i64];omega];by_cases c1:zeb x.Group (n)-(x.Letter.length:Int)<0
 ·rw[decide_eq_true c1];exact⟨by simp,by simpa using h0,fun h=>absurd (by simp) h⟩
 rw[decide_eq_false c1];simp only[cond_false];have b2':x.Colors.length<9223372036854775808:=b2;rw[show IntKind.wrap .i64 (zeb x.Group (n)-(x.Letter.length:Int)-(x.Colors.length:Int))=zeb x.Group (n)-(x.Letter.length:Int)-(x.Colors.length:Int)from by rw[IntKind.wrap_i64];omega];by_cases c2:zeb x.Group (n)-(x.Letter.length:Int)-(x.Colors.length:Int)<0
 ·rw[decide_eq_true c2];exact⟨by simp,by simpa using h0,fun h=>absurd (by simp) h⟩
 rw[decide_eq_false c2];simp only[cond_false];exact⟨by omega,by omega,fun _=>⟨f0.2.2 c0,by omega,by omega⟩⟩
def yfj (a0:(List Character)) (a1:Int) (i1:Nat) (s1:Int):Except (Int) (Int):=
 (bif decide ((zvc (a0.getD i1 default) s1)<0)then .error (-1)else .ok (zvc (a0.getD i1 default) s1))
def zdb (a0:(List Character)) (a1:Int):Int:=
 (bif decide ((IntKind.wrap .i64 (a1-(a0.length:Int)))<0)then(-1)else(match ye (yfj a0 a1) (a0.length-0) 0 (IntKind.wrap .i64 (a1-(a0.length:Int)))with|.error e=>e|.ok s1=>s1))
namespace N6
theorem DD:DOk Tryz.prog (Go.Ab.DD [(21,dP D_zvc)]):=yd ynx.e <| yj _
theorem dn:type_of% (@D_zvc.eq_1):=by and_intros<;>intros<;>rfl
theorem den (a0:(List Character)) (a1:Int)  : Den Tryz.prog 6 [encL 5 eCharacter a0,.int .i64 a1] (.int .i64 (zdb a0 a1)):=by
 generalize hR:zdb a0 a1=r;unfold zdb at hR;refine di Tryz.func6 Tryz.ntmps6 Tryz.results6 ?_;intro c hL hc hk;obtain⟨hL0,hL1,_⟩:=hL;have hw0:a0.length<9223372036854775808:=Nat.lt_succ_of_le (yc hL0).1;have hw1:∀ v∈a0,bwCharacter v:=fun v hv=>yf v ((yc hL0).2 v hv)
 clear hL0 hL1;simp only[pars,Nat.zero_add];iterate 3 refine rS ?_
 refine AWP.cond rfl (fun hb => ?_) (fun hb => ?_)
 ·replace hR:=ct hR
  refine rS ?_;refine AWP.ret ?_;subst hR;exact es
 ·replace hR:=cf hR
  refine rS ?_;refine AWP.block ?_;generalize hz1:ye (yfj a0 a1) (a0.length-0) 0 (IntKind.wrap .i64 (a1-(a0.length:Int)))=z1 at hR;refine AWP.range (yfj a0 a1) (fun i1 s1=>⟨[(0,encL 5 eCharacter a0),(1,.int .i64 s1),(5,.int .i64 (i1:Int))],[]⟩) (fun i1 s1=>True) (a0.length) 0 (IntKind.wrap .i64 (a1-(a0.length:Int))) [] hz1 ot wt sm ?_;clear hz1;intro i1 s1 hi1 hW1 hz1;refine rS ?_;refine AWP.cond rfl (fun hb => ?_) (fun hb => ?_)
  ·have hlt1:i1<a0.length:=ot
   rw[yg hlt1]at hz1;simp only[yfj]at hz1;iterate 2 refine rS ?_
   refine AWP.cond rfl (fun hb => ?_) (fun hb => ?_)
   ·simp only[hb,cond_true]at hz1
    refine rS ?_;refine AWP.ret ?_;subst hz1;dsimp only at hR;subst hR;exact es
   ·simp only[hb,cond_false]at hz1
    refine rS ?_;exact⟨_,[],hlt1,wt,hz1,sm⟩
  ·obtain rfl:i1=a0.length:=ot
   rw[yh (Nat.le_refl _)]at hz1;subst hz1;dsimp only at hR;refine AWP.exit ?_;refine yb ?_;refine rS ?_;refine AWP.ret ?_;subst hR;exact es
end N6
def D_zdb : DF
 | [x0,x1]=>some (.int .i64 (zdb (rdL ya x0) (rdI x1)),false,[wL 5 eCharacter ya x0,wI .i64 x1])
 | _=>none
theorem yjr:OkD Tryz.prog 6 D_zdb:=by unfold D_zdb;exact dk N6.den
theorem yhh (a:List Character) (n:Int) (h0 : -1<=n) (h1:n<=1048576) (hl:a.length<9223372036854775808) (hx:∀ v∈a,bwCharacter v) :
  -1<=zdb a n/\zdb a n<=n/\(¬ zdb a n<0->a.length<=1048576/\∀ v∈a,y9d v):=by
 unfold zdb;rw[show IntKind.wrap .i64 (n-(a.length:Int))=n-a.length from by rw[IntKind.wrap_i64];omega];by_cases c:n-(a.length:Int)<0
 ·rw[decide_eq_true c];exact⟨by simp,by simpa using h0,fun h=>absurd (by simp) h⟩
 ·rw[decide_eq_false c]
  simp only[cond_false];split
  ·rename_i e h
   obtain⟨j,t,_,_,h3⟩:=ykg h;simp only[yfj]at h3
   have:e = -1:=by
    cases hq:decide (zvc (a.getD j default) t<0)with
    | true=>rw[hq]at h3;simpa using h3.symm
    | false=>rw[hq]at h3;simp at h3
   omega
  ·rename_i s h
   have:=yrk (b:=yfj a n) (fun i s => -1<=s/\s<=n-a.length/\∀ j,j<i->y9d (a.getD j default)) ⟨by omega,by omega,by intro j hj;omega⟩ (by
    intro j u v h1 h2 ⟨h3,h4,h5⟩ h6;simp only[yfj]at h6;have hb:bwCharacter (a.getD j default):=yye hx (by decide) j;have hf:=y0t (a.getD j default) u h3 (by omega) hb
    cases hq:decide (zvc (a.getD j default) u<0)with
    | true=>rw[hq]at h6;simp at h6
    | false=>
     rw[hq]at h6;simp only[cond_false,Except.ok.injEq]at h6;subst h6;refine⟨by omega,by omega,fun q hq2 => ?_⟩;by_cases hqj:q=j
     ·subst hqj;exact hf.2.2 (of_decide_eq_false hq)
     ·exact h5 q (by omega)) h
   refine⟨by omega,by omega,fun _=>⟨by omega,fun v hv => ?_⟩⟩;obtain⟨i,hi,rfl⟩:=List.getElem_of_mem hv;have:=this.2.2 i (by omega);simpa [List.getD_eq_getElem?_getD,hi]using this
def y9o (a0:(List Int)) (i1:Nat) (s1:List Int):Except ((List Int)) (List Int):=
 .ok (s1.set i1 (a0.getD i1 default))
def zkb (a0:(List Int)):(List Int):=
 (match ye (y9o a0) (a0.length-0) 0 (List.replicate a0.length (default:Int))with|.error e=>e|.ok s1=>s1)
namespace N26
theorem DD:DOk Tryz.prog (Go.Ab.DD []):=yj _
theorem den (a0:(List Int)) (hb0:a0.length<1099511627776):Den Tryz.prog 26 [encL 1 yi a0] (ownL 2 1 yi (zkb a0)):=by
 generalize hR:zkb a0=r;unfold zkb at hR;refine di Tryz.func26 Tryz.ntmps26 Tryz.results26 ?_;intro c hL hc hk;obtain⟨hL0,_⟩:=hL;have hw0:a0.length<9223372036854775808:=Nat.lt_succ_of_le (yc hL0).1;clear hL0;simp only[pars,Nat.zero_add];iterate 3 refine rS ?_
 refine AWP.block ?_;generalize hz1:ye (y9o a0) (a0.length-0) 0 (List.replicate a0.length (default:Int))=z1 at hR;refine AWP.range (y9o a0) (fun i1 s1=>⟨[(0,encL 1 yi a0),(3,.ref 0 1 0 s1.length),(4,.int .i64 (i1:Int))],[.arr 2 1 s1.length (fun j=>yi (s1.getD j default))]⟩) (fun i1 s1=>s1.length=(List.replicate a0.length (default:Int)).length) (a0.length) 0 (List.replicate a0.length (default:Int)) [0] hz1 ot wt sm ?_;clear hz1;intro i1 s1 hi1 hW1 hz1;refine rS ?_;refine AWP.cond rfl (fun hb => ?_) (fun hb => ?_)
 ·have hlt1:i1<a0.length:=ot
  rw[yg hlt1]at hz1;simp only[y9o]at hz1;iterate 2 refine rS ?_
  exact⟨_,[0],hlt1,wt,hz1,sm⟩
 ·obtain rfl:i1=a0.length:=ot
  rw[yh (Nat.le_refl _)]at hz1;subst hz1;dsimp only at hR;refine AWP.exit ?_;refine yb ?_;refine rS ?_;refine AWP.ret ?_;subst hR;exact es
end N26
def D_zkb : DF
 | [x0]=>some (ownL 2 1 yi (zkb (rdL ydb x0)),false,[wL 1 yi ydb x0,(rdL ydb x0).length<1099511627776])
 | _=>none
theorem yxr:OkD Tryz.prog 26 D_zkb:=by unfold D_zkb;exact dk N26.den
theorem yhl (a:List Int):zkb a=a:=by
 unfold zkb;rw[y3h (b:=y9o a) (fun i=>a.getD i default) (by simp) (fun i s _=>rfl)];skip
 exact y8 a
def yeu (a0:(List (List Int))) (i1:Nat) (s1:List (List Int)):Except ((List (List Int))) (List (List Int)):=
 .ok (s1.set i1 (zkb (a0.getD i1 default)))
def zi (a0:(List (List Int))):(List (List Int)):=
 (match ye (yeu a0) (a0.length-0) 0 (List.replicate a0.length (default:(List Int)))with|.error e=>e|.ok s1=>s1)
namespace N8
theorem DD:DOk Tryz.prog (Go.Ab.DD [(26,dP D_zkb)]):=yd yxr.e <| yj _
theorem dn:type_of% (@D_zkb.eq_1):=by and_intros<;>intros<;>rfl
theorem ol:type_of% (@yhl):=@yhl
theorem den (a0:(List (List Int))) (hb0:a0.length<1099511627776) (hb1:∀ v∈a0,bdLIi64 v):Den Tryz.prog 8 [encL 1 yt a0] (ownL 26 1 yw (zi a0)):=by
 generalize hR:zi a0=r;unfold zi at hR;refine di Tryz.func8 Tryz.ntmps8 Tryz.results8 ?_;intro c hL hc hk;obtain⟨hL0,_⟩:=hL;have hw0:a0.length<9223372036854775808:=Nat.lt_succ_of_le (yc hL0).1;have hw1:∀ v∈a0,bwLIi64 v:=fun v hv=>ynb v ((yc hL0).2 v hv)
 clear hL0;simp only[pars,Nat.zero_add];iterate 2 refine rS ?_
 refine AWP.arrS 0 (fun j=>yw ((List.replicate a0.length (default:(List Int))).getD j default)) rfl zs ?_;simp only[setE];refine rS ?_;refine AWP.block ?_;generalize hz1:ye (yeu a0) (a0.length-0) 0 (List.replicate a0.length (default:(List Int)))=z1 at hR;refine AWP.range (yeu a0) (fun i1 s1=>⟨[(0,encL 1 yt a0),(3,.ref 0 1 0 s1.length),(4,.int .i64 (i1:Int))],[.arr 26 1 s1.length (fun j=>yw (s1.getD j default))]⟩) (fun i1 s1=>s1.length=(List.replicate a0.length (default:(List Int))).length) (a0.length) 0 (List.replicate a0.length (default:(List Int))) [0] hz1 ot wt sm ?_;clear hz1;intro i1 s1 hi1 hW1 hz1;refine rS ?_;refine AWP.cond rfl (fun hb => ?_) (fun hb => ?_)
 ·have hlt1:i1<a0.length:=ot
  rw[yg hlt1]at hz1;simp only[yeu]at hz1;iterate 2 refine rS ?_
  exact⟨_,[0],hlt1,wt,hz1,sm⟩
 ·obtain rfl:i1=a0.length:=ot
  rw[yh (Nat.le_refl _)]at hz1;subst hz1;dsimp only at hR;refine AWP.exit ?_;refine yb ?_;refine rS ?_;refine AWP.ret ?_;subst hR;exact es
end N8
def D_zi : DF
 | [x0]=>some (ownL 26 1 yw (zi (rdL yv x0)),false,[wL 1 yt yv x0,(rdL yv x0).length<1099511627776,∀ v∈(rdL yv x0),bdLIi64 v])
 | _=>none
theorem y8v:OkD Tryz.prog 8 D_zi:=by unfold D_zi;exact dk N8.den
theorem ykt (a:List (List Int)):zi a=a:=by
 unfold zi;rw[y3h (b:=yeu a) (fun i=>zkb (a.getD i default)) (by simp) (fun i s _=>rfl)];simp only[yhl];exact y8 a
def zid (a0:Character):Character:=
 { Kind:=a0.Kind,Group:=(zkb a0.Group),Letter:=a0.Letter,Colors:=a0.Colors,Period:=a0.Period:Character }
namespace N27
theorem DD:DOk Tryz.prog (Go.Ab.DD [(26,dP D_zkb)]):=yd yxr.e <| yj _
theorem dn:type_of% (@D_zkb.eq_1):=by and_intros<;>intros<;>rfl
theorem ol:type_of% (@yhl):=@yhl
theorem den (a0:Character) (hb0:bdCharacter a0):Den Tryz.prog 27 [.agg (eCharacter a0)] (.agg (yib (zid a0))):=by
 generalize hR:zid a0=r;unfold zid at hR;refine di Tryz.func27 Tryz.ntmps27 Tryz.results27 ?_;intro c hL hc hk;obtain⟨hL0,_⟩:=hL;have hw0:bwCharacter a0:=yf a0 hL0;clear hL0;simp only[pars,Nat.zero_add];iterate 8 refine rS ?_
 refine AWP.ret ?_;subst hR;exact es
end N27
def D_zid : DF
 | [x0]=>some (.agg (yib (zid (rdG ya x0))),false,[wG eCharacter ya x0,bdCharacter (rdG ya x0)])
 | _=>none
theorem ysw:OkD Tryz.prog 27 D_zid:=by unfold D_zid;exact dk N27.den
def yyv (a0:(List Character)) (i1:Nat) (s1:List Character):Except ((List Character)) (List Character):=
 .ok (s1.set i1 (zid (a0.getD i1 default)))
def zk (a0:(List Character)):(List Character):=
 (match ye (yyv a0) (a0.length-0) 0 (List.replicate a0.length (default:Character))with|.error e=>e|.ok s1=>s1)
namespace N9
theorem DD:DOk Tryz.prog (Go.Ab.DD [(27,dP D_zid)]):=yd ysw.e <| yj _
theorem dn:type_of% (@D_zid.eq_1):=by and_intros<;>intros<;>rfl
theorem den (a0:(List Character)) (hb0:a0.length<1099511627776) (hb1:∀ v∈a0,bdCharacter v):Den Tryz.prog 9 [encL 5 eCharacter a0] (ownL 51 5 yib (zk a0)):=by
 generalize hR:zk a0=r;unfold zk at hR;refine di Tryz.func9 Tryz.ntmps9 Tryz.results9 ?_;intro c hL hc hk;obtain⟨hL0,_⟩:=hL;have hw0:a0.length<9223372036854775808:=Nat.lt_succ_of_le (yc hL0).1;have hw1:∀ v∈a0,bwCharacter v:=fun v hv=>yf v ((yc hL0).2 v hv)
 clear hL0;simp only[pars,Nat.zero_add];iterate 2 refine rS ?_
 refine AWP.arrS 0 (fun j=>yib ((List.replicate a0.length (default:Character)).getD j default)) rfl zs ?_;simp only[setE];refine rS ?_;refine AWP.block ?_;generalize hz1:ye (yyv a0) (a0.length-0) 0 (List.replicate a0.length (default:Character))=z1 at hR;refine AWP.range (yyv a0) (fun i1 s1=>⟨[(0,encL 5 eCharacter a0),(3,.ref 0 5 0 s1.length),(4,.int .i64 (i1:Int))],[.arr 51 5 s1.length (fun j=>yib (s1.getD j default))]⟩) (fun i1 s1=>s1.length=(List.replicate a0.length (default:Character)).length) (a0.length) 0 (List.replicate a0.length (default:Character)) [0] hz1 ot wt sm ?_;clear hz1;intro i1 s1 hi1 hW1 hz1;refine rS ?_;refine AWP.cond rfl (fun hb => ?_) (fun hb => ?_)
 ·have hlt1:i1<a0.length:=ot
  rw[yg hlt1]at hz1;simp only[yyv]at hz1;iterate 2 refine rS ?_
  exact⟨_,[0],hlt1,wt,hz1,sm⟩
 ·obtain rfl:i1=a0.length:=ot
  rw[yh (Nat.le_refl _)]at hz1;subst hz1;dsimp only at hR;refine AWP.exit ?_;refine yb ?_;refine rS ?_;refine AWP.ret ?_;subst hR;exact es
end N9
def D_zk : DF
 | [x0]=>some (ownL 51 5 yib (zk (rdL ya x0)),false,[wL 5 eCharacter ya x0,(rdL ya x0).length<1099511627776,∀ v∈(rdL ya x0),bdCharacter v])
 | _=>none
theorem yvv:OkD Tryz.prog 9 D_zk:=by unfold D_zk;exact dk N9.den
theorem yu1 (v:Character):zid v=v:=by
 unfold zid;simp only[yhl]
theorem ybt (a:List Character):zk a=a:=by
 unfold zk;rw[y3h (b:=yyv a) (fun i=>zid (a.getD i default)) (by simp) (fun i s _=>rfl)];simp only[yu1];exact y8 a
def y8s (a0:(List Int)) (a1:(List Int)) (i1:Nat) (s1:Unit):Except (Bool) (Unit):=
 (bif ((a0.getD i1 default) != (a1.getD i1 default))then .error false else .ok ())
def zx (a0:(List Int)) (a1:(List Int)):Bool:=
 (bif ((a0.length:Int) != (a1.length:Int))then false else(match ye (y8s a0 a1) (a0.length-0) 0 ()with|.error e=>e|.ok s1=>true))
namespace N11
theorem DD:DOk Tryz.prog (Go.Ab.DD []):=yj _
theorem den (a0:(List Int)) (a1:(List Int))  : Den Tryz.prog 11 [encL 1 yi a0,encL 1 yi a1] (.bool (zx a0 a1)):=by
 generalize hR:zx a0 a1=r;unfold zx at hR;refine di Tryz.func11 Tryz.ntmps11 Tryz.results11 ?_;intro c hL hc hk;obtain⟨hL0,hL1,_⟩:=hL;have hw0:a0.length<9223372036854775808:=Nat.lt_succ_of_le (yc hL0).1;have hw1:a1.length<9223372036854775808:=Nat.lt_succ_of_le (yc hL1).1;clear hL0 hL1;simp only[pars,Nat.zero_add];iterate 2 refine rS ?_
 refine AWP.cond rfl (fun hb => ?_) (fun hb => ?_)
 ·replace hR:=ct hR
  refine rS ?_;refine AWP.ret ?_;subst hR;exact es
 ·replace hR:=cf hR
  refine rS ?_;refine AWP.block ?_;generalize hz1:ye (y8s a0 a1) (a0.length-0) 0 ()=z1 at hR;refine AWP.range (y8s a0 a1) (fun i1 s1=>⟨[(0,encL 1 yi a0),(1,encL 1 yi a1),(5,.int .i64 (i1:Int))],[]⟩) (fun i1 s1=>True) (a0.length) 0 () [] hz1 ot wt sm ?_;clear hz1;intro i1 s1 hi1 hW1 hz1;refine rS ?_;refine AWP.cond rfl (fun hb => ?_) (fun hb => ?_)
  ·have hlt1:i1<a0.length:=ot
   rw[yg hlt1]at hz1;simp only[y8s]at hz1;refine rD 8 ?_;refine AWP.cond rfl (fun hb => ?_) (fun hb => ?_)
   ·simp only[hb,cond_true]at hz1
    refine rS ?_;refine AWP.ret ?_;subst hz1;dsimp only at hR;subst hR;exact es
   ·simp only[hb,cond_false]at hz1
    refine rS ?_;exact⟨_,[],hlt1,wt,hz1,sm⟩
  ·obtain rfl:i1=a0.length:=ot
   rw[yh (Nat.le_refl _)]at hz1;subst hz1;dsimp only at hR;refine AWP.exit ?_;refine yb ?_;refine rS ?_;refine AWP.ret ?_;subst hR;exact es
end N11
def D_zx : DF
 | [x0,x1]=>some (.bool (zx (rdL ydb x0) (rdL ydb x1)),false,[wL 1 yi ydb x0,wL 1 yi ydb x1])
 | _=>none
theorem ybm:OkD Tryz.prog 11 D_zx:=by unfold D_zx;exact dk N11.den
end Go.Ab
