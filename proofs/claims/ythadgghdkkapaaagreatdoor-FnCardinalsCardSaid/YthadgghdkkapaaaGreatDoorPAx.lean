/- A part of a proof: walks of functions and lemmas of our own. No conditions. -/
import Derived.Test.YthadgghdkkapaaaGreatDoorPAl
import Derived.Test.YthadgghdkkapaaaGreatDoorPAt
import Derived.Test.YthadgghdkkapaaaGreatDoorPAw
import Derived.Test.YthadgghdkkapaaaGreatDoorPAs
import Derived.Test.YthadgghdkkapaaaGreatDoorPAv
import Derived.Test.YthadgghdkkapaaaGreatDoorPAr
import Derived.Test.YthadgghdkkapaaaGreatDoorPAp
import Derived.Test.YthadgghdkkapaaaGreatDoorPAn
import Derived.Test.YthadgghdkkapaaaGreatDoorPAo
import Derived.Test.YthadgghdkkapaaaGreatDoorPAu
import Derived.Test.YthadgghdkkapaaaGreatDoorPAq
set_option linter.unusedSectionVars false
set_option linter.unusedVariables false
set_option linter.unusedSimpArgs false
set_option maxHeartbeats 1000000
namespace Go.Ab
open Go Go.Proofs
def zbg (a0:Danger) (a1:(List Aid)) (a2:Int):((List Int)×Int):=
 (bif ((!(zmb a0)) || (!(zjb a1)))then([],1)else(bif (!(zf a2 0 20000))then([],2)else((zyf a0 a1 a2),0)))
def yfc (p:Int->Bool):List Int:=[3,4,5,6].filter p
theorem yct (p:Int->Bool) {k:Int} (h1:3<=k) (h2:k<=6):zcg (yfc p) k=yfc fun x=>p x || x == k:=by
 have hk:k=3\/k=4\/k=5\/k=6:=by omega
 unfold yfc;rcases hk with rfl|rfl|rfl|rfl<;>cases h3:p 3<;>cases h4:p 4<;>cases h5:p 5<;>cases h6:p 6<;>simp only[List.filter,h3,h4,h5,h6,Bool.or_true,Bool.or_false,Bool.true_or,Bool.false_or]<;>decide
theorem y9d {p q:Int->Bool} (h:∀ k,3<=k->k<=6->p k=q k):yfc p=yfc q:=by
 unfold yfc;refine List.filter_congr fun x hx => ?_
 simp only[List.mem_cons,List.not_mem_nil,or_false]at hx;exact h x (by omega) (by omega)
def yzh (d:Danger) (l:List Aid) (w:Int) (k:Int):Bool:=l.any fun a=>(a.Mark.Kind == k) && zxf d a w
theorem ywr {d:Danger} {a:Aid} {w:Int} (h:zxf d a w=true):3<=a.Mark.Kind/\a.Mark.Kind<=6:=by
 unfold zxf at h
 cases hk:zf a.Mark.Kind 3 6 with
 | false=>rw[hk]at h;cases h
 | true=>unfold zf at hk;simp at hk;omega
theorem yvd (d:Danger) (l:List Aid) (w:Int):zyf d l w=yfc (yzh d l w):=by
 unfold zyf
 obtain⟨t,h1,h2⟩:=ygc (b:=yrs d l w) (fun j s=>s=yfc (yzh d (l.take j) w)) (k:=l.length-0) (i:=0) (s:=[]) (by
  rw[List.take_zero];rfl) (by
  rintro j _ _ hj rfl
  unfold yrs;have hj:j<l.length:=by omega
  have ht:=yue l j hj
  cases hm:zxf d (l.getD j default) w with
  | false=>
   refine⟨_,rfl,?_⟩;rw[ht];refine y9d fun k _ _ => ?_
   unfold yzh;rw[List.any_append,List.any_cons,List.any_nil,hm,Bool.and_false,Bool.or_false,Bool.or_false]
  | true=>
   have hk:=ywr hm;refine⟨_,rfl,?_⟩;rw[yct _ hk.1 hk.2,ht];refine y9d fun k _ _ => ?_
   unfold yzh
   rw[List.any_append,List.any_cons,List.any_nil,hm,Bool.and_true,Bool.or_false,Bool.beq_comm (a:=k)])
 rw[h1];simp only at h2 ⊢;rw[h2,show 0+(l.length-0)=l.length by omega,List.take_length]
theorem ywk (l:List Aid) (k:Int) (d:Danger) (w:Int):zrc l k d w=l.any fun a=>zne a k d w:=by
 unfold zrc zgd;rw[<- y9i (fun a=>zne a k d w) l];rcases y1d (b:=yxl l k d w) (fun j=>zne (l.getD j default) k d w) (fun j=>(j:Int)) (k:=l.length-0) (i:=0) (s:=()) (fun j u _ _=>rfl)with⟨j,_,h2,h3,_,h5⟩|⟨h1,h2⟩
 ·rw[h5]
  simp only;rw[decide_eq_true (show(0:Int)<=(j:Int)by omega)];exact(List.any_eq_true.2 ⟨j,List.mem_range.2 (by omega),h3⟩).symm
 ·rw[h2]
  simp only;rw[decide_eq_false (by decide)];symm
  rw[List.any_eq_false];intro j hj;rw[List.mem_range]at hj;rw[h1 j (by omega) (by omega)];decide
theorem y8f (d:Danger) (l:List Aid) (w:Int):ymb (y7k d l w) (((7-(3:Int)).toNat)+1) (([]:List Int),3)=.error (.inr (yfc (fun k=>zrc l k d w),7)):=by
 have st:∀ (o:List Int) (k m:Int),k<=6->3<=k->m=k+1->y7k d l w (o,k)=.ok (o++(bif zrc l k d w then[k]else[]),m):=fun o k m h1 h2 h3=>by
  subst h3;unfold y7k;simp only;rw[decide_eq_true h1,cond_true,show IntKind.wrap .i64 (k+1)=k+1 by rw[IntKind.wrap_i64];omega]
  cases zrc l k d w with
  | true=>rfl
  | false=>rw[cond_false,cond_false,List.append_nil]
 have en:∀ o:List Int,y7k d l w (o,7)=.error (.inr (o,7)):=fun o=>rfl
 show ymb (y7k d l w) 5 ([],3)=_;simp only[ymb,fun o=>st o 3 4 (by decide) (by decide) (by decide),fun o=>st o 4 5 (by decide) (by decide) (by decide),fun o=>st o 5 6 (by decide) (by decide) (by decide),fun o=>st o 6 7 (by decide) (by decide) (by decide),en];unfold yfc;cases h3:zrc l 3 d w<;>cases h4:zrc l 4 d w<;>cases h5:zrc l 5 d w<;>cases h6:zrc l 6 d w<;>simp[List.filter,h3,h4,h5,h6]
theorem yz0 {a:Aid} (h:zib a=true):zeb a.At=true:=by
 cases ho:zeb a.At with
 | true=>rfl
 | false=>
  exfalso;unfold zib at h;rw[ho]at h;simp at h
theorem yim (p:Int->Bool):(yfc p).length<=4:=List.length_filter_le _ _
theorem y5s {α:Type} {l:List α} {p q:α->Bool} (h:∀ a∈l,p a=q a):l.any p=l.any q:=by
 induction l with
 | nil=>rfl
 | cons a l ih=>
  rw[List.any_cons,List.any_cons,h a (List.mem_cons_self ..),ih fun b hb=>h b (List.mem_cons_of_mem _ hb)]
theorem y9z {l:List Aid} (h:zjb l=true) (a:Aid) (ha:a∈l):zib a=true:=((y7n l).1 h).1 a ha
theorem ywx (d:Danger) (l:List Aid) (w:Int) (hl:∀ v∈l,aidL v):zk d l w=zbg d l w/\(zbg d l w).1.length<=4:=by
 unfold zk zbg;rw[ymm l (fun v h=>hl v h)]
 have e1:zub d=zmb d:=by
  unfold zub zmb;rw[y8n];rfl
 have e2:zjc w=zf w 0 20000:=rfl;rw[e1,e2]
 cases h1:zmb d with
 | false=>exact⟨rfl,by simp⟩
 | true=>
  cases h2:zjb l with
  | false=>exact⟨rfl,by simp⟩
  | true=>
   simp only[Bool.not_true,Bool.or_false,cond_false]
   cases zf w 0 20000 with
   | false=>exact⟨rfl,by simp⟩
   | true=>
    simp only[Bool.not_true,cond_false];rw[y8f,yvd];refine⟨?_,yim _⟩;simp only;congr 1
    refine y9d fun k _ _ => ?_
    rw[ywk];unfold yzh;refine y5s fun a ha => ?_
    unfold zne;unfold zmb at h1;rw[Bool.and_eq_true,Bool.and_eq_true]at h1;have hr:1<=d.Radius:=by have:=h1.2;unfold zf at this;simp at this;omega
    rw[ynq (y2k h1.1.2) (y2k (yz0 (y9z h2 a ha))) hr]
theorem yd0 (d:Danger) (l:List Aid) (w:Int):(zk d l w).1.length<=4:=by
 unfold zk
 cases(!(zub d)) || (!(zlc l))with
 | true=>simp
 | false=>
  rw[cond_false]
  cases zjc w with
  | false=>simp
  | true=>
   rw[y8f];simp only[Bool.not_true,cond_false];exact yim _
def zqe (a0:Danger) (a1:Aid) (a2:Int):Bool:=
 ((((zub a0) && (zee a1)) && (zjc a2)) && (zqd a0 a1 a2))
namespace N12
theorem DD:DOk Tryz.prog (Go.Ab.DD [(47,dP D_zub),(48,dP D_zjc),(56,dP D_zee),(57,dP D_zqd)]):=ya ygh.e <| ya ycl.e <| ya y1p.e <| ya yyo.e <| yb _
theorem dn:type_of% (And.intro @D_zub.eq_1 <| And.intro @D_zjc.eq_1 <| And.intro @D_zee.eq_1 <| @D_zqd.eq_1):=by and_intros<;>intros<;>rfl
theorem den (a0:Danger) (a1:Aid) (a2:Int) (hb0:bdDanger a0) (hb1:bdAid a1):Den Tryz.prog 12 [.agg (yr a0),.agg (eAid a1),.int .i64 a2] (.bool (zqe a0 a1 a2)):=by
 generalize hR:zqe a0 a1 a2=r;unfold zqe at hR;refine di Tryz.func12 Tryz.ntmps12 Tryz.results12 ?_;intro c hL hc hk;obtain⟨hL0,hL1,hL2,_⟩:=hL;have hw0:bwDanger a0:=y5 a0 hL0;have hw1:bwAid a1:=yeb a1 hL1;clear hL0 hL1 hL2;simp only[pars,Nat.zero_add];iterate 2 refine rS ?_
 refine AWP.ret ?_;subst hR;exact es
end N12
def D_zqe : DF
 | [x0,x1,x2]=>some (.bool (zqe (rdG yu x0) (rdG dAid x1) (rdI x2)),false,[wG yr yu x0,wG eAid dAid x1,wI .i64 x2,bdDanger (rdG yu x0),bdAid (rdG dAid x1)])
 | _=>none
theorem ynv:OkD Tryz.prog 12 D_zqe:=by unfold D_zqe;exact dk N12.den
def zod (a0:Danger) (a1:(List Aid)) (a2:Int):Bool:=
 ((((zk a0 a1 a2).1).length:Int) == 4)
namespace N13
theorem DD:DOk Tryz.prog (Go.Ab.DD [(15,dP D_zk)]):=ya yqu.e <| yb _
theorem dn:type_of% (@D_zk.eq_1):=by and_intros<;>intros<;>rfl
theorem den (a0:Danger) (a1:(List Aid)) (a2:Int) (hb0:bdDanger a0) (hb1:a1.length<1099511627776) (hb2:∀ v∈a1,bdAid v):Den Tryz.prog 13 [.agg (yr a0),encL 16 eAid a1,.int .i64 a2] (.bool (zod a0 a1 a2)):=by
 generalize hR:zod a0 a1 a2=r;unfold zod at hR;refine di Tryz.func13 Tryz.ntmps13 Tryz.results13 ?_;intro c hL hc hk;obtain⟨hL0,hL1,hL2,_⟩:=hL;have hw0:bwDanger a0:=y5 a0 hL0;have hw1:a1.length<9223372036854775808:=Nat.lt_succ_of_le (yf hL1).1;have hw2:∀ v∈a1,bwAid v:=fun v hv=>yeb v ((yf hL1).2 v hv)
 clear hL0 hL1 hL2;simp only[pars,Nat.zero_add];iterate 3 refine rS ?_
 refine AWP.ret ?_;subst hR;exact es
end N13
def D_zod : DF
 | [x0,x1,x2]=>some (.bool (zod (rdG yu x0) (rdL dAid x1) (rdI x2)),false,[wG yr yu x0,wL 16 eAid dAid x1,wI .i64 x2,bdDanger (rdG yu x0),(rdL dAid x1).length<1099511627776,∀ v∈(rdL dAid x1),bdAid v])
 | _=>none
theorem yrw:OkD Tryz.prog 13 D_zod:=by unfold D_zod;exact dk N13.den
theorem yni:∀ i:Fin 360,(-1000000<=zqb (i.val:Int)/\zqb (i.val:Int)<=1000000 /\ -1000000<=znc (i.val:Int)/\znc (i.val:Int)<=1000000) /\
  (i.val<90->zqb (i.val:Int)<1000000)/\(i.val<180 -> -1000000<znc (i.val:Int))/\(i.val<270 -> -1000000<zqb (i.val:Int)):=by decide +kernel
theorem yud:znc ((0:Nat):Int)=1000000/\zqb ((90:Nat):Int)=1000000/\znc ((180:Nat):Int) = -1000000/\zqb ((270:Nat):Int) = -1000000:=by decide +kernel
theorem yxp (a b:Point) (p:Nat) (hp:p<360) (h1:∀ i,i<360->ywb a b i<=ywb a b p) (h2:∀ i,i<p->ywb a b i<ywb a b p) (ha:ptIn a) (hb:ptIn b) (hab:(a.X == b.X && a.Y == b.Y)=false):zgb a b=(p:Int):=by
 obtain⟨t,e1,e2⟩:=ygc (b:=y2c a b) (fun j s=>(p<j->s=((p:Int),ywb a b p))/\(j<=p->s.2<ywb a b p\/s=((p:Int),ywb a b p))) (k:=360) (i:=0) (s:=(0,ywb a b 0)) (by
  refine⟨fun h=>absurd h (by omega),fun _ => ?_⟩;by_cases hp0:p=0
  ·right;rw[hp0];rfl
  ·left;exact h2 0 (by omega)) (by
  rintro j ⟨x,m⟩ _ hj ⟨i1,i2⟩
  have hj:j<360:=by omega
  unfold y2c;show ∃ v,(bif decide (m<ywb a b j)then Except.ok ((j:Int),ywb a b j)else Except.ok (x,m))=Except.ok v/\_;rcases Nat.lt_trichotomy j p with h|h|h
  ·have hjp:=h2 j h
   by_cases hm:m<ywb a b j
   ·rw[decide_eq_true hm,cond_true]
    exact⟨_,rfl,fun h3=>absurd h3 (by omega),fun _=>.inl hjp⟩
   ·rw[decide_eq_false hm,cond_false]
    exact⟨_,rfl,fun h3=>absurd h3 (by omega),fun _=>i2 (by omega)⟩
  ·subst h
   rcases i2 (Nat.le_refl _)with h|h
   ·rw[decide_eq_true h,cond_true]
    exact⟨_,rfl,fun _=>rfl,fun h3=>absurd h3 (by omega)⟩
   ·injection h with h3 h4
    rw[decide_eq_false (show ¬ m<ywb a b j by omega),cond_false];exact⟨_,rfl,fun _=>by rw[h3,h4],fun h3=>absurd h3 (by omega)⟩
  ·have hs:=i1 h
   injection hs with h3 h4
   have:=h1 j hj;rw[decide_eq_false (show ¬ m<ywb a b j by omega),cond_false]
   exact⟨_,rfl,fun _=>by rw[h3,h4],fun h3=>absurd h3 (by omega)⟩)
 unfold zgb;rw[y1i ha hb];simp only[Bool.not_true,Bool.false_or];rw[hab,cond_false];show(match yh (y2c a b) 360 0 (0,ywb a b 0)with|.error e=>e|.ok s1=>s1.1)=_;rw[e1];simp only;rw[e2.1 (by omega)]
theorem yeq {x v:Int} (h1 : -40000<=x) (h2:x<=40000) (h3 : -1000000<=v) (h4:v<=1000000) : -40000000000<=x * v/\x * v<=40000000000:=by
 have h:(x * v).natAbs<=40000 * 1000000:=by
  rw[Int.natAbs_mul];exact Nat.mul_le_mul (by omega) (by omega)
 omega
theorem ysu {a b:Point} {x:Int} (hx:b.X-a.X=x) (hy:b.Y=a.Y) (h1 : -40000<=x) (h2:x<=40000) {i:Nat} (hi:i<360):ywb a b i=x * zqb (i:Int):=by
 have hs:=(yni ⟨i,hi⟩).1;simp only at hs;have hp:=yeq h1 h2 hs.1 hs.2.1;unfold ywb zwc;rw[hx,hy,Int.sub_self,show IntKind.wrap .i64 0=0 by decide,Int.zero_mul,show IntKind.wrap .i64 x=x by rw[IntKind.wrap_i64];omega];generalize x * zqb (i:Int)=z at hp ⊢;rw[show IntKind.wrap .i64 z=z by rw[IntKind.wrap_i64];omega,show IntKind.wrap .i64 0=0 by decide,Int.add_zero,IntKind.wrap_i64];omega
theorem yps {a b:Point} {y:Int} (hx:b.X=a.X) (hy:b.Y-a.Y=y) (h1 : -40000<=y) (h2:y<=40000) {i:Nat} (hi:i<360):ywb a b i=y * znc (i:Int):=by
 have hs:=(yni ⟨i,hi⟩).1;simp only at hs;have hp:=yeq h1 h2 hs.2.2.1 hs.2.2.2;unfold ywb zwc;rw[hy,hx,Int.sub_self,show IntKind.wrap .i64 0=0 by decide,Int.zero_mul,show IntKind.wrap .i64 y=y by rw[IntKind.wrap_i64];omega];generalize y * znc (i:Int)=z at hp ⊢;rw[show IntKind.wrap .i64 z=z by rw[IntKind.wrap_i64];omega,show IntKind.wrap .i64 0=0 by decide,Int.zero_add,IntKind.wrap_i64];omega
def yg (a : Point) (r : Int) : Nat -> Point
 | 0=>{ X:=a.X,Y:=a.Y+r }
 | 1=>{ X:=a.X+r,Y:=a.Y }
 | 2=>{ X:=a.X,Y:=a.Y-r }
 | _=>{ X:=a.X-r,Y:=a.Y }
theorem yff (a:Point) {r:Int} (h:0<r) (i:Nat):(a.X == (yg a r i).X && a.Y == (yg a r i).Y)=false:=by
 rw[Bool.and_eq_false_iff,beq_eq_false_iff_ne,beq_eq_false_iff_ne];unfold yg;split<;>simp only<;>omega
theorem yxo (a:Point) {r:Int} (h0:0<r) (h1:r<=40000) {j:Nat} (hj:j<360):ywb a (yg a r 0) j=r * znc (j:Int):=by
 have hy:(yg a r 0).Y-a.Y=r:=by show a.Y+r-a.Y=r;omega
 have hx:(yg a r 0).X=a.X:=rfl;exact yps hx hy (by omega) h1 hj
theorem y0g (a:Point) {r:Int} (h0:0<r) (h1:r<=40000) {j:Nat} (hj:j<360):ywb a (yg a r 1) j=r * zqb (j:Int):=by
 have hx:(yg a r 1).X-a.X=r:=by show a.X+r-a.X=r;omega
 have hy:(yg a r 1).Y=a.Y:=rfl;exact ysu hx hy (by omega) h1 hj
theorem y7g (a:Point) {r:Int} (h0:0<r) (h1:r<=40000) {j:Nat} (hj:j<360):ywb a (yg a r 2) j=(-r) * znc (j:Int):=by
 have hy:(yg a r 2).Y-a.Y = -r:=by show a.Y-r-a.Y = -r;omega
 have hx:(yg a r 2).X=a.X:=rfl;exact yps hx hy (by omega) (by omega) hj
theorem yhh (a:Point) {r:Int} (h0:0<r) (h1:r<=40000) {j:Nat} (hj:j<360):ywb a (yg a r 3) j=(-r) * zqb (j:Int):=by
 have hx:(yg a r 3).X-a.X = -r:=by show a.X-r-a.X = -r;omega
 have hy:(yg a r 3).Y=a.Y:=rfl;exact ysu hx hy (by omega) (by omega) hj
theorem yrk {r u v:Int} (h0:0<r) (h:u<=v):r * u<=r * v:=Int.mul_le_mul_of_nonneg_left h (Int.le_of_lt h0)
theorem yrq {r u v:Int} (h0:0<r) (h:u<v):r * u<r * v:=Int.mul_lt_mul_of_pos_left h h0
theorem y1m {r u v:Int} (h0:0<r) (h:v<=u):(-r) * u<=(-r) * v:=by
 have:=yrk h0 h;rw[Int.neg_mul,Int.neg_mul];omega
theorem y0m {r u v:Int} (h0:0<r) (h:v<u):(-r) * u<(-r) * v:=by
 have:=yrq h0 h;rw[Int.neg_mul,Int.neg_mul];omega
theorem ywn {i:Nat} (hi:i<360):(-1000000<=zqb (i:Int)/\zqb (i:Int)<=1000000 /\ -1000000<=znc (i:Int)/\znc (i:Int)<=1000000) /\
  (i<90->zqb (i:Int)<1000000)/\(i<180 -> -1000000<znc (i:Int))/\(i<270 -> -1000000<zqb (i:Int)):=yni ⟨i,hi⟩
theorem yqv {a:Point} {r:Int} (h0:0<r) (h1:r<=40000) (ha:ptIn a) (hp:ptIn (yg a r 0)):zgb a (yg a r 0)=((0:Nat):Int):=by
 refine yxp a _ 0 (by omega) (fun j hj => ?_) (fun j hj=>absurd hj (by omega)) ha hp (yff a h0 0);rw[yxo a h0 h1 hj,yxo a h0 h1 (by omega),yud.1];exact yrk h0 (ywn hj).1.2.2.2
theorem ynw {a:Point} {r:Int} (h0:0<r) (h1:r<=40000) (ha:ptIn a) (hp:ptIn (yg a r 1)):zgb a (yg a r 1)=((90:Nat):Int):=by
 refine yxp a _ 90 (by omega) (fun j hj => ?_) (fun j hj => ?_) ha hp (yff a h0 1)
 ·rw[y0g a h0 h1 hj,y0g a h0 h1 (by omega),yud.2.1]
  exact yrk h0 (ywn hj).1.2.1
 ·rw[y0g a h0 h1 (by omega),y0g a h0 h1 (by omega),yud.2.1]
  exact yrq h0 ((ywn (by omega)).2.1 hj)
theorem yhv {a:Point} {r:Int} (h0:0<r) (h1:r<=40000) (ha:ptIn a) (hp:ptIn (yg a r 2)):zgb a (yg a r 2)=((180:Nat):Int):=by
 refine yxp a _ 180 (by omega) (fun j hj => ?_) (fun j hj => ?_) ha hp (yff a h0 2)
 ·rw[y7g a h0 h1 hj,y7g a h0 h1 (by omega),yud.2.2.1]
  exact y1m h0 (ywn hj).1.2.2.1
 ·rw[y7g a h0 h1 (by omega),y7g a h0 h1 (by omega),yud.2.2.1]
  exact y0m h0 ((ywn (by omega)).2.2.1 hj)
theorem y2w {a:Point} {r:Int} (h0:0<r) (h1:r<=40000) (ha:ptIn a) (hp:ptIn (yg a r 3)):zgb a (yg a r 3)=((270:Nat):Int):=by
 refine yxp a _ 270 (by omega) (fun j hj => ?_) (fun j hj => ?_) ha hp (yff a h0 3)
 ·rw[yhh a h0 h1 hj,yhh a h0 h1 (by omega),yud.2.2.2]
  exact y1m h0 (ywn hj).1.1
 ·rw[yhh a h0 h1 (by omega),yhh a h0 h1 (by omega),yud.2.2.2]
  exact y0m h0 ((ywn (by omega)).2.2.2 hj)
theorem yzj {d:Danger} {r:Int} (h0:0<r) (h1:r<=40000) (ha:ptIn d.At) (i:Nat) (hi:i<4) (hp:ptIn (yg d.At r i)):zkd d (yg d.At r i)=3+(i:Int):=by
 unfold zkd;have hi:i=0\/i=1\/i=2\/i=3:=by omega
 rcases hi with rfl|rfl|rfl|rfl
 ·rw[yqv h0 h1 ha hp];decide
 ·rw[ynw h0 h1 ha hp];decide
 ·rw[yhv h0 h1 ha hp];decide
 ·rw[y2w h0 h1 ha hp];decide
theorem yuz {r:Int} (h0:0<=r) (h1:r<=40000):zsd (r * r)=r:=by
 obtain⟨_,q0,q1,q2,q3⟩:=yph (n:=r * r) (Int.mul_nonneg h0 h0);generalize zsd (r * r)=q at q0 q1 q2 q3
 have a1:q<=r:=by
  refine Int.not_lt.1 fun h => ?_
  have:=Int.mul_le_mul (show r+1<=q by omega) (show r+1<=q by omega) (by omega) (by omega);have h9:(r+1) * (r+1)=r * r+r+r+1:=by rw[Int.add_mul,Int.mul_add];omega
  omega
 have a2:r<=q:=by
  refine Int.not_lt.1 fun h => ?_
  rcases q3 with h3|h3
  ·omega
  ·have:=Int.mul_le_mul (show q+1<=r by omega) (show q+1<=r by omega) (by omega) h0
   omega
 omega
theorem yor {a:Point} {r:Int} (h0:0<r) (h1:r<=40000) (ha:ptIn a) (i:Nat) (hp:ptIn (yg a r i)):zle a (yg a r i)=r:=by
 rw[yms ha hp];unfold zag;rw[(yat ha hp).1]
 have e:(a.X-(yg a r i).X) * (a.X-(yg a r i).X)+(a.Y-(yg a r i).Y) * (a.Y-(yg a r i).Y)=r * r:=by
  unfold yg;split<;>simp only
  ·rw[Int.sub_self,show a.Y-(a.Y+r) = -r by omega,Int.neg_mul_neg];omega
  ·rw[Int.sub_self,show a.X-(a.X+r) = -r by omega,Int.neg_mul_neg];omega
  ·rw[Int.sub_self,show a.Y-(a.Y-r)=r by omega];omega
  ·rw[Int.sub_self,show a.X-(a.X-r)=r by omega];omega
 rw[e];exact yuz (by omega) h1
def InR (s:List Int):Prop:=∀ v∈s,0<=v/\v<=100
theorem InR.app {s t:List Int} (h1:InR s) (h2:InR t):InR (s++t):=fun v hv=>(List.mem_append.1 hv).elim (h1 v) (h2 v)
theorem InR.one {x:Int} (h1:0<=x) (h2:x<=100):InR [x]:=fun v hv=>by rw[List.mem_singleton]at hv;subst hv;exact⟨h1,h2⟩
theorem InR.nil:InR []:=fun v hv=>by simp at hv
theorem yus {a:List Sector} (h:zab a=true):a.length<=12/\∀ i,i<a.length->zyb (a.getD i default)=true:=by
 unfold zab at h
 cases h12:decide (12<(a.length:Int))with
 | true=>rw[h12]at h;cases h
 | false=>
  rw[h12]at h;have h12:=of_decide_eq_false h12;refine⟨by omega,fun i hi => ?_⟩;rcases yhc (b:=ysh a) (secQ a) (fun _ u=>u) false (k:=a.length-0) (i:=0) (s:=()) (fun j u _ _=>by cases u;rfl)with⟨_,e1⟩|⟨hq,_⟩
  ·rw[e1]at h;cases h
  ·exact((y0k a i (by omega)).1 (hq i (Nat.zero_le _) (by omega))).1
theorem ywz {c:List UInt8} (h:znd c=true):c=[87]\/c=[82]\/c=[71]\/c=[89]:=by
 unfold znd at h;simp only[Bool.or_eq_true,beq_iff_eq]at h;rcases h with((h|h)|h)|h
 ·exact .inl h
 ·exact .inr (.inl h)
 ·exact .inr (.inr (.inl h))
 ·exact .inr (.inr (.inr h))
theorem ydt {a:List Sector} (h:zab a=true):a.length<=12/\∀ i,0<=(a.getD i default).From/\(a.getD i default).From<=359/\0<=(a.getD i default).To/\(a.getD i default).To<=359/\(a.getD i default).Color.length<=1:=by
 obtain⟨h1,h2⟩:=yus h;refine⟨h1,fun i => ?_⟩;by_cases hi:i<a.length
 ·have h3:=h2 i hi
  have hb:=yvn h3;unfold zyb at h3;rw[Bool.and_eq_true]at h3;refine⟨hb.1.1,hb.1.2,hb.2.1,hb.2.2,?_⟩;rcases ywz h3.2 with h|h|h|h<;>rw[h]<;>decide
 ·rw[List.getD_eq_getElem?_getD,List.getElem?_eq_none (by omega)]
  decide
theorem yxr {m:Mark} (h:ztc m=true):(m.Kind=0/\m.Colors=[]/\m.Shape=[]/\m.Topmark=[]) \/
  (zhb m.Kind=true/\m.Colors=zad m.Kind/\(m.Topmark=[]\/m.Topmark=zbd m.Kind)/\m.Shape∈zy m.Kind):=by
 rw[show ztc m=zcd m from rfl]at h;unfold zcd at h;by_cases hk:m.Kind=0
 ·left
  rw[show(m.Kind == 0)=true by simp[hk]]at h;simp only[cond_true,Bool.and_eq_true,beq_iff_eq]at h;exact⟨hk,h.2.1,h.2.2.1,h.2.2.2⟩
 ·right
  rw[show(m.Kind == 0)=false by simp[hk],cond_false]at h
  cases hc:(((!(zhb m.Kind)) || (m.Colors != (zad m.Kind))) || ((m.Topmark != []) && (m.Topmark != (zbd m.Kind))))with
  | true=>rw[hc]at h;cases h
  | false=>
   rw[hc,cond_false]at h;have h:=(yij m).symm.trans h;rw[List.any_eq_true]at h;simp only[Bool.or_eq_false_iff,Bool.not_eq_false',Bool.and_eq_false_iff,bne_eq_false_iff_eq]at hc;obtain⟨y,hy,he⟩:=h;exact⟨hc.1.1,hc.1.2,hc.2,by rw[<- eq_of_beq he];exact hy⟩
theorem ydx {m:Mark} (h:ztc m=true):0<=m.Kind/\m.Kind<=9/\m.Colors.length<=3/\m.Shape.length<=6/\m.Topmark.length<=5:=by
 rcases yxr h with⟨h1,h2,h3,h4⟩|⟨h1,h2,h3,h4⟩
 ·rw[h1,h2,h3,h4];simp
 ·have hk:=h1
  unfold zhb zf at hk;simp only[Bool.and_eq_true,decide_eq_true_eq]at hk;refine⟨by omega,by omega,?_,?_,?_⟩
  ·rw[h2];rcases ydg h1 with e|e|e|e|e|e|e|e|e<;>rw[e]<;>decide
  ·have hs:∀ y∈zy m.Kind,y.length<=6:=by rcases ydg h1 with e|e|e|e|e|e|e|e|e<;>rw[e]<;>decide
   exact hs _ h4
  ·rcases h3 with e|e
   ·rw[e];decide
   ·rw[e];rcases ydg h1 with e|e|e|e|e|e|e|e|e<;>rw[e]<;>decide
theorem y7z:zab []=true:=by decide
theorem ycz {a:Aid} (h:zib a=true):1<=a.Number/\a.Number<=9999/\zob a.Name=true/\zeb a.At=true/\0<=a.Height/\a.Height<=3000/\ztc a.Mark=true /\
  (zdg a=true->zic a.Light=true)/\zab a.Sectors=true/\0<=a.Intensity/\a.Intensity<=100000000:=by
 unfold zib at h
 cases hc:(((((!(zf a.Number 1 9999)) || (!(zob a.Name))) || (!(zeb a.At))) || (!(zf a.Height 0 3000))) || (!(ztc a.Mark)))with
 | true=>rw[hc]at h;cases h
 | false=>
  rw[hc,cond_false]at h;simp only[Bool.or_eq_false_iff,Bool.not_eq_false']at hc;obtain⟨⟨⟨⟨c1,c2⟩,c3⟩,c4⟩,c5⟩:=hc;simp only[zf,Bool.and_eq_true,decide_eq_true_eq]at c1 c4
  have fin:(zdg a=true->zic a.Light=true)/\zab a.Sectors=true/\0<=a.Intensity/\a.Intensity<=100000000:=by
   cases hp:zdd a.Light with
   | true=>
    rw[hp,cond_true,Bool.and_eq_true,beq_iff_eq,beq_iff_eq]at h;have hs:a.Sectors=[]:=List.length_eq_zero_iff.1 (by omega);refine⟨fun hl => ?_,by rw[hs];exact y7z,by omega,by omega⟩;unfold zdd at hp;simp only[Bool.and_eq_true,beq_iff_eq]at hp;unfold zdg at hl;rw[bne_iff_ne]at hl;exact absurd hp.1.1.1.1 hl
   | false=>
    rw[hp,cond_false]at h
    cases hd:(((!(zic a.Light)) || (!(zf a.Intensity 1 100000000))) || (!(zab a.Sectors)))with
    | true=>rw[hd]at h;cases h
    | false=>
     simp only[Bool.or_eq_false_iff,Bool.not_eq_false',zf,Bool.and_eq_true,decide_eq_true_eq]at hd;exact⟨fun _=>hd.1.1,hd.2,by omega,by omega⟩
  exact⟨c1.1,c1.2,c2,c3,c4.1,c4.2,c5,fin⟩
theorem yvw {s:List UInt8} (h:zob s=true):s.length<=10:=((ybi s).1 h).2.1
theorem yme {n:Int} {s:l00Src} {l:List (List UInt8)} (h:SrcOk n s) (hn:n<=2000000000) (hl:1<=l.length):(zn s l).1∈l:=by
 have hr:=yd (l.length:Int) h hn;have h2:=hr.2 (by omega);unfold zn;simp only;have hi:((za s (l.length:Int)).1).toNat<l.length:=by omega
 rw[List.getD_eq_getElem?_getD,List.getElem?_eq_getElem hi];exact List.getElem_mem hi
theorem ysz {n:Int} {s:l00Src} (h:SrcOk n s) (hn:n<=2000000000):(zd s).1.length<=3:=by
 unfold zd;have:=yme (l:=([[87],[87],[82],[71],[89],[87,82],[82,71],[87,82,71],[87,71]]:List (List UInt8))) h hn (by decide);simp only;generalize (zn s ([[87],[87],[82],[71],[89],[87,82],[82,71],[87,82,71],[87,71]]:List (List UInt8))).1=x at this;have hs:∀ y∈([[87],[87],[82],[71],[89],[87,82],[82,71],[87,82,71],[87,71]]:List (List UInt8)),y.length<=3:=by decide
 exact hs x this
theorem yx0 {n:Int} {s:l00Src} {l:List Int} (h:SrcOk n s) (hn:n<=2000000000) (hl:1<=l.length):(zb s l).1∈l:=by
 have hr:=yd (l.length:Int) h hn;have h2:=hr.2 (by omega);unfold zb;simp only;have hi:((za s (l.length:Int)).1).toNat<l.length:=by omega
 rw[List.getD_eq_getElem?_getD,List.getElem?_eq_getElem hi];exact List.getElem_mem hi
theorem am9 {n:Int} {s:l00Src} (h:SrcOk n s) (hn:n<=2000000000):0<=(zb s ([0,0,3,6,9]:List Int)).1/\(zb s ([0,0,3,6,9]:List Int)).1<=9:=by
 have:=yx0 (l:=([0,0,3,6,9]:List Int)) h hn (by decide);simp only[List.mem_cons,List.not_mem_nil,or_false]at this;omega
theorem let9 {n:Int} {s:l00Src} (h:SrcOk n s) (hn:n<=2000000000):65<=(UInt8.ofNat (IntKind.wrap .u8 (IntKind.wrap .i64 (65+(za s 26).1))).toNat).toNat/\(UInt8.ofNat (IntKind.wrap .u8 (IntKind.wrap .i64 (65+(za s 26).1))).toNat).toNat<=90:=by
 have hr:=yd 26 h hn;have hr2:=hr.2 (by omega);have hall:((List.range 26).all fun m=>decide (65<=(UInt8.ofNat (IntKind.wrap .u8 (IntKind.wrap .i64 (65+(m:Int)))).toNat).toNat/\(UInt8.ofNat (IntKind.wrap .u8 (IntKind.wrap .i64 (65+(m:Int)))).toNat).toNat<=90))=true:=by decide +kernel
 have:=of_decide_eq_true (List.all_eq_true.1 hall ((za s 26).1).toNat (List.mem_range.2 (by omega)));rwa [show(((za s 26).1).toNat:Int)=(za s 26).1 by omega]at this
theorem ymo {l:List Int} {x:Int} (h:∀ v∈l,v<=9) (hx:x<=9):∀ v∈l++[x],v<=9:=fun v hv=>by
 rcases List.mem_append.1 hv with h1|h1
 ·exact h v h1
 ·rw[List.mem_singleton]at h1;subst h1;exact hx
end Go.Ab
