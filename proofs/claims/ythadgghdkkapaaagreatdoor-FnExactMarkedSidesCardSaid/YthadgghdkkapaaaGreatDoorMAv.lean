/- A part of a proof: walks of functions and lemmas of our own. No conditions. -/
import Derived.Test.YthadgghdkkapaaaGreatDoorMAi
import Derived.Test.YthadgghdkkapaaaGreatDoorMAq
import Derived.Test.YthadgghdkkapaaaGreatDoorMAt
import Derived.Test.YthadgghdkkapaaaGreatDoorMAo
import Derived.Test.YthadgghdkkapaaaGreatDoorMAl
import Derived.Test.YthadgghdkkapaaaGreatDoorMAr
import Derived.Test.YthadgghdkkapaaaGreatDoorMAu
set_option linter.unusedSectionVars false
set_option linter.unusedVariables false
set_option linter.unusedSimpArgs false
set_option maxHeartbeats 1000000
namespace Go.Ab
open Go Go.Proofs
def ptIn (p:Point):Prop:=0<=p.X/\p.X<=200000/\0<=p.Y/\p.Y<=200000
theorem yys {p:Point} (h:zlb p=true):ptIn p:=by
 simp[zlb,zb]at h;unfold ptIn;omega
theorem yfs {p:Point} (h:ptIn p):zlb p=true:=by
 unfold ptIn at h;simp[zlb,zb];omega
theorem yfl {n:Int} (h0:0<=n):zrc n=zn n/\0<=zn n/\zn n<=3037000499/\zn n * zn n<=n/\(zn n=3037000499\/n<(zn n+1) * (zn n+1)):=by
 have e:zrc n=zn n:=by
  unfold zrc zn;rw[decide_eq_false (by omega),cond_false];rfl
 obtain ⟨x, hx, s, rfl, hI, hd⟩ := yzk (b := ycq n) (fun s => 0 <= s.1 /\ s.1 <= s.2 /\ s.2 <= 3037000499 /\ s.1 * s.1 <= n /\ (s.2 = 3037000499 \/ n < (s.2 + 1) * (s.2 + 1)))
  (fun r=>∃ s,r=.inr s/\(0<=s.1/\s.1<=s.2/\s.2<=3037000499/\s.1 * s.1<=n/\(s.2=3037000499\/n<(s.2+1) * (s.2+1)))/\¬ s.1<s.2) (fun s=>(s.2-s.1).toNat) (by
  rintro⟨a,b⟩ ⟨h1,h2,h3,h4,h5⟩
  simp only at h1 h2 h3 h4 h5;simp only[ycq];by_cases hl:a<b
  ·left
   rw[decide_eq_true hl,cond_true];obtain⟨m1,m2,m3⟩:=ywd h1 hl h3;generalize IntKind.wrap .i64 ((IntKind.wrap .i64 ((IntKind.wrap .i64 (a+b))+1)).tdiv 2)=m at m1 m2 m3 ⊢;have hmm:0<=m * m/\m * m<=9223372030926249001:=⟨Int.mul_nonneg (by omega) (by omega),by have:=Int.mul_le_mul (show m<=3037000499 by omega) (show m<=3037000499 by omega) (by omega) (by omega);omega⟩
   rw[show IntKind.wrap .i64 (m * m)=m * m by rw[IntKind.wrap_i64];omega];by_cases hq:m * m<=n
   ·rw[decide_eq_true hq,cond_true]
    exact⟨_,rfl,⟨by simp only;omega,by simp only;omega,h3,hq,h5⟩,by simp only;omega⟩
   ·rw[decide_eq_false hq,cond_false,m3]
    exact⟨_,rfl,⟨h1,by simp only;omega,by simp only;omega,h4,Or.inr (by simp only[Int.sub_add_cancel];omega)⟩,by simp only;omega⟩
  ·right
   rw[decide_eq_false hl,cond_false]
   exact⟨_,rfl,_,rfl,⟨h1,h2,h3,h4,h5⟩,hl⟩) (((3037000499:Int)-(0:Int)).toNat+1) (0,3037000499) ⟨by decide,by decide,by decide,by simpa using h0,Or.inl rfl⟩ (Nat.lt_succ_self _)
 have er:zn n=s.1:=by unfold zn;rw[hx]
 rw[er];obtain⟨h1,h2,h3,h4,h5⟩:=hI;have e2:s.2=s.1:=by omega
 rw[e2]at h5 h3;exact⟨e.trans er,h1,h3,h4,h5⟩
theorem ywx {a b:Point} (ha:ptIn a) (hb:ptIn b):zkd a b=(a.X-b.X) * (a.X-b.X)+(a.Y-b.Y) * (a.Y-b.Y)/\0<=zkd a b:=by
 unfold ptIn at ha hb;have e1:IntKind.wrap .i64 (a.X-b.X)=a.X-b.X:=by rw[IntKind.wrap_i64];omega
 have e2:IntKind.wrap .i64 (a.Y-b.Y)=a.Y-b.Y:=by rw[IntKind.wrap_i64];omega
 have q:∀ x:Int,-200000<=x->x<=200000->0<=x * x/\x * x<=40000000000:=fun x h1 h2=>by
  have e:x * x=(x.natAbs:Int) * (x.natAbs:Int):=by
   rcases Int.natAbs_eq x with h|h
   ·rw[<- h]
   ·have h9:x * x=(-x) * (-x):=by rw[Int.neg_mul_neg]
    rw[h9,show -x=(x.natAbs:Int)by omega]
  rw[e];exact⟨Int.mul_nonneg (by omega) (by omega),by have:=Int.mul_le_mul (show(x.natAbs:Int)<=200000 by omega) (show(x.natAbs:Int)<=200000 by omega) (by omega) (by omega);omega⟩
 have q1:=q (a.X-b.X) (by omega) (by omega);have q2:=q (a.Y-b.Y) (by omega) (by omega)
 have e:zkd a b=(a.X-b.X) * (a.X-b.X)+(a.Y-b.Y) * (a.Y-b.Y):=by
  unfold zkd;rw[e1,e2];generalize (a.X-b.X) * (a.X-b.X)=u at q1 ⊢;generalize (a.Y-b.Y) * (a.Y-b.Y)=v at q2 ⊢;have w1:IntKind.wrap .i64 u=u:=by rw[IntKind.wrap_i64];omega
  have w2:IntKind.wrap .i64 v=v:=by rw[IntKind.wrap_i64];omega
  rw[w1,w2,IntKind.wrap_i64];omega
 exact⟨e,by rw[e];omega⟩
theorem ytl {a b:Point} (ha:ptIn a) (hb:ptIn b):zbb [a,b]=true:=by
 have h1:zyb a=true:=yfs ha;have h2:zyb b=true:=yfs hb;have e0:yjg [a,b] 0 ()=.ok ():=by unfold yjg;simp[h1]
 have e1:yjg [a,b] 1 ()=.ok ():=by unfold yjg;simp[h2]
 unfold zbb;simp only[List.length_cons,List.length_nil,Nat.zero_add,Nat.reduceAdd,Nat.sub_zero,yf,e0,e1]
theorem yay {a b:Point} (ha:ptIn a) (hb:ptIn b):zne a b=ztd a b:=by
 unfold zne ztd;rw[ytl ha hb];exact(yfl (ywx ha hb).2).1
theorem y7m (i:Nat):0<=zi.getD i 0/\zi.getD i 0<=1000000:=by
 by_cases h:i<91
 ·have:∀ i:Fin 91,0<=zi.getD i.val 0/\zi.getD i.val 0<=1000000:=by decide +kernel
  exact this ⟨i,h⟩
 ·have:zi.getD i 0=0:=by
   rw[List.getD_eq_getElem?_getD,List.getElem?_eq_none (show zi.length<=i from by show 91<=i;omega)];rfl
  rw[this];decide
theorem yqd (a:Int):zid a=zi.getD a.toNat 0:=rfl
theorem yug (a:Int):zu a=zac a:=rfl
theorem y8r (d:Int):ztc zi d=zjd d:=by
 have hA:=ypk d;show ztc zi d=yyp d;unfold ztc yyp;rw[yug];generalize hx:zac d=x at hA;by_cases h:180<=x
 ·rw[decide_eq_true h,cond_true,cond_true]
  have e1:IntKind.wrap .i64 (x-180)=x-180:=by rw[IntKind.wrap_i64];omega
  rw[e1];unfold yqi;rw[yxh (show 0<=x-180 by omega) (by omega)];by_cases h2:90<x-180
  ·rw[decide_eq_true h2,cond_true,cond_true,yqd]
   have:=y7m (IntKind.wrap .i64 (180-(x-180))).toNat;show IntKind.wrap .i64 (-1 * zi.getD _ 0)=_;generalize zi.getD (IntKind.wrap .i64 (180-(x-180))).toNat 0=v at this ⊢;rw[show(-1:Int) * v=0-v by omega]
  ·rw[decide_eq_false h2,cond_false,cond_false,yqd]
   show IntKind.wrap .i64 (-1 * zi.getD _ 0)=_;generalize zi.getD (x-180).toNat 0=v;rw[show(-1:Int) * v=0-v by omega]
 ·rw[decide_eq_false h,cond_false,cond_false]
  unfold yqi;rw[yug,hx];by_cases h2:90<x
  ·rw[decide_eq_true h2,cond_true,cond_true,yqd]
   have:=y7m (IntKind.wrap .i64 (180-x)).toNat;show IntKind.wrap .i64 (1 * zi.getD _ 0)=_;generalize zi.getD (IntKind.wrap .i64 (180-x)).toNat 0=v at this ⊢;rw[IntKind.wrap_i64];omega
  ·rw[decide_eq_false h2,cond_false,cond_false,yqd]
   have:=y7m x.toNat;show IntKind.wrap .i64 (1 * zi.getD _ 0)=_;generalize zi.getD x.toNat 0=v at this ⊢;rw[IntKind.wrap_i64];omega
def ykf (a b:Point) (i:Nat):Int:=zkc (i:Int) b a
theorem yro (a b:Point) {i:Nat} (hi:i<360):IntKind.wrap .i64 ((IntKind.wrap .i64 ((IntKind.wrap .i64 (b.X-a.X)) * (ztc zi (i:Int))))+(IntKind.wrap .i64 ((IntKind.wrap .i64 (b.Y-a.Y)) * (ztc zi (IntKind.wrap .i64 ((i:Int)+90))))))=ykf a b i:=by
 rw[y8r,y8r];unfold ykf zkc zdf;rw[yxh (a:=(i:Int)) (by omega) (by omega)]
theorem ylh {ρ σ : Type} {b c : Nat -> σ -> Except ρ σ} : ∀ (k i : Nat) (s : σ), (∀ j u, i <= j -> j < i + k -> b j u = c j u) -> yf b k i s = yf c k i s
 | 0,i,s,_=>rfl
 | k+1,i,s,h=>by
  simp only[yf];rw[h i s (Nat.le_refl _) (by omega)]
  cases c i s with
  | error e=>rfl
  | ok t=>exact ylh k (i+1) t fun j u h1 h2=>h j u (by omega) (by omega)
theorem y8i {ρ σ:Type} {b:Nat->σ->Except ρ σ} {i:Nat} {s t:σ} (k:Nat) (h:b i s=.ok t):yf b (k+1) i s=yf b k (i+1) t:=by
 simp only[yf,h]
set_option maxRecDepth 20000 in
theorem ypq {a b:Point} (ha:ptIn a) (hb:ptIn b):zcb a b=zhb a b:=by
 have s0:yef a b 0 (0,0)=.ok (0,ykf a b 0):=by
  unfold yef;rw[yro a b (by omega)];rfl
 have st:∀ j u,1<=j->j<1+359->yef a b j u=yxd a b j u:=fun j u h1 h2=>by
  unfold yef yxd;rw[yro a b (by omega),show((j:Int) == 0)=false by rw[beq_eq_false_iff_ne];omega,Bool.false_or];rfl
 have hs:zhb a b=match yf (yxd a b) 359 1 (0,ykf a b 0)with|.error e=>e|.ok s1=>s1.1:=by
  unfold zhb;show(match yf (yef a b) (359+1) 0 (0,0)with|.error e=>e|.ok s1=>s1.1)=_;rw[y8i 359 s0,ylh 359 1 _ st]
 have i0:yxd a b 0 (0,ykf a b 0)=.ok (0,ykf a b 0):=by
  unfold yxd;rw[show decide ((0,ykf a b 0).2<zkc ((0:Nat):Int) b a)=false from decide_eq_false (by show ¬ ykf a b 0<ykf a b 0;omega)];rfl
 unfold zcb;rw[ytl ha hb];simp only[Bool.not_true,Bool.false_or]
 cases hab:(a.X == b.X && a.Y == b.Y)with
 | false=>
  rw[cond_false,hs];show(match yf (yxd a b) (359+1) 0 (0,ykf a b 0)with|.error e=>e|.ok s1=>s1.1)=_;rw[y8i 359 i0]
 | true=>
  rw[cond_true,hs];rw[Bool.and_eq_true,beq_iff_eq,beq_iff_eq]at hab
  have z:∀ i:Nat,ykf a b i=0:=fun i=>by
   unfold ykf zkc;rw[hab.1,hab.2,Int.sub_self,Int.sub_self,show IntKind.wrap .i64 0=0 by decide,Int.zero_mul,Int.zero_mul];decide
  obtain⟨t,h1,h2⟩:=ybb (b:=yxd a b) (fun _ s=>s=(0,0)) (k:=359) (i:=1) (s:=(0,ykf a b 0)) (by rw[z]) (by
   rintro j _ _ _ rfl
   refine⟨(0,0),?_,rfl⟩;unfold yxd;rw[show decide ((0,(0:Int)).2<zkc (j:Int) b a)=false from decide_eq_false (by show ¬ (0:Int)<ykf a b j;rw[z];omega)]
   rfl)
  rw[h1,h2]
theorem ycy {d:Danger} {p:Point} (hd:ptIn d.At) (hp:ptIn p):zoe d p=zve d p:=by
 unfold zoe zve;rw[ypq hd hp];generalize zhb d.At p=x;have e:zdd x=zb x 0 359:=rfl;unfold zde zje zkf;rw[e]
 cases zb x 0 359 with
 | false=>rfl
 | true=>
  simp only[Bool.not_true,cond_false]
  cases(decide (315<=x) || decide (x<45))with
  | true=>rfl
  | false=>
   cases decide (x<135)with
   | true=>rfl
   | false=>cases decide (x<225)<;>rfl
set_option maxRecDepth 20000 in
theorem ylw {d:Danger} {a:Aid} {w:Int} (hd:ptIn d.At) (ha:ptIn a.At) (hr:1<=d.Radius):zpe d a w=zfd d a w:=by
 unfold zpe zfd;rw[yay hd ha,ycy hd ha];have e:∀ x y z,za x y z=zb x y z:=fun _ _ _=>rfl
 rw[e,e]
 cases zb a.Mark.Kind 3 6 with
 | false=>rfl
 | true=>
  simp only[Bool.true_and,Bool.not_true,Bool.false_or]
  cases h:(a.At.X == d.At.X && a.At.Y == d.At.Y)with
  | true=>
   rw[cond_true];rw[Bool.and_eq_true,beq_iff_eq,beq_iff_eq]at h;have h0:zkd d.At a.At=0:=by rw[(ywx hd ha).1,h.1,h.2,Int.sub_self,Int.sub_self];rfl
   have h1:ztd d.At a.At=0:=by
    unfold ztd;rw[h0];obtain⟨_,r0,_,r1,_⟩:=yfl (n:=0) (by decide);generalize zn 0=r at r0 r1;rcases Int.lt_or_eq_of_le r0 with h|h
    ·have:=Int.mul_pos h h;omega
    ·exact h.symm
   rw[h1];unfold zb;rw[decide_eq_false (show ¬ d.Radius<=0 by omega)];rfl
  | false=>
   rw[cond_false,Bool.beq_comm (a:=a.Mark.Kind)]
theorem ysl {b:Nat->Unit->Except Bool Unit} {n:Nat} {p:Nat->Bool} {x:Bool} (hb:∀ j u,j<n->b j u=bif p j then .error false else .ok ()) :
  ((match yf b (n-0) 0 ()with|.error e=>e|.ok _=>x)=true)↔(∀ j,j<n->p j=false)/\x=true:=by
 rw[y7b (b:=b) p false (fun j u _ h=>hb j u (by omega))];simp only[Nat.sub_zero,Nat.zero_add]
 cases h:(List.range n).any (fun j=>p j)with
 | true=>
  simp only[cond_true];obtain⟨j,h1,h2⟩:=List.any_eq_true.1 h;constructor
  ·intro h;cases h
  ·rintro⟨h3,_⟩;rw[h3 j (List.mem_range.1 h1)]at h2;cases h2
 | false=>
  simp only[cond_false];rw[List.any_eq_false]at h;exact⟨fun hx=>⟨fun j hj=>by simpa using h j (List.mem_range.2 hj),hx⟩,fun hx=>hx.2⟩
theorem y3p (a:List UInt8):znb a=true↔a≠[]/\a.length<=10/\∀ j,j<a.length->((97<=(a.getD j 0).toNat/\(a.getD j 0).toNat<=122)\/(j≠0/\48<=(a.getD j 0).toNat/\(a.getD j 0).toNat<=57)):=by
 unfold znb;refine(ysl (n:=a.length) (p:=fun j=>_) (fun j u _=>by rfl)).trans ?_;simp only[zw,zef,Bool.and_eq_true,bne_iff_ne,decide_eq_true_eq];constructor
 ·rintro⟨h1,h2,h3⟩
  refine⟨h2,by omega,fun j hj => ?_⟩;have:=h1 j hj;simp[-List.getD_eq_getElem?_getD]at this
  omega
 ·rintro⟨h2,h3,h1⟩
  refine⟨fun j hj => ?_,h2,by omega⟩;have:=h1 j hj;simp[-List.getD_eq_getElem?_getD]
  omega
theorem yqn (a:List UInt8):zib a=true↔a≠[]/\a.length<=10/\∀ j,j<a.length->((97<=(a.getD j 0).toNat/\(a.getD j 0).toNat<=122)\/(j≠0/\48<=(a.getD j 0).toNat/\(a.getD j 0).toNat<=57)):=by
 unfold zib;by_cases hn:a=[]
 ·subst hn;simp
 by_cases h10:10<a.length
 ·have:((a == []) || decide (10<(a.length:Int)))=true:=by simp;right;omega
  rw[this];simp;omega
 have hp:0<a.length:=by cases a<;>simp_all
 have:((a == []) || decide (10<(a.length:Int)))=false:=by simp;exact⟨hn,by omega⟩
 rw[this];by_cases hs:zzc ((a.getD 0 0).toNat:Int)=true
 ·rw[hs]
  refine(ysl (n:=a.length) (p:=fun j=>_) (fun j u _=>by rfl)).trans ?_;simp only[zzc,Bool.and_eq_true,decide_eq_true_eq]at hs;constructor
  ·rintro⟨h1,_⟩
   refine⟨hn,by omega,fun j hj => ?_⟩;have:=h1 j hj;simp[zzc,zwe,-List.getD_eq_getElem?_getD]at this
   by_cases hj0:j=0
   ·subst hj0;omega
   ·omega
  ·rintro⟨_,_,h1⟩
   refine⟨fun j hj => ?_,rfl⟩;have:=h1 j hj;simp[zzc,zwe,-List.getD_eq_getElem?_getD]
   omega
 ·have hs':zzc ((a.getD 0 0).toNat:Int)=false:=by simpa using hs
  rw[hs'];simp only[Bool.not_false,Bool.or_true,cond_true];constructor
  ·intro h;cases h
  ·rintro⟨_,_,h1⟩
   have:=h1 0 hp;exfalso;apply hs;simp[zzc,-List.getD_eq_getElem?_getD]
   simp[-List.getD_eq_getElem?_getD]at this
   omega
theorem y4r (a:List UInt8):znb a=zib a:=Bool.eq_iff_iff.2 ((y3p a).trans (yqn a).symm)
theorem yol {ρ σ τ:Type} {b1:Nat->σ->Except ρ σ} {b2:Nat->τ->Except ρ τ} (R:Nat->σ->τ->Prop):∀ {k i:Nat} {s:σ} {t:τ},R i s t ->
  (∀ j u v,i<=j->j<i+k->R j u v->(∃ r,b1 j u=.error r/\b2 j v=.error r)\/∃ u' v',b1 j u=.ok u'/\b2 j v=.ok v'/\R (j+1) u' v') ->
  (∃ r,yf b1 k i s=.error r/\yf b2 k i t=.error r)\/∃ u v,yf b1 k i s=.ok u/\yf b2 k i t=.ok v/\R (i+k) u v
 | 0,i,s,t,h,_=>.inr ⟨s,t,rfl,rfl,h⟩
 | k+1,i,s,t,h,hb=>by
  simp only[yf];rcases hb i s t (Nat.le_refl _) (by omega) h with⟨r,h1,h2⟩|⟨u,v,h1,h2,h3⟩
  ·rw[h1,h2];exact .inl ⟨r,rfl,rfl⟩
  ·rw[h1,h2]
   have:=yol R (k:=k) (i:=i+1) h3 (fun j u v q1 q2 q3=>hb j u v (by omega) (by omega) q3);rwa [show i+1+k=i+(k+1)by omega]at this
theorem ywf {α σ ρ : Type} (p : α -> Bool) (f : σ -> α -> σ) (r : ρ) : ∀ (l : List α) (s : σ), yci (fun x s => (bif !(p x) then .error r else .ok (f s x) : Except ρ σ)) l s = bif l.all p then .ok (l.foldl f s) else .error r
 | [],s=>by simp[yci]
 | x::l,s=>by
  rw[yme]
  cases hx:p x with
  | false=>simp[hx]
  | true=>
   simp only[Bool.not_true,cond_false,List.all_cons,hx,Bool.true_and,List.foldl_cons];exact ywf p f r l (f s x)
def yrq (g:List Int):Prop:=g.length<=4/\(∀ v∈g,1<=v/\v<=9)/\g.sum<=12/\g≠[1]
theorem ybe (g:List Int):g.all (fun v=>za v 1 9)=true↔∀ v∈g,1<=v/\v<=9:=by
 rw[List.all_eq_true];exact⟨fun h v hv=>by simpa [za]using h v hv,fun h v hv=>by simpa [za]using h v hv⟩
theorem wsum (g:List Int) (h:g.length<=4) (hv:∀ v∈g,1<=v/\v<=9):g.foldl (fun s x=>IntKind.wrap .i64 (s+x)) 0=g.sum:=by
 have hw:∀ n:Int,-1000<=n->n<=1000->IntKind.wrap .i64 n=n:=fun n _ _=>by rw[IntKind.wrap_i64];omega
 match g,h,hv with
 | [],_,_=>rfl
 | [a],_,hv=>
  have:=hv a (by simp);simp only[List.foldl_cons,List.foldl_nil,List.sum_cons,List.sum_nil];rw[hw _ (by omega) (by omega)];omega
 | [a,b],_,hv=>
  have:=hv a (by simp);have:=hv b (by simp);simp only[List.foldl_cons,List.foldl_nil,List.sum_cons,List.sum_nil];rw[hw (0+a) (by omega) (by omega),hw _ (by omega) (by omega)];omega
 | [a,b,c],_,hv=>
  have:=hv a (by simp);have:=hv b (by simp);have:=hv c (by simp);simp only[List.foldl_cons,List.foldl_nil,List.sum_cons,List.sum_nil];rw[hw (0+a) (by omega) (by omega),hw (0+a+b) (by omega) (by omega),hw _ (by omega) (by omega)];omega
 | [a,b,c,d],_,hv=>
  have:=hv a (by simp);have:=hv b (by simp);have:=hv c (by simp);have:=hv d (by simp);simp only[List.foldl_cons,List.foldl_nil,List.sum_cons,List.sum_nil];rw[hw (0+a) (by omega) (by omega),hw (0+a+b) (by omega) (by omega),hw (0+a+b+c) (by omega) (by omega),hw _ (by omega) (by omega)];omega
theorem yxz (x y:Int):(x != y) = !decide (x=y):=by by_cases h:x=y<;>simp[h]
theorem yaf (a b:List Int):zab a b=decide (a=b):=by
 unfold zab;by_cases hl:a.length=b.length
 ·have h1:((a.length:Int) != (b.length:Int))=false:=by rw[hl];simp
  rw[h1];simp only[cond_false]
  rw[y7b (b:=ypj a b) (fun j => !decide (a.getD j default=b.getD j default)) false (fun j u _ _=>by
   simp only[ypj,yxz])]
  simp only[Nat.sub_zero,Nat.zero_add];rw[ybl a b hl];by_cases h:a=b<;>simp[h]
 ·have h1:((a.length:Int) != (b.length:Int))=true:=by simp;omega
  rw[h1];have:¬ a=b:=fun h=>hl (by rw[h])
  simp[this]
theorem y2h (g:List Int):zzb g=true↔yrq g:=by
 unfold zzb;rw[yuc (b:=yjl g) (fun(x:Int) (s:Int)=>(bif !(za x 1 9)then .error false else .ok (IntKind.wrap .i64 (s+x)):Except Bool Int)) g 0 (fun j u _=>rfl),ywf (fun x=>za x 1 9) (fun s x=>IntKind.wrap .i64 (s+x)) false];unfold yrq
 cases ha:g.all (fun x=>za x 1 9)with
 | false=>
  simp only[cond_false];constructor
  ·intro h;cases h
  ·rintro⟨_,h,_⟩
   rw[(ybe g).2 h]at ha;cases ha
 | true=>
  have hv:=(ybe g).1 ha;simp only[cond_true,yaf,zw,Bool.and_eq_true,decide_eq_true_eq,Bool.not_eq_true',decide_eq_false_iff_not];constructor
  ·rintro⟨⟨h1,h2⟩,h3⟩
   rw[wsum g (by omega) hv]at h2;exact⟨by omega,hv,h2,h3⟩
  ·rintro⟨h1,_,h2,h3⟩
   rw[wsum g h1 hv];exact⟨⟨by omega,h2⟩,h3⟩
theorem y9d (g:List Int):zqb g=true↔yrq g:=by
 unfold zqb;rw[yuc (b:=y6k g) (fun(x:Int) (s:Unit)=>(bif !(za x 1 9)then .error false else .ok ():Except Bool Unit)) g () (fun j u _=>rfl),ywf (fun x=>za x 1 9) (fun(s:Unit) x=>()) false];unfold yrq
 cases ha:g.all (fun x=>za x 1 9)with
 | false=>
  simp only[cond_false];constructor
  ·intro h;cases h
  ·rintro⟨_,h,_⟩
   rw[(ybe g).2 h]at ha;cases ha
 | true=>
  have hv:=(ybe g).1 ha
  have hsum:g.length<=4->(zuc g<=12↔g.sum<=12):=by
   intro h4;unfold zuc
   cases g with
   | nil=>simp
   | cons x t=>
    have h0:(((x::t).length:Int) == 0)=false:=by rw[beq_eq_false_iff_ne];simp only[List.length_cons];omega
    rw[h0];simp only[cond_false];rw[yuc (b:=yok (x::t)) (fun(y:Int) (s:Int)=>(bif !((fun _=>true) y)then .error 0 else .ok (IntKind.wrap .i64 (s+y)):Except Int Int)) (x::t) 0 (fun j u _=>rfl),ywf (fun _=>true) (fun s x=>IntKind.wrap .i64 (s+x)) 0];rw[show(x::t).all (fun _=>true)=true by simp];simp only[cond_true];rw[wsum _ h4 hv]
  have hone:(!(((g.length:Int) == 1) && (g.getD 0 default == 1)))=true↔g≠[1]:=by
   match g with
   | []=>simp
   | [a]=>simp
   | a::b::t=>
    have:((((a::b::t).length:Int)) == 1)=false:=by rw[beq_eq_false_iff_ne];simp only[List.length_cons];omega
    rw[this];simp
  simp only[cond_true];rw[Bool.and_eq_true,Bool.and_eq_true,hone,decide_eq_true_eq,decide_eq_true_eq];constructor
  ·rintro⟨⟨h1,h2⟩,h3⟩
   exact⟨by omega,hv,(hsum (by omega)).1 h3,h2⟩
  ·rintro⟨h1,_,h2,h3⟩
   exact⟨⟨by omega,h3⟩,(hsum h1).2 h2⟩
set_option maxRecDepth 10000 in
theorem yzu:∀ n:Fin 256,zld (n.val:Int)=zcd [87,82,71,89] (n.val:Int)+1 /\ -1<=zcd [87,82,71,89] (n.val:Int):=by decide
theorem yfy (b:UInt8):zld (b.toNat:Int)=zcd [87,82,71,89] (b.toNat:Int)+1 /\ -1<=zcd [87,82,71,89] (b.toNat:Int):=
 yzu ⟨b.toNat,b.toNat_lt⟩
theorem yat (s:List UInt8) (hl:s.length<9223372036854775808):zob s=zic s:=by
 unfold zob zic
 have hs:=yol (b1:=ydj s) (b2:=y5i s) (fun i (x:Int) (_:Unit)=>if i=0 then x = -1 else x+1=zld ((s.getD (i-1) 0).toNat:Int)/\0<=x) (k:=s.length-0) (i:=0) (s := -1) (t:=()) (by simp) (by
  intro j x u _ hj h;unfold ydj y5i;obtain⟨r1,r2⟩:=yfy (s.getD j 0);rw[r1];generalize zcd [87,82,71,89] ((s.getD j 0).toNat:Int)=p at *;by_cases h0:j=0
  ·subst h0
   rw[if_pos rfl]at h;subst h;simp only[Int.natCast_zero,show decide ((0:Int)<0)=false from rfl,Bool.false_and,Bool.or_false];by_cases hp:p = -1
   ·subst hp;left;exact⟨false,rfl,rfl⟩
   ·right
    have d1:decide (p <= -1)=false:=decide_eq_false (by omega);have d2:(p+1 == 0)=false:=by rw[beq_eq_false_iff_ne];omega
    rw[d1,d2];exact⟨p,(),rfl,rfl,by rw[if_neg (by omega)];exact⟨r1.symm,by omega⟩⟩
  ·rw[if_neg h0]at h
   obtain⟨h1,h2⟩:=h;have d3:decide (0<(j:Int))=true:=decide_eq_true (by omega);have hw:(IntKind.wrap .i64 ((j:Int)-1)).toNat=j-1:=by rw[IntKind.wrap_i64];omega
   rw[d3,hw, <- h1];simp only[Bool.true_and];by_cases hp:p<=x
   ·left
    have d1:decide (p<=x)=true:=decide_eq_true hp
    have d2:(p+1 == 0 || decide (p+1<=x+1))=true:=by
     rw[Bool.or_eq_true,decide_eq_true_eq];right;omega
    rw[d1,d2];exact⟨false,rfl,rfl⟩
   ·right
    have d1:decide (p<=x)=false:=decide_eq_false hp
    have d2:(p+1 == 0 || decide (p+1<=x+1))=false:=by
     rw[Bool.or_eq_false_iff,beq_eq_false_iff_ne,decide_eq_false_iff_not];omega
    rw[d1,d2]
    exact⟨p,(),rfl,rfl,by rw[if_neg (by omega)];exact⟨by rw[show j+1-1=j by omega];exact r1.symm,by omega⟩⟩)
 rcases hs with⟨r,h1,h2⟩|⟨u,v,h1,h2,_⟩
 ·rw[h1,h2]
 ·rw[h1,h2]
  simp only[za]
theorem yks {g:List Int} (h:g.length=1) (lo hi:Int) (hr:lo<=g.getD 0 default/\g.getD 0 default<=hi):∀ v∈g,lo<=v/\v<=hi:=by
 obtain⟨x,rfl⟩:=List.length_eq_one_iff.1 h;intro v hv;rw[List.mem_singleton]at hv;subst hv;simpa using hr
theorem yue {g:List Int} (h:(g.length:Int)=0):g.length<=4/\∀ v∈g,1<=v/\v<=9:=by
 have:g=[]:=List.length_eq_zero_iff.1 (by omega);subst this;simp
theorem yip (a:Character) (h:zkb a=true):a.Group.length<=4/\∀ v∈a.Group,1<=v/\v<=9:=by
  unfold zkb at h;simp only[Bool.cond_eq_ite]at h;repeat' split at h
  all_goals (try simp only[Bool.and_eq_true,Bool.or_eq_true,beq_iff_eq,yaf,decide_eq_true_eq,za]at h)
  all_goals first
    | exact yue h.1
    | exact yue h.2
    | (have:=(y2h _).1 h.2;exact⟨this.1,this.2.1⟩)
    | (rcases h with h | h
       . exact yue h
       . exact⟨by omega,fun v hv=>by have:=yks (g:=a.Group) (by omega) 2 9 h.2 v hv;omega⟩)
    | (rw[h.2];simp)
    | (cases h)
theorem y5s (a:Character) (h:zmd a=true):a.Group.length<=4/\(∀ v∈a.Group,1<=v/\v<=9)/\(a.Kind=8->a.Letter.length=1/\65<=(a.Letter.getD 0 0).toNat/\(a.Letter.getD 0 0).toNat<=90):=by
 unfold zmd at h;simp only[Bool.cond_eq_ite]at h;repeat' split at h
 all_goals (try simp only[Bool.and_eq_true,Bool.or_eq_true,beq_iff_eq,decide_eq_true_eq]at *)
 all_goals first
  | (cases h;done)
  | (exact⟨(yue h.1).1,(yue h.1).2,by intro h8;omega⟩)
  | (exact⟨by omega,fun v hv=>by have:=yks (g:=a.Group) (by omega) 6 6 (by omega) v hv;omega,by intro h8;omega⟩)
  | (have:=(y9d _).1 h.2;exact⟨this.1,this.2.1,by intro h8;omega⟩)
  | (exact⟨(yue h.1.1.1).1,(yue h.1.1.1).2,fun _=>⟨by omega,by omega,by omega⟩⟩)
def zme (a0:Character):Bool:=
 (bif ((!(zob a0.Colors)) || (!(zkb a0)))then false else(bif (zsc a0)then(a0.Period == 0)else((za a0.Period (zqe a0) 600) && ((a0.Kind != 3) || ((a0.Period.tmod 2) == 0)))))
namespace N127
theorem DD:DOk Tryz.prog (Go.Ab.DD [(101,dP D_za),(177,dP D_zob),(178,dP D_zkb),(179,dP D_zsc),(180,dP D_zqe)]):=ya y9b.e <| ya ymu.e <| ya yww.e <| ya ypp.e <| ya ywt.e <| yc _
theorem dn:type_of% (And.intro @D_za.eq_1 <| And.intro @D_zob.eq_1 <| And.intro @D_zkb.eq_1 <| And.intro @D_zsc.eq_1 <| @D_zqe.eq_1):=by and_intros<;>intros<;>rfl
theorem ol:type_of% (@za.eq_1):=@za.eq_1
theorem o0 {p:Prop} (h:p:=by(first|(have q9 := ‹(!zob a0.Colors || !zkb a0)=false›;have h9:=yip a0 (by simp only[Bool.or_eq_false_iff,Bool.not_eq_false']at q9;exact q9.2);first|exact⟨hb0,h9.1,fun v hv=>(h9.2 v hv).2,fun _ _=>by decide⟩|exact⟨hb0,h9.1,fun v hv=>(h9.2 v hv).2⟩|exact h9.1));first|done|fail):p:=h
theorem den (a0:Character) (hb0:bdCharacter a0):Den Tryz.prog 127 [.agg (eCharacter a0)] (.bool (zme a0)):=by
 generalize hR:zme a0=r;unfold zme at hR;refine di Tryz.func127 Tryz.ntmps127 Tryz.results127 ?_;intro c hL hc hk;obtain⟨hL0,_⟩:=hL;have hw0:bwCharacter a0:=yn a0 hL0;clear hL0;simp only[pars,Nat.zero_add];iterate 2 refine rS ?_
 refine AWP.cond rfl (fun hb => ?_) (fun hb => ?_)
 ·replace hR:=ct hR
  refine rS ?_;refine AWP.ret ?_;subst hR;exact es
 ·replace hR:=cf hR
  refine rS ?_;refine AWP.cond rfl (fun hb => ?_) (fun hb => ?_)
  ·replace hR:=ct hR
   refine rS ?_;refine AWP.ret ?_;subst hR;exact es
  ·replace hR:=cf hR
   refine rD 16 ?_;refine AWP.ret ?_;subst hR;exact es
end N127
def D_zme : DF
 | [x0]=>some (.bool (zme (rdG yd x0)),false,[wG eCharacter yd x0,bdCharacter (rdG yd x0)])
 | _=>none
theorem y5t:OkD Tryz.prog 127 D_zme:=by unfold D_zme;exact dk N127.den
def zbf (a0:Character):Bool:=
 (bif (!(zmd a0))then false else(bif (znd a0)then(a0.Period == 0)else(bif ((a0.Kind == 3) && ((a0.Period.tmod 2) != 0))then false else(zb a0.Period (zxe a0) 600))))
namespace N120
theorem DD:DOk Tryz.prog (Go.Ab.DD [(169,dP D_zmd),(170,dP D_znd),(171,dP D_zxe),(81,dP D_zb)]):=ya ycu.e <| ya yno.e <| ya y8t.e <| ya yxc.e <| yc _
theorem dn:type_of% (And.intro @D_zmd.eq_1 <| And.intro @D_znd.eq_1 <| And.intro @D_zxe.eq_1 <| @D_zb.eq_1):=by and_intros<;>intros<;>rfl
theorem ol:type_of% (@zb.eq_1):=@zb.eq_1
theorem o0 {p:Prop} (h:p:=by(first|(have q9 := ‹(!zmd a0)=false›;have h9:=y5s a0 (by simpa using q9);first|exact⟨hb0,h9.1,fun v hv=>(h9.2.1 v hv).2,h9.2.2⟩|exact⟨h9.1,fun v hv=>(h9.2.1 v hv).2,h9.2.2⟩|(and_intros<;>first|exact hb0|exact h9.1|exact fun v hv=>(h9.2.1 v hv).2|exact h9.2.2|decide|(intros;decide))));first|done|fail):p:=h
theorem den (a0:Character) (hb0:bdCharacter a0):Den Tryz.prog 120 [.ep (eCharacter a0)] (.bool (zbf a0)):=by
 generalize hR:zbf a0=r;unfold zbf at hR;refine di Tryz.func120 Tryz.ntmps120 Tryz.results120 ?_;intro c hL hc hk;obtain⟨hL0,_⟩:=hL;have hw0:bwCharacter a0:=yn a0 hL0;clear hL0;simp only[pars,Nat.zero_add];iterate 2 refine rS ?_
 refine AWP.cond rfl (fun hb => ?_) (fun hb => ?_)
 ·replace hR:=ct hR
  refine rS ?_;refine AWP.ret ?_;subst hR;exact es
 ·replace hR:=cf hR
  refine rS ?_;refine AWP.cond rfl (fun hb => ?_) (fun hb => ?_)
  ·replace hR:=ct hR
   refine rS ?_;refine AWP.ret ?_;subst hR;exact es
  ·replace hR:=cf hR
   refine rS ?_;refine AWP.cond rfl (fun hb => ?_) (fun hb => ?_)
   ·replace hR:=ct hR
    refine rS ?_;refine AWP.ret ?_;subst hR;exact es
   ·replace hR:=cf hR
    refine rD 6 ?_;refine AWP.ret ?_;subst hR;exact es
end N120
def D_zbf : DF
 | [x0]=>some (.bool (zbf (rdP yd x0)),false,[wP eCharacter yd x0,bdCharacter (rdP yd x0)])
 | _=>none
theorem ybx:OkD Tryz.prog 120 D_zbf:=by unfold D_zbf;exact dk N120.den
theorem ypv (g:List Int):zzb g=zqb g:=Bool.eq_iff_iff.2 ((y2h g).trans (y9d g).symm)
theorem yso (a:List UInt8):(zp a != [])=decide (a.length=1/\65<=(a.getD 0 0).toNat/\(a.getD 0 0).toNat<=90):=by
 rw[y5g];by_cases h:a.length=1/\65<=(a.getD 0 0).toNat/\(a.getD 0 0).toNat<=90
 ·rw[if_pos h,decide_eq_true h]
  have hlt:(a.getD 0 0).toNat-65<ypc.length:=by show _<26;omega
  rw[List.getD_eq_getElem?_getD,List.getElem?_eq_getElem hlt,Option.getD_some];have:=(ylf _ (List.getElem_mem hlt)).1;rw[bne_iff_ne];intro h2;rw[h2]at this;simp at this
 ·rw[if_neg h,decide_eq_false h];rfl
theorem ybw (L:List UInt8) (g:List Int) :
  (bif (L == [])then(((g.length:Int) == 0) || (((g.length:Int) == 1) && (za (g.getD 0 default) 2 9)))else((L == [76]) && (zab g [6]))) =
  (bif (L == [76])then(((g.length:Int) == 1) && ((g.getD 0 default) == 6))else(((L == []) && decide ((g.length:Int)<=1)) && (zqb g))):=by
 by_cases h1:L=[]
 ·subst h1
  simp only[show(([]:List UInt8) == [])=true from rfl,show(([]:List UInt8) == [76])=false from rfl,cond_true,cond_false,Bool.true_and];apply Bool.eq_iff_iff.2;rw[Bool.and_eq_true,y9d,decide_eq_true_eq]
  match g with
  | []=>simp[yrq]
  | [x]=>
   have e:((([x]:List Int).length:Int) == 0)=false:=rfl;have e2:((([x]:List Int).length:Int) == 1)=true:=rfl;rw[e,e2];simp only[Bool.false_or,Bool.true_and,za,Bool.and_eq_true,decide_eq_true_eq,List.getD_cons_zero,yrq,List.length_singleton,List.mem_singleton,forall_eq,List.sum_cons,List.sum_nil,ne_eq,List.cons.injEq,and_true];omega
  | x::y::t=>
   have e:(((x::y::t).length:Int) == 0)=false:=by rw[beq_eq_false_iff_ne];simp only[List.length_cons];omega
   have e2:(((x::y::t).length:Int) == 1)=false:=by rw[beq_eq_false_iff_ne];simp only[List.length_cons];omega
   rw[e,e2];simp only[Bool.false_and,Bool.or_self,Bool.false_eq_true,false_iff,List.length_cons];omega
 ·have e1:(L == [])=false:=by simpa using h1
  rw[e1];by_cases h2:L=[76]
  ·subst h2
   simp only[BEq.rfl,cond_true,cond_false,Bool.true_and,yaf];apply Bool.eq_iff_iff.2;rw[Bool.and_eq_true,decide_eq_true_eq,beq_iff_eq,beq_iff_eq];constructor
   ·intro h;subst h;simp
   ·rintro⟨h3,h4⟩
    obtain⟨x,rfl⟩:=List.length_eq_one_iff.1 (show g.length=1 by omega);simp only[List.getD_cons_zero]at h4;rw[h4]
  ·have e2:(L == [76])=false:=by simpa using h2
   rw[e2];simp
theorem yax (c:Character) (hl:c.Colors.length<9223372036854775808):zmd c=(zob c.Colors && zkb c):=by
 unfold zmd zkb zlf zb;rw[yat _ hl, <- ybw,ypv,yso]
 cases zic c.Colors with
 | false=>simp
 | true=>
  simp only[Bool.not_true,Bool.or_false,Bool.true_and];rcases(show c.Kind=1\/c.Kind=2\/c.Kind=3\/c.Kind=4\/c.Kind=5\/c.Kind=6\/c.Kind=7\/c.Kind=8\/(c.Kind<1\/8<c.Kind)by omega)with h|h|h|h|h|h|h|h|h
  ·rw[h];rfl
  ·rw[h];rfl
  ·rw[h];rfl
  ·rw[h];rfl
  ·rw[h];rfl
  ·rw[h];rfl
  ·rw[h];rfl
  ·rw[h]
   show((((((c.Group.length:Int) == 0) && ((c.Letter.length:Int) == 1)) && decide (65<=((c.Letter.getD 0 0).toNat:Int))) && decide (((c.Letter.getD 0 0).toNat:Int)<=90)))=(decide (c.Letter.length=1/\65<=(c.Letter.getD 0 0).toNat/\(c.Letter.getD 0 0).toNat<=90) && ((c.Group.length:Int) == 0))
   apply Bool.eq_iff_iff.2;simp only[Bool.and_eq_true,beq_iff_eq,decide_eq_true_eq];omega
  ·have e0:(decide (1<=c.Kind) && decide (c.Kind<=8))=false:=by
    rw[Bool.and_eq_false_iff,decide_eq_false_iff_not,decide_eq_false_iff_not];omega
   have e:∀ n:Int,1<=n->n<=8->(c.Kind == n)=false:=fun n h1 h2=>by rw[beq_eq_false_iff_ne];omega
   rw[e0,e 1 (by omega) (by omega),e 2 (by omega) (by omega),e 3 (by omega) (by omega),e 4 (by omega) (by omega),e 5 (by omega) (by omega),e 6 (by omega) (by omega),e 7 (by omega) (by omega),e 8 (by omega) (by omega)];rfl
theorem ycz (l:List Int):zyc l=zgd l:=rfl
theorem yhm (c:Character):zsc c=znd c:=rfl
theorem y9q (c:Character) (h:zkb c=true) (h8:c.Kind≠8):(c.Letter != [])=(c.Letter == [76]):=by
 unfold zkb at h;simp only[Bool.cond_eq_ite]at h;have e8:(c.Kind == 8)=false:=by rw[beq_eq_false_iff_ne];exact h8
 repeat' split at h
 all_goals first
  | (rename_i q;rw[e8]at q;cases q;done)
  | (cases h;done)
  | (simp only[Bool.and_eq_true,beq_iff_eq]at h;rw[h.2];rfl)
  | (simp only[Bool.and_eq_true,beq_iff_eq]at h;rw[h.1];rfl)
  | (rename_i q;simp only[beq_iff_eq]at q;rw[q];rfl)
theorem yus (k:Int) (h:k=2\/k=4\/k=5\/k=6\/k=7\/k=8):(zf k).1=zhd k/\(zf k).2.1=zbc k:=by
 rcases h with h|h|h|h|h|h<;>subst h<;>exact⟨rfl,rfl⟩
theorem y5u (c:Character) (h:zkb c=true) (hk:c.Kind=2\/c.Kind=4\/c.Kind=5\/c.Kind=6\/c.Kind=7\/c.Kind=8):ze c=zg c:=by
 obtain⟨r1,r2⟩:=yus c.Kind hk;by_cases h8:c.Kind=8
 ·have hs:(zp c.Letter != [])=true:=by
   unfold zkb at h;rw[h8]at h;have h:(((zp c.Letter) != []) && ((c.Group.length:Int) == 0))=true:=h;rw[Bool.and_eq_true]at h;exact h.1
  rw[yso,decide_eq_true_eq]at hs;have e1:=y5g c.Letter;rw[if_pos hs]at e1;have e2:=y8h ((c.Letter.getD 0 0).toNat:Int);rw[y4h _ (by omega) (by omega),show((((c.Letter.getD 0 0).toNat:Int)-65).toNat)=(c.Letter.getD 0 0).toNat-65 by omega]at e2;have hd:(default:List UInt8)=[]:=rfl;rw[hd]at e2
  have hall:∀ x∈ypc.getD ((c.Letter.getD 0 0).toNat-65) [],x=45\/x=46:=by
   have hlt:(c.Letter.getD 0 0).toNat-65<ypc.length:=by show _<26;omega
   rw[List.getD_eq_getElem?_getD,List.getElem?_eq_getElem hlt,Option.getD_some];exact(ylf _ (List.getElem_mem hlt)).2.2
  generalize ypc.getD ((c.Letter.getD 0 0).toNat-65) []=code at *
  have hb:yf (yuq c) code.length 0 []=yf (y0q c) code.length 0 []:=yjj _ _ _ (fun j u _ hj=>by
   unfold yuq y0q;rw[e1,e2,r1,r2,h8]
   have hg:(code.map (fun c=>if c=46 then(5:Int)else 15)).getD j default=if code.getD j 0=46 then 5 else 15:=by
    rw[List.getD_eq_getElem?_getD,List.getD_eq_getElem?_getD,List.getElem?_map,List.getElem?_eq_getElem (by omega)];rfl
   rw[hg];have hm:=hall (code.getD j 0) (by rw[List.getD_eq_getElem?_getD,List.getElem?_eq_getElem (by omega),Option.getD_some];exact List.getElem_mem _);generalize code.getD j 0=x at hm
   rcases hm with hm|hm<;>subst hm<;>rfl)
  unfold ze zg;rw[h8,e1,e2];simp only[List.length_map,Nat.sub_zero];rw[hb];rfl
 ·have e8:(c.Kind == 8)=false:=by rw[beq_eq_false_iff_ne];exact h8
  unfold ze zg;rw[e8,y9q c h h8,r2]
  have b3:y9p c=y1p c:=by
   funext i s j t
   unfold y9p y1p;rw[r1,r2]
  have b5:ysq c=yzp c:=by
   funext i s j t
   unfold ysq yzp;rw[r1,r2]
  have b2:ywq c=y6q c:=by
   funext i s
   unfold ywq y6q;rw[b3];all_goals rfl
  have b4:yxq c=ygq c:=by
   funext i s
   unfold yxq ygq;rw[b5];all_goals rfl
  rw[b2,b4];rfl
theorem yfu (c:Character) (h:zkb c=true) (hs:zsc c=false):zqe c=zxe c:=by
 unfold zqe zxe;rw[hs, <- yhm,hs];simp only[cond_false];by_cases h3:c.Kind=3
 ·rw[h3];rfl
 ·have e3:(c.Kind == 3)=false:=by rw[beq_eq_false_iff_ne];exact h3
  rw[e3];simp only[cond_false]
  have hk:c.Kind=2\/c.Kind=4\/c.Kind=5\/c.Kind=6\/c.Kind=7\/c.Kind=8:=by
   unfold zkb at h;unfold zsc at hs;simp only[Bool.cond_eq_ite]at h;simp only[Bool.or_eq_false_iff,beq_eq_false_iff_ne]at hs;repeat' split at h
   all_goals (try simp only[beq_iff_eq]at *)
   all_goals first|omega|(cases h;done)
  rw[y5u c h hk,ycz];have hg:=(yip c h).1
  have hone:c.Kind=6\/c.Kind=7\/c.Kind=8->c.Group.length<=1:=by
   intro hq;unfold zkb at h;simp only[Bool.cond_eq_ite]at h;repeat' split at h
   all_goals (try simp only[Bool.and_eq_true,Bool.or_eq_true,beq_iff_eq,yaf,decide_eq_true_eq]at *)
   all_goals first|omega|(rcases h with h|h<;>omega)|(rw[h.2];simp)
  have e1:∀ n:Int,IntKind.wrap .i64 n=n\/True:=fun _=>.inr trivial
  unfold zmf;rcases hk with hk|hk|hk|hk|hk|hk
  ·rw[hk]
   cases decide (1<(c.Group.length:Int))<;>rfl
  ·rw[hk]
   cases decide (1<(c.Group.length:Int))<;>rfl
  ·rw[hk]
   cases decide (1<(c.Group.length:Int))<;>rfl
  ·have:=hone (by omega)
   rw[hk,decide_eq_false (show ¬ 1<(c.Group.length:Int)by omega)];rfl
  ·have:=hone (by omega)
   rw[hk,decide_eq_false (show ¬ 1<(c.Group.length:Int)by omega)];rfl
  ·have:=hone (by omega)
   rw[hk,decide_eq_false (show ¬ 1<(c.Group.length:Int)by omega)];rfl
theorem ycx (c:Character) (hl:c.Colors.length<9223372036854775808):zme c=zbf c:=by
 unfold zme zbf;rw[yax c hl, <- yhm]
 cases h1:zob c.Colors with
 | false=>rfl
 | true=>
  cases h2:zkb c with
  | false=>rfl
  | true=>
   cases h3:zsc c with
   | true=>rfl
   | false=>
    rw[yfu c h2 h3];simp only[Bool.not_true,Bool.or_self,Bool.and_self,cond_false,za,zb]
    cases h4:(c.Kind == 3)with
    | false=>
     have:(c.Kind != 3)=true:=by rw[bne,h4];rfl
     rw[this];simp
    | true=>
     have:(c.Kind != 3)=false:=by rw[bne,h4];rfl
     rw[this];simp only[Bool.false_or,Bool.true_and]
     cases h5:(c.Period.tmod 2 == 0)with
     | true=>
      have:(c.Period.tmod 2 != 0)=false:=by rw[bne,h5];rfl
      rw[this];simp
     | false=>
      have:(c.Period.tmod 2 != 0)=true:=by rw[bne,h5];rfl
      rw[this];simp
theorem y8q (c:List UInt8):zre c=zze c:=by
 unfold zre zze
 match c with
 | []=>rfl
 | [b]=>
  simp only[List.length_singleton,zm,List.getD_cons_zero,Go.Lib.indexByte];by_cases h1:b=87
  ·subst h1;rfl
  by_cases h2:b=82
  ·subst h2;rfl
  by_cases h3:b=71
  ·subst h3;rfl
  by_cases h4:b=89
  ·subst h4;rfl
  have e:∀ x:UInt8,b≠x->([b] == [x])=false:=by intro x h;simp[h]
  rw[e _ h1,e _ h2,e _ h3,e _ h4];have n1:¬ (87:UInt8)=b:=fun h=>h1 h.symm
  have n2:¬ (82:UInt8)=b:=fun h=>h2 h.symm
  have n3:¬ (71:UInt8)=b:=fun h=>h3 h.symm
  have n4:¬ (89:UInt8)=b:=fun h=>h4 h.symm
  simp[n1,n2,n3,n4]
 | a::b::t=>
  have e:∀ x:UInt8,((a::b::t) == [x])=false:=by intro x;simp
  rw[e,e,e,e];have:(((a::b::t).length:Int) == 1)=false:=by simp;omega
  rw[this];rfl
theorem ybs (s:Sector):zse s=zvc s:=by
 unfold zse zvc zye;rw[y8q];rfl
theorem yxy (a:Int):a.tmod 360=if 0<=a then a % 360 else -((-a) % 360):=by
 split
 ·rw[Int.tmod_eq_emod_of_nonneg (by omega)]
 ·have e:a = -(-a):=by omega
  rw[e,Int.neg_tmod,Int.tmod_eq_emod_of_nonneg (by omega)];simp
theorem yrm (a:Int):zed a 360=a % 360:=by
 unfold zed;rw[yxy a]
 have e:IntKind.wrap .i64 ((if 0<=a then a % 360 else -((-a) % 360))+360)=(if 0<=a then a % 360 else -((-a) % 360))+360:=by
  rw[IntKind.wrap_i64];split<;>omega
 rw[e,yxy];split<;>split<;>omega
def brg (n:Int):Prop:=0<=n/\n<=359
theorem w64 {x:Int} (h1 : -9223372036854775808<=x) (h2:x<=9223372036854775807):IntKind.wrap .i64 x=x:=by rw[IntKind.wrap_i64];omega
def y0c (s:Sector):Int:=(s.To-s.From-1) % 360+1
theorem yqo (s:Sector) (h1:brg s.From) (h2:brg s.To):zec s=y0c s:=by
 obtain⟨a1,a2⟩:=h1;obtain⟨b1,b2⟩:=h2;unfold zec y0c;rw[w64 (x:=s.To-s.From) (by omega) (by omega),w64 (x:=s.To-s.From-1) (by omega) (by omega),yrm,w64 (by omega) (by omega)]
theorem yzt (s:Sector) (h1:brg s.From) (h2:brg s.To):zaf s=y0c s:=by
 obtain⟨a1,a2⟩:=h1;obtain⟨b1,b2⟩:=h2;unfold zaf y0c;rw[w64 (x:=s.To-s.From) (by omega) (by omega),w64 (x:=s.To-s.From+360) (by omega) (by omega),yxy,if_pos (by omega)]
 cases hb:((s.To-s.From+360) % 360 == 0)with
 | true=>have:=eq_of_beq hb;simp only[cond_true];omega
 | false=>
  have:(s.To-s.From+360) % 360≠0:=by intro h;rw[h]at hb;exact absurd hb (by decide)
  simp only[cond_false];omega
theorem yao (s:Sector) (b:Int) (h1:brg s.From) (h2:brg s.To) (h3:brg b):zrd s b=decide ((b-s.From) % 360<y0c s):=by
 unfold zrd;obtain⟨a1,a2⟩:=h1;obtain⟨c1,c2⟩:=h3;rw[w64 (x:=b-s.From) (by omega) (by omega),yrm,yqo s ⟨a1,a2⟩ h2]
theorem ykh (s:Sector):1<=y0c s/\y0c s<=360:=by unfold y0c;omega
def itR {σ : Type} (g : Nat -> σ -> σ) : Nat -> Nat -> σ -> σ
 | 0,_,s=>s
 | k+1,i,s=>itR g k (i+1) (g i s)
theorem yqf {σ : Type} (g : Nat -> σ -> σ) : ∀ (k i : Nat) (s : σ), itR g (k + 1) i s = g (i + k) (itR g k i s)
 | 0,i,s=>rfl
 | k+1,i,s=>by
  have:=yqf g k (i+1) (g i s);rw[show itR g (k+1+1) i s=itR g (k+1) (i+1) (g i s)from rfl,this,show i+1+k=i+(k+1)by omega];rfl
theorem y6f {ρ σ:Type} {b:Nat->σ->Except ρ σ} (p:Nat->Bool) (g:Nat->σ->σ) (r:ρ):∀ {k i:Nat} {s:σ},(∀ j u,i<=j->j<i+k->b j u=bif p j then .error r else .ok (g j u)) ->
  ((∃ j,i<=j/\j<i+k/\p j=true)/\yf b k i s=.error r)\/((∀ j,i<=j->j<i+k->p j=false)/\yf b k i s=.ok (itR g k i s))
 | 0,i,s,_=>.inr ⟨fun j h1 h2=>by omega,rfl⟩
 | k+1,i,s,hb=>by
  simp only[yf,hb i s (Nat.le_refl _) (by omega)]
  cases hp:p i with
  | true=>exact .inl ⟨⟨i,Nat.le_refl _,by omega,hp⟩,rfl⟩
  | false=>
   simp only[cond_false];rcases y6f p g r (k:=k) (i:=i+1) (s:=g i s) (fun j u h1 h2=>hb j u (by omega) (by omega))with⟨⟨j,h1,h2,h3⟩,h4⟩|⟨h1,h2⟩
   ·exact .inl ⟨⟨j,by omega,by omega,h3⟩,h4⟩
   ·refine .inr ⟨fun j h3 h4 => ?_,h2⟩
    by_cases hji:j=i
    ·subst hji;exact hp
    ·exact h1 j (by omega) (by omega)
theorem yhj {ρ:Type} {b:Int->Except (Sum ρ Int) Int} (q:Nat->Bool) (r:ρ) (n:Nat) (hb:∀ j:Nat,j<=n->b (j:Int)=bif decide (j<n)then(bif q j then .error (.inl r)else .ok ((j+1:Nat):Int))else .error (.inr (j:Int))) :
  ∀ (m i k:Nat),i+m=n->m<k->((∃ j,i<=j/\j<n/\q j=true)/\yfc b k (i:Int)=.error (.inl r))\/((∀ j,i<=j->j<n->q j=false)/\yfc b k (i:Int)=.error (.inr (n:Int)))
 | _,_,0,_,h=>absurd h (Nat.not_lt_zero _)
 | 0,i,k+1,e,_=>by
  have:i=n:=by omega
  subst this;right
  refine⟨fun j h1 h2=>by omega,?_⟩;simp only[yfc,hb i (Nat.le_refl _),Nat.lt_irrefl,decide_false,cond_false]
 | m+1,i,k+1,e,hk=>by
  simp only[yfc,hb i (by omega),show i<n by omega,decide_true,cond_true]
  cases hq:q i with
  | true=>exact .inl ⟨⟨i,Nat.le_refl _,by omega,hq⟩,rfl⟩
  | false=>
   simp only[cond_false];rcases yhj q r n hb m (i+1) k (by omega) (by omega)with⟨⟨j,h1,h2,h3⟩,h4⟩|⟨h1,h2⟩
   ·exact .inl ⟨⟨j,by omega,h2,h3⟩,h4⟩
   ·refine .inr ⟨fun j h3 h4 => ?_,h2⟩
    by_cases hji:j=i
    ·subst hji;exact hq
    ·exact h1 j (by omega) h4
def secQ (a:List Sector) (i:Nat):Bool:=(!(zvc (a.getD i default))) || (decide (0<(i:Int)) && decide (((a.getD i default).From)<=((a.getD ((IntKind.wrap .i64 ((i:Int)-1)).toNat) default).From)))
theorem y9w (a:List Sector) (i:Nat) (hi:i<9223372036854775807):secQ a i=false↔zvc (a.getD i default)=true/\(0<i->(a.getD (i-1) default).From<(a.getD i default).From):=by
 unfold secQ;rw[Bool.or_eq_false_iff,Bool.not_eq_false'];constructor
 ·rintro⟨h1,h2⟩
  refine⟨h1,fun h => ?_⟩;rw[yzl h (by omega)]at h2;simp only[Bool.and_eq_false_iff,decide_eq_false_iff_not]at h2;omega
 ·rintro⟨h1,h2⟩
  refine⟨h1,?_⟩;by_cases h:0<i
  ·rw[yzl h (by omega)]
   have:=h2 h;simp only[Bool.and_eq_false_iff,decide_eq_false_iff_not];omega
  ·simp only[Bool.and_eq_false_iff,decide_eq_false_iff_not];omega
theorem yyy {s:Sector} (h:zvc s=true):brg s.From/\brg s.To:=by
 unfold zvc zye zb at h;simp only[Bool.and_eq_true,decide_eq_true_eq]at h;exact⟨⟨h.1.1.1,h.1.1.2⟩,h.1.2.1,h.1.2.2⟩
theorem y3r (a : List Sector) (n : Nat) : ∀ k, k <= 1000 -> 0 <= itR (fun i (s : Int) => s + y0c (a.getD i default)) k 0 0 /\ itR (fun i (s : Int) => s + y0c (a.getD i default)) k 0 0 <= 360 * k
 | 0,_=>by simp[itR]
 | k+1,h=>by
  have:=y3r a n k (by omega);rw[yqf];have:=ykh (a.getD (0+k) default);simp only[Nat.zero_add]at *;omega
theorem ysh (a:List Sector) (hl:a.length<9223372036854775807):zdb a=zx a:=by
 have sp1:=y6f (b:=yur a) (secQ a) (fun _ u=>u) false (k:=a.length-0) (i:=0) (s:=()) (fun j u _ _=>by cases u;rfl);let hasK (i:Nat):Bool:=(List.range a.length).any fun k=>((k:Int) != (i:Int)) && zrd (a.getD i default) ((a.getD k default).From)
 have im1:=y6f (b:=yej a) (fun i=>secQ a i || hasK i) (fun i (s:Int)=>IntKind.wrap .i64 (s+zec (a.getD i default))) false (k:=a.length-0) (i:=0) (s:=0) (fun j u _ _=>by
  simp only[yej,ybs];rw[show((!zvc (a.getD j default)) || (decide (0<(j:Int)) && decide (((a.getD j default).From)<=((a.getD ((IntKind.wrap .i64 ((j:Int)-1)).toNat) default).From))))=secQ a j from rfl]
  cases hq:secQ a j with
  | true=>rfl
  | false=>
   simp only[cond_false,Bool.false_or];rw[y7b (b:=ycm a j u) (fun k=>((k:Int) != (j:Int)) && zrd (a.getD j default) ((a.getD k default).From)) false (fun k v _ _=>rfl)];simp only[Nat.sub_zero,Nat.zero_add];show(match (bif hasK j then Except.error false else Except.ok ())with|.error e=>Except.error e|.ok s2=>Except.ok (IntKind.wrap .i64 (u+zec (a.getD j default))))=bif hasK j then Except.error false else Except.ok (IntKind.wrap .i64 (u+zec (a.getD j default)))
   cases hasK j<;>rfl)
 unfold zdb zx;rcases sp1 with⟨⟨j,_,hj,hq⟩,e1⟩|⟨hq,e1⟩
 ·rcases im1 with⟨_,e2⟩|⟨hn,_⟩
  ·rw[e1,e2]
   cases decide (12<(a.length:Int))<;>rfl
  ·have:=hn j (Nat.zero_le _) hj
   simp only[hq,Bool.true_or]at this;cases this
 ·have hq':∀ i,i<a.length->zvc (a.getD i default)=true/\(0<i->(a.getD (i-1) default).From<(a.getD i default).From):=fun i hi=>(y9w a i (by omega)).1 (hq i (Nat.zero_le _) (by omega))
  have hb:∀ i,i<a.length->brg (a.getD i default).From/\brg (a.getD i default).To:=fun i hi=>yyy (hq' i hi).1
  have hs:∀ i,i+1<a.length->(a.getD i default).From<(a.getD (i+1) default).From:=fun i hi=>by have:=(hq' (i+1) hi).2 (by omega);simpa using this
  rw[e1];simp only;have apart:=yaq (f:=fun i=>(a.getD i default).From) (arc:=fun i=>y0c (a.getD i default)) (n:=a.length) (fun i hi=>(hb i hi).1) hs
  -- the reference's second loop
  let q2 (j:Nat):Bool:=decide (1<a.length) && decide ((((a.getD ((j+1) % a.length) default).From-(a.getD j default).From+360) % 360)<y0c (a.getD j default))
  have sp2:=yhj (b:=ycn a ()) q2 false (if 1<a.length then a.length else 0) (fun j hj=>by
   simp only[ycn];by_cases hn:1<a.length
   ·rw[if_pos hn]at hj ⊢
    have d1:decide ((1:Int)<(a.length:Int))=true:=by simp;omega
    rw[d1,Bool.and_true];by_cases hjl:j<a.length
    ·have d2:decide ((j:Int)<(a.length:Int))=true:=by simp;omega
     rw[d2,decide_eq_true hjl];simp only[cond_true];have w1:IntKind.wrap .i64 ((j:Int)+1)=((j+1:Nat):Int):=by rw[IntKind.wrap_i64];omega
     have t1:((IntKind.wrap .i64 ((j:Int)+1)).tmod (a.length:Int)).toNat=(j+1) % a.length:=by
      rw[w1,Int.tmod_eq_emod_of_nonneg (by omega),show((j+1:Nat):Int) % (a.length:Int)=(((j+1) % a.length:Nat):Int)from rfl,Int.toNat_natCast]
     rw[t1,Int.toNat_natCast,yzt _ (hb j hjl).1 (hb j hjl).2,w1];have hm:(j+1) % a.length<a.length:=Nat.mod_lt _ (by omega);have b1:=(hb _ hm).1;have b2:=(hb j hjl).1;obtain⟨c1,c2⟩:=b1;obtain⟨c3,c4⟩:=b2;rw[w64 (x:=(a.getD ((j+1) % a.length) default).From-(a.getD j default).From) (by omega) (by omega),w64 (x:=(a.getD ((j+1) % a.length) default).From-(a.getD j default).From+360) (by omega) (by omega),Int.tmod_eq_emod_of_nonneg (by omega)];show _=bif q2 j then _ else _
     rw[show q2 j=decide ((((a.getD ((j+1) % a.length) default).From-(a.getD j default).From+360) % 360)<y0c (a.getD j default))from by show(decide (1<a.length) && _)=_;rw[decide_eq_true hn,Bool.true_and]]
    ·have d2:decide ((j:Int)<(a.length:Int))=false:=by simp;omega
     rw[d2,decide_eq_false hjl];rfl
   ·rw[if_neg hn]at hj ⊢
    have d1:decide ((1:Int)<(a.length:Int))=false:=by simp;omega
    have d3:decide (j<0)=false:=by simp
    rw[d1,Bool.and_false,d3]
    rfl) (if 1<a.length then a.length else 0) 0 (a.length-(0:Int).toNat+1) (by omega) (by simp;split<;>omega)
  have e0:((0:Nat):Int)=0:=rfl;rw[e0]at sp2
  -- what the program's loop says
  have hask:∀ i,i<a.length->(hasK i=false↔∀ k,k<a.length->k≠i->y0c (a.getD i default)<=((a.getD k default).From-(a.getD i default).From) % 360):=by
   intro i hi;show((List.range a.length).any _)=false↔_;rw[List.any_eq_false];constructor
   ·intro h k hk hki
    have:=h k (List.mem_range.2 hk);rw[yao _ _ (hb i hi).1 (hb i hi).2 (hb k hk).1]at this;simp only[Bool.and_eq_true,bne_iff_ne,decide_eq_true_eq,not_and]at this;have:=this (by omega);omega
   ·intro h k hk
    have hk:=List.mem_range.1 hk;rw[yao _ _ (hb i hi).1 (hb i hi).2 (hb k hk).1];simp only[Bool.and_eq_true,bne_iff_ne,decide_eq_true_eq,not_and];intro hki;have:=h k hk (by omega);omega
  rcases im1 with⟨⟨i,_,hi,hc⟩,e2⟩|⟨hn,e2⟩
  · -- two sectors meet
   rw[e2];simp only;have hi:i<a.length:=by omega
   rw[hq i (Nat.zero_le _) (by omega),Bool.false_or]at hc
   have hne:¬ ∀ k,k<a.length->k≠i->y0c (a.getD i default)<=((a.getD k default).From-(a.getD i default).From) % 360:=fun h=>by
    rw[(hask i hi).2 h]at hc;cases hc
   have hno:¬ (1<a.length->∀ i,i<a.length->y0c (a.getD i default)<=((a.getD ((i+1) % a.length) default).From-(a.getD i default).From+360) % 360):=fun h=>hne (fun k hk hki=>apart.2 h i hi k hk hki)
   cases decide (12<(a.length:Int))with
   | true=>rfl
   | false=>
    simp only[cond_false];rcases sp2 with⟨_,e3⟩|⟨h3,_⟩
    ·rw[e3]
    ·exfalso
     apply hno;intro hn1 j hj;have:=h3 j (Nat.zero_le _) (by rw[if_pos hn1];exact hj)
     have:decide ((((a.getD ((j+1) % a.length) default).From-(a.getD j default).From+360) % 360)<y0c (a.getD j default))=false:=by
      have h4:(decide (1<a.length) && _)=false:=this;rwa [decide_eq_true hn1,Bool.true_and]at h4
     have:=of_decide_eq_false this;omega
  ·rw[e2]
   simp only[zw]
   have hall:∀ i,i<a.length->∀ k,k<a.length->k≠i->y0c (a.getD i default)<=((a.getD k default).From-(a.getD i default).From) % 360:=fun i hi=>(hask i hi).1 (by
    have:=hn i (Nat.zero_le _) (by omega);rw[Bool.or_eq_false_iff]at this
    exact this.2)
   have hcons:=apart.1 hall
   have e3:yfc (ycn a ()) (a.length-(0:Int).toNat+1) 0=.error (.inr ((if 1<a.length then a.length else 0:Nat):Int)):=by
    rcases sp2 with⟨⟨j,_,hj,h4⟩,_⟩|⟨_,e3⟩
    ·exfalso
     have h4:(decide (1<a.length) && decide ((((a.getD ((j+1) % a.length) default).From-(a.getD j default).From+360) % 360)<y0c (a.getD j default)))=true:=h4;rw[Bool.and_eq_true]at h4;have g1:=of_decide_eq_true h4.1;have g2:=of_decide_eq_true h4.2;rw[if_pos g1]at hj;have:=hcons g1 j hj;omega
    ·exact e3
   rw[e3];simp only
   cases h12:decide (12<(a.length:Int))with
   | true=>
    have:=of_decide_eq_true h12;rw[decide_eq_false (show ¬ (a.length:Int)<=12 by omega),Bool.false_and];rfl
   | false=>
    have h12:=of_decide_eq_false h12;rw[decide_eq_true (show(a.length:Int)<=12 by omega),Bool.true_and];simp only[cond_false]
    have hit:∀ k,k<=a.length->itR (fun i (s:Int)=>IntKind.wrap .i64 (s+zec (a.getD i default))) k 0 0=itR (fun i (s:Int)=>s+y0c (a.getD i default)) k 0 0:=by
     intro k
     induction k with
     | zero=>intro _;rfl
     | succ k ih=>
      intro hk;rw[yqf,yqf,ih (by omega)];simp only[Nat.zero_add];have r1:=y3r a 0 k (by omega);rw[yqo _ (hb k (by omega)).1 (hb k (by omega)).2];have r2:=ykh (a.getD k default);exact w64 (by omega) (by omega)
    have hle:=y7v (f:=fun i=>(a.getD i default).From) (arc:=fun i=>y0c (a.getD i default)) (S:=fun k=>itR (fun i (s:Int)=>s+y0c (a.getD i default)) k 0 0) (n:=a.length) (fun i hi=>(hb i hi).1) hs (fun i _=>ykh _) hcons rfl (fun i _=>by
     show itR _ (i+1) 0 0=_;rw[yqf]
     simp only[Nat.zero_add])
    rw[hit _ (by omega)];exact decide_eq_true (by simpa using hle)
end Go.Ab
