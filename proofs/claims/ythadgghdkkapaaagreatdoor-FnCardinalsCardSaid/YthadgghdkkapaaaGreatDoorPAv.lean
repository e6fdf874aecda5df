/- A part of a proof: walks of functions and lemmas of our own. No conditions. -/
import Derived.Test.YthadgghdkkapaaaGreatDoorPAi
import Derived.Test.YthadgghdkkapaaaGreatDoorPAp
import Derived.Test.YthadgghdkkapaaaGreatDoorPAs
import Derived.Test.YthadgghdkkapaaaGreatDoorPAn
import Derived.Test.YthadgghdkkapaaaGreatDoorPAl
import Derived.Test.YthadgghdkkapaaaGreatDoorPAq
import Derived.Test.YthadgghdkkapaaaGreatDoorPAt
set_option linter.unusedSectionVars false
set_option linter.unusedVariables false
set_option linter.unusedSimpArgs false
set_option maxHeartbeats 1000000
namespace Go.Ab
open Go Go.Proofs
def ptIn (p:Point):Prop:=0<=p.X/\p.X<=200000/\0<=p.Y/\p.Y<=200000
theorem y2k {p:Point} (h:zeb p=true):ptIn p:=by
 simp[zeb,zf]at h;unfold ptIn;omega
theorem yel {p:Point} (h:ptIn p):zeb p=true:=by
 unfold ptIn at h;simp[zeb,zf];omega
theorem yph {n:Int} (h0:0<=n):zpd n=zsd n/\0<=zsd n/\zsd n<=3037000499/\zsd n * zsd n<=n/\(zsd n=3037000499\/n<(zsd n+1) * (zsd n+1)):=by
 have e:zpd n=zsd n:=by
  unfold zpd zsd;rw[decide_eq_false (by omega),cond_false];rfl
 obtain ⟨x, hx, s, rfl, hI, hd⟩ := ykd (b := yju n) (fun s => 0 <= s.1 /\ s.1 <= s.2 /\ s.2 <= 3037000499 /\ s.1 * s.1 <= n /\ (s.2 = 3037000499 \/ n < (s.2 + 1) * (s.2 + 1)))
  (fun r=>∃ s,r=.inr s/\(0<=s.1/\s.1<=s.2/\s.2<=3037000499/\s.1 * s.1<=n/\(s.2=3037000499\/n<(s.2+1) * (s.2+1)))/\¬ s.1<s.2) (fun s=>(s.2-s.1).toNat) (by
  rintro⟨a,b⟩ ⟨h1,h2,h3,h4,h5⟩
  simp only at h1 h2 h3 h4 h5;simp only[yju];by_cases hl:a<b
  ·left
   rw[decide_eq_true hl,cond_true];obtain⟨m1,m2,m3⟩:=y4h h1 hl h3;generalize IntKind.wrap .i64 ((IntKind.wrap .i64 ((IntKind.wrap .i64 (a+b))+1)).tdiv 2)=m at m1 m2 m3 ⊢;have hmm:0<=m * m/\m * m<=9223372030926249001:=⟨Int.mul_nonneg (by omega) (by omega),by have:=Int.mul_le_mul (show m<=3037000499 by omega) (show m<=3037000499 by omega) (by omega) (by omega);omega⟩
   rw[show IntKind.wrap .i64 (m * m)=m * m by rw[IntKind.wrap_i64];omega];by_cases hq:m * m<=n
   ·rw[decide_eq_true hq,cond_true]
    exact⟨_,rfl,⟨by simp only;omega,by simp only;omega,h3,hq,h5⟩,by simp only;omega⟩
   ·rw[decide_eq_false hq,cond_false,m3]
    exact⟨_,rfl,⟨h1,by simp only;omega,by simp only;omega,h4,Or.inr (by simp only[Int.sub_add_cancel];omega)⟩,by simp only;omega⟩
  ·right
   rw[decide_eq_false hl,cond_false]
   exact⟨_,rfl,_,rfl,⟨h1,h2,h3,h4,h5⟩,hl⟩) (((3037000499:Int)-(0:Int)).toNat+1) (0,3037000499) ⟨by decide,by decide,by decide,by simpa using h0,Or.inl rfl⟩ (Nat.lt_succ_self _)
 have er:zsd n=s.1:=by unfold zsd;rw[hx]
 rw[er];obtain⟨h1,h2,h3,h4,h5⟩:=hI;have e2:s.2=s.1:=by omega
 rw[e2]at h5 h3;exact⟨e.trans er,h1,h3,h4,h5⟩
theorem yat {a b:Point} (ha:ptIn a) (hb:ptIn b):zzf a b=(a.X-b.X) * (a.X-b.X)+(a.Y-b.Y) * (a.Y-b.Y)/\0<=zzf a b:=by
 unfold ptIn at ha hb;have e1:IntKind.wrap .i64 (a.X-b.X)=a.X-b.X:=by rw[IntKind.wrap_i64];omega
 have e2:IntKind.wrap .i64 (a.Y-b.Y)=a.Y-b.Y:=by rw[IntKind.wrap_i64];omega
 have q:∀ x:Int,-200000<=x->x<=200000->0<=x * x/\x * x<=40000000000:=fun x h1 h2=>by
  have e:x * x=(x.natAbs:Int) * (x.natAbs:Int):=by
   rcases Int.natAbs_eq x with h|h
   ·rw[<- h]
   ·have h9:x * x=(-x) * (-x):=by rw[Int.neg_mul_neg]
    rw[h9,show -x=(x.natAbs:Int)by omega]
  rw[e];exact⟨Int.mul_nonneg (by omega) (by omega),by have:=Int.mul_le_mul (show(x.natAbs:Int)<=200000 by omega) (show(x.natAbs:Int)<=200000 by omega) (by omega) (by omega);omega⟩
 have q1:=q (a.X-b.X) (by omega) (by omega);have q2:=q (a.Y-b.Y) (by omega) (by omega)
 have e:zzf a b=(a.X-b.X) * (a.X-b.X)+(a.Y-b.Y) * (a.Y-b.Y):=by
  unfold zzf;rw[e1,e2];generalize (a.X-b.X) * (a.X-b.X)=u at q1 ⊢;generalize (a.Y-b.Y) * (a.Y-b.Y)=v at q2 ⊢;have w1:IntKind.wrap .i64 u=u:=by rw[IntKind.wrap_i64];omega
  have w2:IntKind.wrap .i64 v=v:=by rw[IntKind.wrap_i64];omega
  rw[w1,w2,IntKind.wrap_i64];omega
 exact⟨e,by rw[e];omega⟩
theorem y1i {a b:Point} (ha:ptIn a) (hb:ptIn b):zkb [a,b]=true:=by
 have h1:zwb a=true:=yel ha;have h2:zwb b=true:=yel hb;have e0:yxf [a,b] 0 ()=.ok ():=by unfold yxf;simp[h1]
 have e1:yxf [a,b] 1 ()=.ok ():=by unfold yxf;simp[h2]
 unfold zkb;simp only[List.length_cons,List.length_nil,Nat.zero_add,Nat.reduceAdd,Nat.sub_zero,yh,e0,e1]
theorem yms {a b:Point} (ha:ptIn a) (hb:ptIn b):zle a b=zag a b:=by
 unfold zle zag;rw[y1i ha hb];exact(yph (yat ha hb).2).1
theorem y5n (i:Nat):0<=zdb.getD i 0/\zdb.getD i 0<=1000000:=by
 by_cases h:i<91
 ·have:∀ i:Fin 91,0<=zdb.getD i.val 0/\zdb.getD i.val 0<=1000000:=by decide +kernel
  exact this ⟨i,h⟩
 ·have:zdb.getD i 0=0:=by
   rw[List.getD_eq_getElem?_getD,List.getElem?_eq_none (show zdb.length<=i from by show 91<=i;omega)];rfl
  rw[this];decide
theorem ysd (a:Int):zge a=zdb.getD a.toNat 0:=rfl
theorem yig (a:Int):zvb a=zgc a:=rfl
theorem y1t (d:Int):zsc zdb d=zqb d:=by
 have hA:=y2l d;show zsc zdb d=yvr d;unfold zsc yvr;rw[yig];generalize hx:zgc d=x at hA;by_cases h:180<=x
 ·rw[decide_eq_true h,cond_true,cond_true]
  have e1:IntKind.wrap .i64 (x-180)=x-180:=by rw[IntKind.wrap_i64];omega
  rw[e1];unfold yaj;rw[y9h (show 0<=x-180 by omega) (by omega)];by_cases h2:90<x-180
  ·rw[decide_eq_true h2,cond_true,cond_true,ysd]
   have:=y5n (IntKind.wrap .i64 (180-(x-180))).toNat;show IntKind.wrap .i64 (-1 * zdb.getD _ 0)=_;generalize zdb.getD (IntKind.wrap .i64 (180-(x-180))).toNat 0=v at this ⊢;rw[show(-1:Int) * v=0-v by omega]
  ·rw[decide_eq_false h2,cond_false,cond_false,ysd]
   show IntKind.wrap .i64 (-1 * zdb.getD _ 0)=_;generalize zdb.getD (x-180).toNat 0=v;rw[show(-1:Int) * v=0-v by omega]
 ·rw[decide_eq_false h,cond_false,cond_false]
  unfold yaj;rw[yig,hx];by_cases h2:90<x
  ·rw[decide_eq_true h2,cond_true,cond_true,ysd]
   have:=y5n (IntKind.wrap .i64 (180-x)).toNat;show IntKind.wrap .i64 (1 * zdb.getD _ 0)=_;generalize zdb.getD (IntKind.wrap .i64 (180-x)).toNat 0=v at this ⊢;rw[IntKind.wrap_i64];omega
  ·rw[decide_eq_false h2,cond_false,cond_false,ysd]
   have:=y5n x.toNat;show IntKind.wrap .i64 (1 * zdb.getD _ 0)=_;generalize zdb.getD x.toNat 0=v at this ⊢;rw[IntKind.wrap_i64];omega
def ywb (a b:Point) (i:Nat):Int:=zwc (i:Int) b a
theorem ywp (a b:Point) {i:Nat} (hi:i<360):IntKind.wrap .i64 ((IntKind.wrap .i64 ((IntKind.wrap .i64 (b.X-a.X)) * (zsc zdb (i:Int))))+(IntKind.wrap .i64 ((IntKind.wrap .i64 (b.Y-a.Y)) * (zsc zdb (IntKind.wrap .i64 ((i:Int)+90))))))=ywb a b i:=by
 rw[y1t,y1t];unfold ywb zwc znc;rw[y9h (a:=(i:Int)) (by omega) (by omega)]
theorem ynh {ρ σ : Type} {b c : Nat -> σ -> Except ρ σ} : ∀ (k i : Nat) (s : σ), (∀ j u, i <= j -> j < i + k -> b j u = c j u) -> yh b k i s = yh c k i s
 | 0,i,s,_=>rfl
 | k+1,i,s,h=>by
  simp only[yh];rw[h i s (Nat.le_refl _) (by omega)]
  cases c i s with
  | error e=>rfl
  | ok t=>exact ynh k (i+1) t fun j u h1 h2=>h j u (by omega) (by omega)
theorem yyc {ρ σ:Type} {b:Nat->σ->Except ρ σ} {i:Nat} {s t:σ} (k:Nat) (h:b i s=.ok t):yh b (k+1) i s=yh b k (i+1) t:=by
 simp only[yh,h]
set_option maxRecDepth 20000 in
theorem ysr {a b:Point} (ha:ptIn a) (hb:ptIn b):zgb a b=zkc a b:=by
 have s0:yof a b 0 (0,0)=.ok (0,ywb a b 0):=by
  unfold yof;rw[ywp a b (by omega)];rfl
 have st:∀ j u,1<=j->j<1+359->yof a b j u=y2c a b j u:=fun j u h1 h2=>by
  unfold yof y2c;rw[ywp a b (by omega),show((j:Int) == 0)=false by rw[beq_eq_false_iff_ne];omega,Bool.false_or];rfl
 have hs:zkc a b=match yh (y2c a b) 359 1 (0,ywb a b 0)with|.error e=>e|.ok s1=>s1.1:=by
  unfold zkc;show(match yh (yof a b) (359+1) 0 (0,0)with|.error e=>e|.ok s1=>s1.1)=_;rw[yyc 359 s0,ynh 359 1 _ st]
 have i0:y2c a b 0 (0,ywb a b 0)=.ok (0,ywb a b 0):=by
  unfold y2c;rw[show decide ((0,ywb a b 0).2<zwc ((0:Nat):Int) b a)=false from decide_eq_false (by show ¬ ywb a b 0<ywb a b 0;omega)];rfl
 unfold zgb;rw[y1i ha hb];simp only[Bool.not_true,Bool.false_or]
 cases hab:(a.X == b.X && a.Y == b.Y)with
 | false=>
  rw[cond_false,hs];show(match yh (y2c a b) (359+1) 0 (0,ywb a b 0)with|.error e=>e|.ok s1=>s1.1)=_;rw[yyc 359 i0]
 | true=>
  rw[cond_true,hs];rw[Bool.and_eq_true,beq_iff_eq,beq_iff_eq]at hab
  have z:∀ i:Nat,ywb a b i=0:=fun i=>by
   unfold ywb zwc;rw[hab.1,hab.2,Int.sub_self,Int.sub_self,show IntKind.wrap .i64 0=0 by decide,Int.zero_mul,Int.zero_mul];decide
  obtain⟨t,h1,h2⟩:=ygc (b:=y2c a b) (fun _ s=>s=(0,0)) (k:=359) (i:=1) (s:=(0,ywb a b 0)) (by rw[z]) (by
   rintro j _ _ _ rfl
   refine⟨(0,0),?_,rfl⟩;unfold y2c;rw[show decide ((0,(0:Int)).2<zwc (j:Int) b a)=false from decide_eq_false (by show ¬ (0:Int)<ywb a b j;rw[z];omega)]
   rfl)
  rw[h1,h2]
theorem y0z {d:Danger} {p:Point} (hd:ptIn d.At) (hp:ptIn p):zkd d p=zhe d p:=by
 unfold zkd zhe;rw[ysr hd hp];generalize zkc d.At p=x;have e:zzd x=zf x 0 359:=rfl;unfold zre zxe zmf;rw[e]
 cases zf x 0 359 with
 | false=>rfl
 | true=>
  simp only[Bool.not_true,cond_false]
  cases(decide (315<=x) || decide (x<45))with
  | true=>rfl
  | false=>
   cases decide (x<135)with
   | true=>rfl
   | false=>cases decide (x<225)<;>rfl
set_option maxRecDepth 20000 in
theorem ynq {d:Danger} {a:Aid} {w:Int} (hd:ptIn d.At) (ha:ptIn a.At) (hr:1<=d.Radius):zqd d a w=zxf d a w:=by
 unfold zqd zxf;rw[yms hd ha,y0z hd ha];have e:∀ x y z,zi x y z=zf x y z:=fun _ _ _=>rfl
 rw[e,e]
 cases zf a.Mark.Kind 3 6 with
 | false=>rfl
 | true=>
  simp only[Bool.true_and,Bool.not_true,Bool.false_or]
  cases h:(a.At.X == d.At.X && a.At.Y == d.At.Y)with
  | true=>
   rw[cond_true];rw[Bool.and_eq_true,beq_iff_eq,beq_iff_eq]at h;have h0:zzf d.At a.At=0:=by rw[(yat hd ha).1,h.1,h.2,Int.sub_self,Int.sub_self];rfl
   have h1:zag d.At a.At=0:=by
    unfold zag;rw[h0];obtain⟨_,r0,_,r1,_⟩:=yph (n:=0) (by decide);generalize zsd 0=r at r0 r1;rcases Int.lt_or_eq_of_le r0 with h|h
    ·have:=Int.mul_pos h h;omega
    ·exact h.symm
   rw[h1];unfold zf;rw[decide_eq_false (show ¬ d.Radius<=0 by omega)];rfl
  | false=>
   rw[cond_false,Bool.beq_comm (a:=a.Mark.Kind)]
theorem ywm {b:Nat->Unit->Except Bool Unit} {n:Nat} {p:Nat->Bool} {x:Bool} (hb:∀ j u,j<n->b j u=bif p j then .error false else .ok ()) :
  ((match yh b (n-0) 0 ()with|.error e=>e|.ok _=>x)=true)↔(∀ j,j<n->p j=false)/\x=true:=by
 rw[ypd (b:=b) p false (fun j u _ h=>hb j u (by omega))];simp only[Nat.sub_zero,Nat.zero_add]
 cases h:(List.range n).any (fun j=>p j)with
 | true=>
  simp only[cond_true];obtain⟨j,h1,h2⟩:=List.any_eq_true.1 h;constructor
  ·intro h;cases h
  ·rintro⟨h3,_⟩;rw[h3 j (List.mem_range.1 h1)]at h2;cases h2
 | false=>
  simp only[cond_false];rw[List.any_eq_false]at h;exact⟨fun hx=>⟨fun j hj=>by simpa using h j (List.mem_range.2 hj),hx⟩,fun hx=>hx.2⟩
theorem yfr (a:List UInt8):zpc a=true↔a≠[]/\a.length<=10/\∀ j,j<a.length->((97<=(a.getD j 0).toNat/\(a.getD j 0).toNat<=122)\/(j≠0/\48<=(a.getD j 0).toNat/\(a.getD j 0).toNat<=57)):=by
 unfold zpc;refine(ywm (n:=a.length) (p:=fun j=>_) (fun j u _=>by rfl)).trans ?_;simp only[zzb,zhf,Bool.and_eq_true,bne_iff_ne,decide_eq_true_eq];constructor
 ·rintro⟨h1,h2,h3⟩
  refine⟨h2,by omega,fun j hj => ?_⟩;have:=h1 j hj;simp[-List.getD_eq_getElem?_getD]at this
  omega
 ·rintro⟨h2,h3,h1⟩
  refine⟨fun j hj => ?_,h2,by omega⟩;have:=h1 j hj;simp[-List.getD_eq_getElem?_getD]
  omega
theorem ybi (a:List UInt8):zob a=true↔a≠[]/\a.length<=10/\∀ j,j<a.length->((97<=(a.getD j 0).toNat/\(a.getD j 0).toNat<=122)\/(j≠0/\48<=(a.getD j 0).toNat/\(a.getD j 0).toNat<=57)):=by
 unfold zob;by_cases hn:a=[]
 ·subst hn;simp
 by_cases h10:10<a.length
 ·have:((a == []) || decide (10<(a.length:Int)))=true:=by simp;right;omega
  rw[this];simp;omega
 have hp:0<a.length:=by cases a<;>simp_all
 have:((a == []) || decide (10<(a.length:Int)))=false:=by simp;exact⟨hn,by omega⟩
 rw[this];by_cases hs:zxd ((a.getD 0 0).toNat:Int)=true
 ·rw[hs]
  refine(ywm (n:=a.length) (p:=fun j=>_) (fun j u _=>by rfl)).trans ?_;simp only[zxd,Bool.and_eq_true,decide_eq_true_eq]at hs;constructor
  ·rintro⟨h1,_⟩
   refine⟨hn,by omega,fun j hj => ?_⟩;have:=h1 j hj;simp[zxd,zef,-List.getD_eq_getElem?_getD]at this
   by_cases hj0:j=0
   ·subst hj0;omega
   ·omega
  ·rintro⟨_,_,h1⟩
   refine⟨fun j hj => ?_,rfl⟩;have:=h1 j hj;simp[zxd,zef,-List.getD_eq_getElem?_getD]
   omega
 ·have hs':zxd ((a.getD 0 0).toNat:Int)=false:=by simpa using hs
  rw[hs'];simp only[Bool.not_false,Bool.or_true,cond_true];constructor
  ·intro h;cases h
  ·rintro⟨_,_,h1⟩
   have:=h1 0 hp;exfalso;apply hs;simp[zxd,-List.getD_eq_getElem?_getD]
   simp[-List.getD_eq_getElem?_getD]at this
   omega
theorem y8n (a:List UInt8):zpc a=zob a:=Bool.eq_iff_iff.2 ((yfr a).trans (ybi a).symm)
theorem ysl {ρ σ τ:Type} {b1:Nat->σ->Except ρ σ} {b2:Nat->τ->Except ρ τ} (R:Nat->σ->τ->Prop):∀ {k i:Nat} {s:σ} {t:τ},R i s t ->
  (∀ j u v,i<=j->j<i+k->R j u v->(∃ r,b1 j u=.error r/\b2 j v=.error r)\/∃ u' v',b1 j u=.ok u'/\b2 j v=.ok v'/\R (j+1) u' v') ->
  (∃ r,yh b1 k i s=.error r/\yh b2 k i t=.error r)\/∃ u v,yh b1 k i s=.ok u/\yh b2 k i t=.ok v/\R (i+k) u v
 | 0,i,s,t,h,_=>.inr ⟨s,t,rfl,rfl,h⟩
 | k+1,i,s,t,h,hb=>by
  simp only[yh];rcases hb i s t (Nat.le_refl _) (by omega) h with⟨r,h1,h2⟩|⟨u,v,h1,h2,h3⟩
  ·rw[h1,h2];exact .inl ⟨r,rfl,rfl⟩
  ·rw[h1,h2]
   have:=ysl R (k:=k) (i:=i+1) h3 (fun j u v q1 q2 q3=>hb j u v (by omega) (by omega) q3);rwa [show i+1+k=i+(k+1)by omega]at this
theorem yif {α σ ρ : Type} (p : α -> Bool) (f : σ -> α -> σ) (r : ρ) : ∀ (l : List α) (s : σ), y5h (fun x s => (bif !(p x) then .error r else .ok (f s x) : Except ρ σ)) l s = bif l.all p then .ok (l.foldl f s) else .error r
 | [],s=>by simp[y5h]
 | x::l,s=>by
  rw[yke]
  cases hx:p x with
  | false=>simp[hx]
  | true=>
   simp only[Bool.not_true,cond_false,List.all_cons,hx,Bool.true_and,List.foldl_cons];exact yif p f r l (f s x)
def yqr (g:List Int):Prop:=g.length<=4/\(∀ v∈g,1<=v/\v<=9)/\g.sum<=12/\g≠[1]
theorem yie (g:List Int):g.all (fun v=>zi v 1 9)=true↔∀ v∈g,1<=v/\v<=9:=by
 rw[List.all_eq_true];exact⟨fun h v hv=>by simpa [zi]using h v hv,fun h v hv=>by simpa [zi]using h v hv⟩
theorem wsum (g:List Int) (h:g.length<=4) (hv:∀ v∈g,1<=v/\v<=9):g.foldl (fun s x=>IntKind.wrap .i64 (s+x)) 0=g.sum:=by
 have hw:∀ n:Int,-1000<=n->n<=1000->IntKind.wrap .i64 n=n:=fun n _ _=>by rw[IntKind.wrap_i64];omega
 match g,h,hv with
 | [],_,_=>rfl
 | [a],_,hv=>
  have:=hv a (by simp);simp only[List.foldl_cons,List.foldl_nil,List.sum_cons,List.sum_nil];rw[hw _ (by omega) (by omega)];omega
 | [a,b],_,hv=>
  have:=hv a (by simp);have:=hv b (by simp);simp only[List.foldl_cons,List.foldl_nil,List.sum_cons,List.sum_nil];rw[hw (0+a) (by omega) (by omega),hw _ (by omega) (by omega)];omega
 | [a,b,c],_,hv=>
  have:=hv a (by simp);have:=hv b (by simp);have:=hv c (by simp);simp only[List.foldl_cons,List.foldl_nil,List.sum_cons,List.sum_nil];rw[hw (0+a) (by omega) (by omega),hw (0+a+b) (by omega) (by omega),hw _ (by omega) (by omega)];omega
 | [a,b,c,d],_,hv=>
  have:=hv a (by simp);have:=hv b (by simp);have:=hv c (by simp);have:=hv d (by simp);simp only[List.foldl_cons,List.foldl_nil,List.sum_cons,List.sum_nil];rw[hw (0+a) (by omega) (by omega),hw (0+a+b) (by omega) (by omega),hw (0+a+b+c) (by omega) (by omega),hw _ (by omega) (by omega)];omega
theorem ya0 (x y:Int):(x != y) = !decide (x=y):=by by_cases h:x=y<;>simp[h]
theorem ytf (a b:List Int):zdc a b=decide (a=b):=by
 unfold zdc;by_cases hl:a.length=b.length
 ·have h1:((a.length:Int) != (b.length:Int))=false:=by rw[hl];simp
  rw[h1];simp only[cond_false]
  rw[ypd (b:=yck a b) (fun j => !decide (a.getD j default=b.getD j default)) false (fun j u _ _=>by
   simp only[yck,ya0])]
  simp only[Nat.sub_zero,Nat.zero_add];rw[yqy a b hl];by_cases h:a=b<;>simp[h]
 ·have h1:((a.length:Int) != (b.length:Int))=true:=by simp;omega
  rw[h1];have:¬ a=b:=fun h=>hl (by rw[h])
  simp[this]
theorem yci (g:List Int):zxc g=true↔yqr g:=by
 unfold zxc;rw[y1c (b:=ysm g) (fun(x:Int) (s:Int)=>(bif !(zi x 1 9)then .error false else .ok (IntKind.wrap .i64 (s+x)):Except Bool Int)) g 0 (fun j u _=>rfl),yif (fun x=>zi x 1 9) (fun s x=>IntKind.wrap .i64 (s+x)) false];unfold yqr
 cases ha:g.all (fun x=>zi x 1 9)with
 | false=>
  simp only[cond_false];constructor
  ·intro h;cases h
  ·rintro⟨_,h,_⟩
   rw[(yie g).2 h]at ha;cases ha
 | true=>
  have hv:=(yie g).1 ha;simp only[cond_true,ytf,zzb,Bool.and_eq_true,decide_eq_true_eq,Bool.not_eq_true',decide_eq_false_iff_not];constructor
  ·rintro⟨⟨h1,h2⟩,h3⟩
   rw[wsum g (by omega) hv]at h2;exact⟨by omega,hv,h2,h3⟩
  ·rintro⟨h1,_,h2,h3⟩
   rw[wsum g h1 hv];exact⟨⟨by omega,h2⟩,h3⟩
theorem y3d (g:List Int):zlb g=true↔yqr g:=by
 unfold zlb;rw[y1c (b:=yan g) (fun(x:Int) (s:Unit)=>(bif !(zi x 1 9)then .error false else .ok ():Except Bool Unit)) g () (fun j u _=>rfl),yif (fun x=>zi x 1 9) (fun(s:Unit) x=>()) false];unfold yqr
 cases ha:g.all (fun x=>zi x 1 9)with
 | false=>
  simp only[cond_false];constructor
  ·intro h;cases h
  ·rintro⟨_,h,_⟩
   rw[(yie g).2 h]at ha;cases ha
 | true=>
  have hv:=(yie g).1 ha
  have hsum:g.length<=4->(ztd g<=12↔g.sum<=12):=by
   intro h4;unfold ztd
   cases g with
   | nil=>simp
   | cons x t=>
    have h0:(((x::t).length:Int) == 0)=false:=by rw[beq_eq_false_iff_ne];simp only[List.length_cons];omega
    rw[h0];simp only[cond_false];rw[y1c (b:=yym (x::t)) (fun(y:Int) (s:Int)=>(bif !((fun _=>true) y)then .error 0 else .ok (IntKind.wrap .i64 (s+y)):Except Int Int)) (x::t) 0 (fun j u _=>rfl),yif (fun _=>true) (fun s x=>IntKind.wrap .i64 (s+x)) 0];rw[show(x::t).all (fun _=>true)=true by simp];simp only[cond_true];rw[wsum _ h4 hv]
  have hone:(!(((g.length:Int) == 1) && (g.getD 0 default == 1)))=true↔g≠[1]:=by
   match g with
   | []=>simp
   | [a]=>simp
   | a::b::t=>
    have:((((a::b::t).length:Int)) == 1)=false:=by rw[beq_eq_false_iff_ne];simp only[List.length_cons];omega
    rw[this];simp
  simp only[cond_true];rw[Bool.and_eq_true,Bool.and_eq_true,hone,decide_eq_true_eq,decide_eq_true_eq];constructor
  ·rintro⟨⟨h1,h2⟩,h3⟩
   exact⟨by omega,hv,(hsum (by omega)).1 h3,h2⟩
  ·rintro⟨h1,_,h2,h3⟩
   exact⟨⟨by omega,h3⟩,(hsum h1).2 h2⟩
set_option maxRecDepth 10000 in
theorem y3x:∀ n:Fin 256,zie (n.val:Int)=zyd [87,82,71,89] (n.val:Int)+1 /\ -1<=zyd [87,82,71,89] (n.val:Int):=by decide
theorem ynz (b:UInt8):zie (b.toNat:Int)=zyd [87,82,71,89] (b.toNat:Int)+1 /\ -1<=zyd [87,82,71,89] (b.toNat:Int):=
 y3x ⟨b.toNat,b.toNat_lt⟩
theorem yst (s:List UInt8) (hl:s.length<9223372036854775808):zqc s=zpb s:=by
 unfold zqc zpb
 have hs:=ysl (b1:=ybk s) (b2:=yuj s) (fun i (x:Int) (_:Unit)=>if i=0 then x = -1 else x+1=zie ((s.getD (i-1) 0).toNat:Int)/\0<=x) (k:=s.length-0) (i:=0) (s := -1) (t:=()) (by simp) (by
  intro j x u _ hj h;unfold ybk yuj;obtain⟨r1,r2⟩:=ynz (s.getD j 0);rw[r1];generalize zyd [87,82,71,89] ((s.getD j 0).toNat:Int)=p at *;by_cases h0:j=0
  ·subst h0
   rw[if_pos rfl]at h;subst h;simp only[Int.natCast_zero,show decide ((0:Int)<0)=false from rfl,Bool.false_and,Bool.or_false];by_cases hp:p = -1
   ·subst hp;left;exact⟨false,rfl,rfl⟩
   ·right
    have d1:decide (p <= -1)=false:=decide_eq_false (by omega);have d2:(p+1 == 0)=false:=by rw[beq_eq_false_iff_ne];omega
    rw[d1,d2];exact⟨p,(),rfl,rfl,by rw[if_neg (by omega)];exact⟨r1.symm,by omega⟩⟩
  ·rw[if_neg h0]at h
   obtain⟨h1,h2⟩:=h;have d3:decide (0<(j:Int))=true:=decide_eq_true (by omega);have hw:(IntKind.wrap .i64 ((j:Int)-1)).toNat=j-1:=by rw[IntKind.wrap_i64];omega
   rw[d3,hw, <- h1];simp only[Bool.true_and];by_cases hp:p<=x
   ·left
    have d1:decide (p<=x)=true:=decide_eq_true hp
    have d2:(p+1 == 0 || decide (p+1<=x+1))=true:=by
     rw[Bool.or_eq_true,decide_eq_true_eq];right;omega
    rw[d1,d2];exact⟨false,rfl,rfl⟩
   ·right
    have d1:decide (p<=x)=false:=decide_eq_false hp
    have d2:(p+1 == 0 || decide (p+1<=x+1))=false:=by
     rw[Bool.or_eq_false_iff,beq_eq_false_iff_ne,decide_eq_false_iff_not];omega
    rw[d1,d2]
    exact⟨p,(),rfl,rfl,by rw[if_neg (by omega)];exact⟨by rw[show j+1-1=j by omega];exact r1.symm,by omega⟩⟩)
 rcases hs with⟨r,h1,h2⟩|⟨u,v,h1,h2,_⟩
 ·rw[h1,h2]
 ·rw[h1,h2]
  simp only[zi]
theorem yzs {g:List Int} (h:g.length=1) (lo hi:Int) (hr:lo<=g.getD 0 default/\g.getD 0 default<=hi):∀ v∈g,lo<=v/\v<=hi:=by
 obtain⟨x,rfl⟩:=List.length_eq_one_iff.1 h;intro v hv;rw[List.mem_singleton]at hv;subst hv;simpa using hr
theorem y4e {g:List Int} (h:(g.length:Int)=0):g.length<=4/\∀ v∈g,1<=v/\v<=9:=by
 have:g=[]:=List.length_eq_zero_iff.1 (by omega);subst this;simp
theorem y8p (a:Character) (h:zoc a=true):a.Group.length<=4/\∀ v∈a.Group,1<=v/\v<=9:=by
  unfold zoc at h;simp only[Bool.cond_eq_ite]at h;repeat' split at h
  all_goals (try simp only[Bool.and_eq_true,Bool.or_eq_true,beq_iff_eq,ytf,decide_eq_true_eq,zi]at h)
  all_goals first
    | exact y4e h.1
    | exact y4e h.2
    | (have:=(yci _).1 h.2;exact⟨this.1,this.2.1⟩)
    | (rcases h with h | h
       . exact y4e h
       . exact⟨by omega,fun v hv=>by have:=yzs (g:=a.Group) (by omega) 2 9 h.2 v hv;omega⟩)
    | (rw[h.2];simp)
    | (cases h)
theorem ybu (a:Character) (h:zyc a=true):a.Group.length<=4/\(∀ v∈a.Group,1<=v/\v<=9)/\(a.Kind=8->a.Letter.length=1/\65<=(a.Letter.getD 0 0).toNat/\(a.Letter.getD 0 0).toNat<=90):=by
 unfold zyc at h;simp only[Bool.cond_eq_ite]at h;repeat' split at h
 all_goals (try simp only[Bool.and_eq_true,Bool.or_eq_true,beq_iff_eq,decide_eq_true_eq]at *)
 all_goals first
  | (cases h;done)
  | (exact⟨(y4e h.1).1,(y4e h.1).2,by intro h8;omega⟩)
  | (exact⟨by omega,fun v hv=>by have:=yzs (g:=a.Group) (by omega) 6 6 (by omega) v hv;omega,by intro h8;omega⟩)
  | (have:=(y3d _).1 h.2;exact⟨this.1,this.2.1,by intro h8;omega⟩)
  | (exact⟨(y4e h.1.1.1).1,(y4e h.1.1.1).2,fun _=>⟨by omega,by omega,by omega⟩⟩)
def zye (a0:Character):Bool:=
 (bif ((!(zqc a0.Colors)) || (!(zoc a0)))then false else(bif (zrd a0)then(a0.Period == 0)else((zi a0.Period (zaf a0) 600) && ((a0.Kind != 3) || ((a0.Period.tmod 2) == 0)))))
namespace N127
theorem DD:DOk Tryz.prog (Go.Ab.DD [(101,dP D_zi),(177,dP D_zqc),(178,dP D_zoc),(179,dP D_zrd),(180,dP D_zaf)]):=ya yec.e <| ya yww.e <| ya yfx.e <| ya y3q.e <| ya ymw.e <| yb _
theorem dn:type_of% (And.intro @D_zi.eq_1 <| And.intro @D_zqc.eq_1 <| And.intro @D_zoc.eq_1 <| And.intro @D_zrd.eq_1 <| @D_zaf.eq_1):=by and_intros<;>intros<;>rfl
theorem ol:type_of% (@zi.eq_1):=@zi.eq_1
theorem o0 {p:Prop} (h:p:=by(first|(have q9 := ‹(!zqc a0.Colors || !zoc a0)=false›;have h9:=y8p a0 (by simp only[Bool.or_eq_false_iff,Bool.not_eq_false']at q9;exact q9.2);first|exact⟨hb0,h9.1,fun v hv=>(h9.2 v hv).2,fun _ _=>by decide⟩|exact⟨hb0,h9.1,fun v hv=>(h9.2 v hv).2⟩|exact h9.1));first|done|fail):p:=h
theorem den (a0:Character) (hb0:bdCharacter a0):Den Tryz.prog 127 [.agg (ym a0)] (.bool (zye a0)):=by
 generalize hR:zye a0=r;unfold zye at hR;refine di Tryz.func127 Tryz.ntmps127 Tryz.results127 ?_;intro c hL hc hk;obtain⟨hL0,_⟩:=hL;have hw0:bwCharacter a0:=yv a0 hL0;clear hL0;simp only[pars,Nat.zero_add];iterate 2 refine rS ?_
 refine AWP.cond rfl (fun hb => ?_) (fun hb => ?_)
 ·replace hR:=ct hR
  refine rS ?_;refine AWP.ret ?_;subst hR;exact es
 ·replace hR:=cf hR
  refine rS ?_;refine AWP.cond rfl (fun hb => ?_) (fun hb => ?_)
  ·replace hR:=ct hR
   refine rS ?_;refine AWP.ret ?_;subst hR;exact es
  ·replace hR:=cf hR
   refine rD 16 ?_;refine AWP.ret ?_;subst hR;exact es
end N127
def D_zye : DF
 | [x0]=>some (.bool (zye (rdG ye x0)),false,[wG ym ye x0,bdCharacter (rdG ye x0)])
 | _=>none
theorem ykx:OkD Tryz.prog 127 D_zye:=by unfold D_zye;exact dk N127.den
def zic (a0:Character):Bool:=
 (bif (!(zyc a0))then false else(bif (zz a0)then(a0.Period == 0)else(bif ((a0.Kind == 3) && ((a0.Period.tmod 2) != 0))then false else(zf a0.Period (zj a0) 600))))
namespace N120
theorem DD:DOk Tryz.prog (Go.Ab.DD [(169,dP D_zyc),(170,dP D_zz),(171,dP D_zj),(81,dP D_zf)]):=ya yyx.e <| ya ylo.e <| ya yeu.e <| ya yed.e <| yb _
theorem dn:type_of% (And.intro @D_zyc.eq_1 <| And.intro @D_zz.eq_1 <| And.intro @D_zj.eq_1 <| @D_zf.eq_1):=by and_intros<;>intros<;>rfl
theorem ol:type_of% (@zf.eq_1):=@zf.eq_1
theorem o0 {p:Prop} (h:p:=by(first|(have q9 := ‹(!zyc a0)=false›;have h9:=ybu a0 (by simpa using q9);first|exact⟨hb0,h9.1,fun v hv=>(h9.2.1 v hv).2,h9.2.2⟩|exact⟨h9.1,fun v hv=>(h9.2.1 v hv).2,h9.2.2⟩|(and_intros<;>first|exact hb0|exact h9.1|exact fun v hv=>(h9.2.1 v hv).2|exact h9.2.2|decide|(intros;decide))));first|done|fail):p:=h
theorem den (a0:Character) (hb0:bdCharacter a0):Den Tryz.prog 120 [.ep (ym a0)] (.bool (zic a0)):=by
 generalize hR:zic a0=r;unfold zic at hR;refine di Tryz.func120 Tryz.ntmps120 Tryz.results120 ?_;intro c hL hc hk;obtain⟨hL0,_⟩:=hL;have hw0:bwCharacter a0:=yv a0 hL0;clear hL0;simp only[pars,Nat.zero_add];iterate 2 refine rS ?_
 refine AWP.cond rfl (fun hb => ?_) (fun hb => ?_)
 ·replace hR:=ct hR
  refine rS ?_;refine AWP.ret ?_;subst hR;exact es
 ·replace hR:=cf hR
  refine rS ?_;refine AWP.cond rfl (fun hb => ?_) (fun hb => ?_)
  ·replace hR:=ct hR
   refine rS ?_;refine AWP.ret ?_;subst hR;exact es
  ·replace hR:=cf hR
   refine rS ?_;refine AWP.cond rfl (fun hb => ?_) (fun hb => ?_)
   ·replace hR:=ct hR
    refine rS ?_;refine AWP.ret ?_;subst hR;exact es
   ·replace hR:=cf hR
    refine rD 6 ?_;refine AWP.ret ?_;subst hR;exact es
end N120
def D_zic : DF
 | [x0]=>some (.bool (zic (rdP ye x0)),false,[wP ym ye x0,bdCharacter (rdP ye x0)])
 | _=>none
theorem y7u:OkD Tryz.prog 120 D_zic:=by unfold D_zic;exact dk N120.den
theorem yzv (g:List Int):zxc g=zlb g:=Bool.eq_iff_iff.2 ((yci g).trans (y3d g).symm)
theorem y9o (a:List UInt8):(zrb a != [])=decide (a.length=1/\65<=(a.getD 0 0).toNat/\(a.getD 0 0).toNat<=90):=by
 rw[yah];by_cases h:a.length=1/\65<=(a.getD 0 0).toNat/\(a.getD 0 0).toNat<=90
 ·rw[if_pos h,decide_eq_true h]
  have hlt:(a.getD 0 0).toNat-65<y4c.length:=by show _<26;omega
  rw[List.getD_eq_getElem?_getD,List.getElem?_eq_getElem hlt,Option.getD_some];have:=(yvf _ (List.getElem_mem hlt)).1;rw[bne_iff_ne];intro h2;rw[h2]at this;simp at this
 ·rw[if_neg h,decide_eq_false h];rfl
theorem yzu (L:List UInt8) (g:List Int) :
  (bif (L == [])then(((g.length:Int) == 0) || (((g.length:Int) == 1) && (zi (g.getD 0 default) 2 9)))else((L == [76]) && (zdc g [6]))) =
  (bif (L == [76])then(((g.length:Int) == 1) && ((g.getD 0 default) == 6))else(((L == []) && decide ((g.length:Int)<=1)) && (zlb g))):=by
 by_cases h1:L=[]
 ·subst h1
  simp only[show(([]:List UInt8) == [])=true from rfl,show(([]:List UInt8) == [76])=false from rfl,cond_true,cond_false,Bool.true_and];apply Bool.eq_iff_iff.2;rw[Bool.and_eq_true,y3d,decide_eq_true_eq]
  match g with
  | []=>simp[yqr]
  | [x]=>
   have e:((([x]:List Int).length:Int) == 0)=false:=rfl;have e2:((([x]:List Int).length:Int) == 1)=true:=rfl;rw[e,e2];simp only[Bool.false_or,Bool.true_and,zi,Bool.and_eq_true,decide_eq_true_eq,List.getD_cons_zero,yqr,List.length_singleton,List.mem_singleton,forall_eq,List.sum_cons,List.sum_nil,ne_eq,List.cons.injEq,and_true];omega
  | x::y::t=>
   have e:(((x::y::t).length:Int) == 0)=false:=by rw[beq_eq_false_iff_ne];simp only[List.length_cons];omega
   have e2:(((x::y::t).length:Int) == 1)=false:=by rw[beq_eq_false_iff_ne];simp only[List.length_cons];omega
   rw[e,e2];simp only[Bool.false_and,Bool.or_self,Bool.false_eq_true,false_iff,List.length_cons];omega
 ·have e1:(L == [])=false:=by simpa using h1
  rw[e1];by_cases h2:L=[76]
  ·subst h2
   simp only[BEq.rfl,cond_true,cond_false,Bool.true_and,ytf];apply Bool.eq_iff_iff.2;rw[Bool.and_eq_true,decide_eq_true_eq,beq_iff_eq,beq_iff_eq];constructor
   ·intro h;subst h;simp
   ·rintro⟨h3,h4⟩
    obtain⟨x,rfl⟩:=List.length_eq_one_iff.1 (show g.length=1 by omega);simp only[List.getD_cons_zero]at h4;rw[h4]
  ·have e2:(L == [76])=false:=by simpa using h2
   rw[e2];simp
theorem yax (c:Character) (hl:c.Colors.length<9223372036854775808):zyc c=(zqc c.Colors && zoc c):=by
 unfold zyc zoc zff zf;rw[yst _ hl, <- yzu,yzv,y9o]
 cases zpb c.Colors with
 | false=>simp
 | true=>
  simp only[Bool.not_true,Bool.or_false,Bool.true_and];rcases(show c.Kind=1\/c.Kind=2\/c.Kind=3\/c.Kind=4\/c.Kind=5\/c.Kind=6\/c.Kind=7\/c.Kind=8\/(c.Kind<1\/8<c.Kind)by omega)with h|h|h|h|h|h|h|h|h
  ·rw[h];rfl
  ·rw[h];rfl
  ·rw[h];rfl
  ·rw[h];rfl
  ·rw[h];rfl
  ·rw[h];rfl
  ·rw[h];rfl
  ·rw[h]
   show((((((c.Group.length:Int) == 0) && ((c.Letter.length:Int) == 1)) && decide (65<=((c.Letter.getD 0 0).toNat:Int))) && decide (((c.Letter.getD 0 0).toNat:Int)<=90)))=(decide (c.Letter.length=1/\65<=(c.Letter.getD 0 0).toNat/\(c.Letter.getD 0 0).toNat<=90) && ((c.Group.length:Int) == 0))
   apply Bool.eq_iff_iff.2;simp only[Bool.and_eq_true,beq_iff_eq,decide_eq_true_eq];omega
  ·have e0:(decide (1<=c.Kind) && decide (c.Kind<=8))=false:=by
    rw[Bool.and_eq_false_iff,decide_eq_false_iff_not,decide_eq_false_iff_not];omega
   have e:∀ n:Int,1<=n->n<=8->(c.Kind == n)=false:=fun n h1 h2=>by rw[beq_eq_false_iff_ne];omega
   rw[e0,e 1 (by omega) (by omega),e 2 (by omega) (by omega),e 3 (by omega) (by omega),e 4 (by omega) (by omega),e 5 (by omega) (by omega),e 6 (by omega) (by omega),e 7 (by omega) (by omega),e 8 (by omega) (by omega)];rfl
theorem yt0 (l:List Int):zvd l=zbe l:=rfl
theorem ykm (c:Character):zrd c=zz c:=rfl
theorem yot (c:Character) (h:zoc c=true) (h8:c.Kind≠8):(c.Letter != [])=(c.Letter == [76]):=by
 unfold zoc at h;simp only[Bool.cond_eq_ite]at h;have e8:(c.Kind == 8)=false:=by rw[beq_eq_false_iff_ne];exact h8
 repeat' split at h
 all_goals first
  | (rename_i q;rw[e8]at q;cases q;done)
  | (cases h;done)
  | (simp only[Bool.and_eq_true,beq_iff_eq]at h;rw[h.2];rfl)
  | (simp only[Bool.and_eq_true,beq_iff_eq]at h;rw[h.1];rfl)
  | (rename_i q;simp only[beq_iff_eq]at q;rw[q];rfl)
theorem ynu (k:Int) (h:k=2\/k=4\/k=5\/k=6\/k=7\/k=8):(zv k).1=zce k/\(zv k).2.1=zzc k:=by
 rcases h with h|h|h|h|h|h<;>subst h<;>exact⟨rfl,rfl⟩
theorem yby (c:Character) (h:zoc c=true) (hk:c.Kind=2\/c.Kind=4\/c.Kind=5\/c.Kind=6\/c.Kind=7\/c.Kind=8):zu c=zw c:=by
 obtain⟨r1,r2⟩:=ynu c.Kind hk;by_cases h8:c.Kind=8
 ·have hs:(zrb c.Letter != [])=true:=by
   unfold zoc at h;rw[h8]at h;have h:(((zrb c.Letter) != []) && ((c.Group.length:Int) == 0))=true:=h;rw[Bool.and_eq_true]at h;exact h.1
  rw[y9o,decide_eq_true_eq]at hs;have e1:=yah c.Letter;rw[if_pos hs]at e1;have e2:=yui ((c.Letter.getD 0 0).toNat:Int);rw[yuh _ (by omega) (by omega),show((((c.Letter.getD 0 0).toNat:Int)-65).toNat)=(c.Letter.getD 0 0).toNat-65 by omega]at e2;have hd:(default:List UInt8)=[]:=rfl;rw[hd]at e2
  have hall:∀ x∈y4c.getD ((c.Letter.getD 0 0).toNat-65) [],x=45\/x=46:=by
   have hlt:(c.Letter.getD 0 0).toNat-65<y4c.length:=by show _<26;omega
   rw[List.getD_eq_getElem?_getD,List.getElem?_eq_getElem hlt,Option.getD_some];exact(yvf _ (List.getElem_mem hlt)).2.2
  generalize y4c.getD ((c.Letter.getD 0 0).toNat-65) []=code at *
  have hb:yh (yes c) code.length 0 []=yh (yur c) code.length 0 []:=y2j _ _ _ (fun j u _ hj=>by
   unfold yes yur;rw[e1,e2,r1,r2,h8]
   have hg:(code.map (fun c=>if c=46 then(5:Int)else 15)).getD j default=if code.getD j 0=46 then 5 else 15:=by
    rw[List.getD_eq_getElem?_getD,List.getD_eq_getElem?_getD,List.getElem?_map,List.getElem?_eq_getElem (by omega)];rfl
   rw[hg];have hm:=hall (code.getD j 0) (by rw[List.getD_eq_getElem?_getD,List.getElem?_eq_getElem (by omega),Option.getD_some];exact List.getElem_mem _);generalize code.getD j 0=x at hm
   rcases hm with hm|hm<;>subst hm<;>rfl)
  unfold zu zw;rw[h8,e1,e2];simp only[List.length_map,Nat.sub_zero];rw[hb];rfl
 ·have e8:(c.Kind == 8)=false:=by rw[beq_eq_false_iff_ne];exact h8
  unfold zu zw;rw[e8,yot c h h8,r2]
  have b3:ymr c=ycr c:=by
   funext i s j t
   unfold ymr ycr;rw[r1,r2]
  have b5:yhr c=ypr c:=by
   funext i s j t
   unfold yhr ypr;rw[r1,r2]
  have b2:y4r c=ybs c:=by
   funext i s
   unfold y4r ybs;rw[b3];all_goals rfl
  have b4:y5r c=yyr c:=by
   funext i s
   unfold y5r yyr;rw[b5];all_goals rfl
  rw[b2,b4];rfl
theorem y6x (c:Character) (h:zoc c=true) (hs:zrd c=false):zaf c=zj c:=by
 unfold zaf zj;rw[hs, <- ykm,hs];simp only[cond_false];by_cases h3:c.Kind=3
 ·rw[h3];rfl
 ·have e3:(c.Kind == 3)=false:=by rw[beq_eq_false_iff_ne];exact h3
  rw[e3];simp only[cond_false]
  have hk:c.Kind=2\/c.Kind=4\/c.Kind=5\/c.Kind=6\/c.Kind=7\/c.Kind=8:=by
   unfold zoc at h;unfold zrd at hs;simp only[Bool.cond_eq_ite]at h;simp only[Bool.or_eq_false_iff,beq_eq_false_iff_ne]at hs;repeat' split at h
   all_goals (try simp only[beq_iff_eq]at *)
   all_goals first|omega|(cases h;done)
  rw[yby c h hk,yt0];have hg:=(y8p c h).1
  have hone:c.Kind=6\/c.Kind=7\/c.Kind=8->c.Group.length<=1:=by
   intro hq;unfold zoc at h;simp only[Bool.cond_eq_ite]at h;repeat' split at h
   all_goals (try simp only[Bool.and_eq_true,Bool.or_eq_true,beq_iff_eq,ytf,decide_eq_true_eq]at *)
   all_goals first|omega|(rcases h with h|h<;>omega)|(rw[h.2];simp)
  have e1:∀ n:Int,IntKind.wrap .i64 n=n\/True:=fun _=>.inr trivial
  unfold znf;rcases hk with hk|hk|hk|hk|hk|hk
  ·rw[hk]
   cases decide (1<(c.Group.length:Int))<;>rfl
  ·rw[hk]
   cases decide (1<(c.Group.length:Int))<;>rfl
  ·rw[hk]
   cases decide (1<(c.Group.length:Int))<;>rfl
  ·have:=hone (by omega)
   rw[hk,decide_eq_false (show ¬ 1<(c.Group.length:Int)by omega)];rfl
  ·have:=hone (by omega)
   rw[hk,decide_eq_false (show ¬ 1<(c.Group.length:Int)by omega)];rfl
  ·have:=hone (by omega)
   rw[hk,decide_eq_false (show ¬ 1<(c.Group.length:Int)by omega)];rfl
theorem yvv (c:Character) (hl:c.Colors.length<9223372036854775808):zye c=zic c:=by
 unfold zye zic;rw[yax c hl, <- ykm]
 cases h1:zqc c.Colors with
 | false=>rfl
 | true=>
  cases h2:zoc c with
  | false=>rfl
  | true=>
   cases h3:zrd c with
   | true=>rfl
   | false=>
    rw[y6x c h2 h3];simp only[Bool.not_true,Bool.or_self,Bool.and_self,cond_false,zi,zf]
    cases h4:(c.Kind == 3)with
    | false=>
     have:(c.Kind != 3)=true:=by rw[bne,h4];rfl
     rw[this];simp
    | true=>
     have:(c.Kind != 3)=false:=by rw[bne,h4];rfl
     rw[this];simp only[Bool.false_or,Bool.true_and]
     cases h5:(c.Period.tmod 2 == 0)with
     | true=>
      have:(c.Period.tmod 2 != 0)=false:=by rw[bne,h5];rfl
      rw[this];simp
     | false=>
      have:(c.Period.tmod 2 != 0)=true:=by rw[bne,h5];rfl
      rw[this];simp
theorem y0r (c:List UInt8):zbf c=znd c:=by
 unfold zbf znd
 match c with
 | []=>rfl
 | [b]=>
  simp only[List.length_singleton,znb,List.getD_cons_zero,Go.Lib.indexByte];by_cases h1:b=87
  ·subst h1;rfl
  by_cases h2:b=82
  ·subst h2;rfl
  by_cases h3:b=71
  ·subst h3;rfl
  by_cases h4:b=89
  ·subst h4;rfl
  have e:∀ x:UInt8,b≠x->([b] == [x])=false:=by intro x h;simp[h]
  rw[e _ h1,e _ h2,e _ h3,e _ h4];have n1:¬ (87:UInt8)=b:=fun h=>h1 h.symm
  have n2:¬ (82:UInt8)=b:=fun h=>h2 h.symm
  have n3:¬ (71:UInt8)=b:=fun h=>h3 h.symm
  have n4:¬ (89:UInt8)=b:=fun h=>h4 h.symm
  simp[n1,n2,n3,n4]
 | a::b::t=>
  have e:∀ x:UInt8,((a::b::t) == [x])=false:=by intro x;simp
  rw[e,e,e,e];have:(((a::b::t).length:Int) == 1)=false:=by simp;omega
  rw[this];rfl
theorem yht (s:Sector):zcf s=zyb s:=by
 unfold zcf zyb zoe;rw[y0r];rfl
theorem y2z (a:Int):a.tmod 360=if 0<=a then a % 360 else -((-a) % 360):=by
 split
 ·rw[Int.tmod_eq_emod_of_nonneg (by omega)]
 ·have e:a = -(-a):=by omega
  rw[e,Int.neg_tmod,Int.tmod_eq_emod_of_nonneg (by omega)];simp
theorem ynm (a:Int):zae a 360=a % 360:=by
 unfold zae;rw[y2z a]
 have e:IntKind.wrap .i64 ((if 0<=a then a % 360 else -((-a) % 360))+360)=(if 0<=a then a % 360 else -((-a) % 360))+360:=by
  rw[IntKind.wrap_i64];split<;>omega
 rw[e,y2z];split<;>split<;>omega
def brg (n:Int):Prop:=0<=n/\n<=359
theorem w64 {x:Int} (h1 : -9223372036854775808<=x) (h2:x<=9223372036854775807):IntKind.wrap .i64 x=x:=by rw[IntKind.wrap_i64];omega
def y8b (s:Sector):Int:=(s.To-s.From-1) % 360+1
theorem y1q (s:Sector) (h1:brg s.From) (h2:brg s.To):zed s=y8b s:=by
 obtain⟨a1,a2⟩:=h1;obtain⟨b1,b2⟩:=h2;unfold zed y8b;rw[w64 (x:=s.To-s.From) (by omega) (by omega),w64 (x:=s.To-s.From-1) (by omega) (by omega),ynm,w64 (by omega) (by omega)]
theorem ymq (s:Sector) (h1:brg s.From) (h2:brg s.To):zgf s=y8b s:=by
 obtain⟨a1,a2⟩:=h1;obtain⟨b1,b2⟩:=h2;unfold zgf y8b;rw[w64 (x:=s.To-s.From) (by omega) (by omega),w64 (x:=s.To-s.From+360) (by omega) (by omega),y2z,if_pos (by omega)]
 cases hb:((s.To-s.From+360) % 360 == 0)with
 | true=>have:=eq_of_beq hb;simp only[cond_true];omega
 | false=>
  have:(s.To-s.From+360) % 360≠0:=by intro h;rw[h]at hb;exact absurd hb (by decide)
  simp only[cond_false];omega
theorem y0o (s:Sector) (b:Int) (h1:brg s.From) (h2:brg s.To) (h3:brg b):zme s b=decide ((b-s.From) % 360<y8b s):=by
 unfold zme;obtain⟨a1,a2⟩:=h1;obtain⟨c1,c2⟩:=h3;rw[w64 (x:=b-s.From) (by omega) (by omega),ynm,y1q s ⟨a1,a2⟩ h2]
theorem ysf (s:Sector):1<=y8b s/\y8b s<=360:=by unfold y8b;omega
def itR {σ : Type} (g : Nat -> σ -> σ) : Nat -> Nat -> σ -> σ
 | 0,_,s=>s
 | k+1,i,s=>itR g k (i+1) (g i s)
theorem ydf {σ : Type} (g : Nat -> σ -> σ) : ∀ (k i : Nat) (s : σ), itR g (k + 1) i s = g (i + k) (itR g k i s)
 | 0,i,s=>rfl
 | k+1,i,s=>by
  have:=ydf g k (i+1) (g i s);rw[show itR g (k+1+1) i s=itR g (k+1) (i+1) (g i s)from rfl,this,show i+1+k=i+(k+1)by omega];rfl
theorem yhc {ρ σ:Type} {b:Nat->σ->Except ρ σ} (p:Nat->Bool) (g:Nat->σ->σ) (r:ρ):∀ {k i:Nat} {s:σ},(∀ j u,i<=j->j<i+k->b j u=bif p j then .error r else .ok (g j u)) ->
  ((∃ j,i<=j/\j<i+k/\p j=true)/\yh b k i s=.error r)\/((∀ j,i<=j->j<i+k->p j=false)/\yh b k i s=.ok (itR g k i s))
 | 0,i,s,_=>.inr ⟨fun j h1 h2=>by omega,rfl⟩
 | k+1,i,s,hb=>by
  simp only[yh,hb i s (Nat.le_refl _) (by omega)]
  cases hp:p i with
  | true=>exact .inl ⟨⟨i,Nat.le_refl _,by omega,hp⟩,rfl⟩
  | false=>
   simp only[cond_false];rcases yhc p g r (k:=k) (i:=i+1) (s:=g i s) (fun j u h1 h2=>hb j u (by omega) (by omega))with⟨⟨j,h1,h2,h3⟩,h4⟩|⟨h1,h2⟩
   ·exact .inl ⟨⟨j,by omega,by omega,h3⟩,h4⟩
   ·refine .inr ⟨fun j h3 h4 => ?_,h2⟩
    by_cases hji:j=i
    ·subst hji;exact hp
    ·exact h1 j (by omega) (by omega)
theorem y2f {ρ:Type} {b:Int->Except (Sum ρ Int) Int} (q:Nat->Bool) (r:ρ) (n:Nat) (hb:∀ j:Nat,j<=n->b (j:Int)=bif decide (j<n)then(bif q j then .error (.inl r)else .ok ((j+1:Nat):Int))else .error (.inr (j:Int))) :
  ∀ (m i k:Nat),i+m=n->m<k->((∃ j,i<=j/\j<n/\q j=true)/\ymb b k (i:Int)=.error (.inl r))\/((∀ j,i<=j->j<n->q j=false)/\ymb b k (i:Int)=.error (.inr (n:Int)))
 | _,_,0,_,h=>absurd h (Nat.not_lt_zero _)
 | 0,i,k+1,e,_=>by
  have:i=n:=by omega
  subst this;right
  refine⟨fun j h1 h2=>by omega,?_⟩;simp only[ymb,hb i (Nat.le_refl _),Nat.lt_irrefl,decide_false,cond_false]
 | m+1,i,k+1,e,hk=>by
  simp only[ymb,hb i (by omega),show i<n by omega,decide_true,cond_true]
  cases hq:q i with
  | true=>exact .inl ⟨⟨i,Nat.le_refl _,by omega,hq⟩,rfl⟩
  | false=>
   simp only[cond_false];rcases y2f q r n hb m (i+1) k (by omega) (by omega)with⟨⟨j,h1,h2,h3⟩,h4⟩|⟨h1,h2⟩
   ·exact .inl ⟨⟨j,by omega,h2,h3⟩,h4⟩
   ·refine .inr ⟨fun j h3 h4 => ?_,h2⟩
    by_cases hji:j=i
    ·subst hji;exact hq
    ·exact h1 j (by omega) h4
def secQ (a:List Sector) (i:Nat):Bool:=(!(zyb (a.getD i default))) || (decide (0<(i:Int)) && decide (((a.getD i default).From)<=((a.getD ((IntKind.wrap .i64 ((i:Int)-1)).toNat) default).From)))
theorem y0k (a:List Sector) (i:Nat) (hi:i<9223372036854775807):secQ a i=false↔zyb (a.getD i default)=true/\(0<i->(a.getD (i-1) default).From<(a.getD i default).From):=by
 unfold secQ;rw[Bool.or_eq_false_iff,Bool.not_eq_false'];constructor
 ·rintro⟨h1,h2⟩
  refine⟨h1,fun h => ?_⟩;rw[y5m h (by omega)]at h2;simp only[Bool.and_eq_false_iff,decide_eq_false_iff_not]at h2;omega
 ·rintro⟨h1,h2⟩
  refine⟨h1,?_⟩;by_cases h:0<i
  ·rw[y5m h (by omega)]
   have:=h2 h;simp only[Bool.and_eq_false_iff,decide_eq_false_iff_not];omega
  ·simp only[Bool.and_eq_false_iff,decide_eq_false_iff_not];omega
theorem yvn {s:Sector} (h:zyb s=true):brg s.From/\brg s.To:=by
 unfold zyb zoe zf at h;simp only[Bool.and_eq_true,decide_eq_true_eq]at h;exact⟨⟨h.1.1.1,h.1.1.2⟩,h.1.2.1,h.1.2.2⟩
theorem y4t (a : List Sector) (n : Nat) : ∀ k, k <= 1000 -> 0 <= itR (fun i (s : Int) => s + y8b (a.getD i default)) k 0 0 /\ itR (fun i (s : Int) => s + y8b (a.getD i default)) k 0 0 <= 360 * k
 | 0,_=>by simp[itR]
 | k+1,h=>by
  have:=y4t a n k (by omega);rw[ydf];have:=ysf (a.getD (0+k) default);simp only[Nat.zero_add]at *;omega
theorem ykh (a:List Sector) (hl:a.length<9223372036854775807):zec a=zab a:=by
 have sp1:=yhc (b:=ysh a) (secQ a) (fun _ u=>u) false (k:=a.length-0) (i:=0) (s:=()) (fun j u _ _=>by cases u;rfl);let hasK (i:Nat):Bool:=(List.range a.length).any fun k=>((k:Int) != (i:Int)) && zme (a.getD i default) ((a.getD k default).From)
 have im1:=yhc (b:=ynj a) (fun i=>secQ a i || hasK i) (fun i (s:Int)=>IntKind.wrap .i64 (s+zed (a.getD i default))) false (k:=a.length-0) (i:=0) (s:=0) (fun j u _ _=>by
  simp only[ynj,yht];rw[show((!zyb (a.getD j default)) || (decide (0<(j:Int)) && decide (((a.getD j default).From)<=((a.getD ((IntKind.wrap .i64 ((j:Int)-1)).toNat) default).From))))=secQ a j from rfl]
  cases hq:secQ a j with
  | true=>rfl
  | false=>
   simp only[cond_false,Bool.false_or];rw[ypd (b:=yum a j u) (fun k=>((k:Int) != (j:Int)) && zme (a.getD j default) ((a.getD k default).From)) false (fun k v _ _=>rfl)];simp only[Nat.sub_zero,Nat.zero_add];show(match (bif hasK j then Except.error false else Except.ok ())with|.error e=>Except.error e|.ok s2=>Except.ok (IntKind.wrap .i64 (u+zed (a.getD j default))))=bif hasK j then Except.error false else Except.ok (IntKind.wrap .i64 (u+zed (a.getD j default)))
   cases hasK j<;>rfl)
 unfold zec zab;rcases sp1 with⟨⟨j,_,hj,hq⟩,e1⟩|⟨hq,e1⟩
 ·rcases im1 with⟨_,e2⟩|⟨hn,_⟩
  ·rw[e1,e2]
   cases decide (12<(a.length:Int))<;>rfl
  ·have:=hn j (Nat.zero_le _) hj
   simp only[hq,Bool.true_or]at this;cases this
 ·have hq':∀ i,i<a.length->zyb (a.getD i default)=true/\(0<i->(a.getD (i-1) default).From<(a.getD i default).From):=fun i hi=>(y0k a i (by omega)).1 (hq i (Nat.zero_le _) (by omega))
  have hb:∀ i,i<a.length->brg (a.getD i default).From/\brg (a.getD i default).To:=fun i hi=>yvn (hq' i hi).1
  have hs:∀ i,i+1<a.length->(a.getD i default).From<(a.getD (i+1) default).From:=fun i hi=>by have:=(hq' (i+1) hi).2 (by omega);simpa using this
  rw[e1];simp only;have apart:=yzr (f:=fun i=>(a.getD i default).From) (arc:=fun i=>y8b (a.getD i default)) (n:=a.length) (fun i hi=>(hb i hi).1) hs
  -- the reference's second loop
  let q2 (j:Nat):Bool:=decide (1<a.length) && decide ((((a.getD ((j+1) % a.length) default).From-(a.getD j default).From+360) % 360)<y8b (a.getD j default))
  have sp2:=y2f (b:=yrf a ()) q2 false (if 1<a.length then a.length else 0) (fun j hj=>by
   simp only[yrf];by_cases hn:1<a.length
   ·rw[if_pos hn]at hj ⊢
    have d1:decide ((1:Int)<(a.length:Int))=true:=by simp;omega
    rw[d1,Bool.and_true];by_cases hjl:j<a.length
    ·have d2:decide ((j:Int)<(a.length:Int))=true:=by simp;omega
     rw[d2,decide_eq_true hjl];simp only[cond_true];have w1:IntKind.wrap .i64 ((j:Int)+1)=((j+1:Nat):Int):=by rw[IntKind.wrap_i64];omega
     have t1:((IntKind.wrap .i64 ((j:Int)+1)).tmod (a.length:Int)).toNat=(j+1) % a.length:=by
      rw[w1,Int.tmod_eq_emod_of_nonneg (by omega),show((j+1:Nat):Int) % (a.length:Int)=(((j+1) % a.length:Nat):Int)from rfl,Int.toNat_natCast]
     rw[t1,Int.toNat_natCast,ymq _ (hb j hjl).1 (hb j hjl).2,w1];have hm:(j+1) % a.length<a.length:=Nat.mod_lt _ (by omega);have b1:=(hb _ hm).1;have b2:=(hb j hjl).1;obtain⟨c1,c2⟩:=b1;obtain⟨c3,c4⟩:=b2;rw[w64 (x:=(a.getD ((j+1) % a.length) default).From-(a.getD j default).From) (by omega) (by omega),w64 (x:=(a.getD ((j+1) % a.length) default).From-(a.getD j default).From+360) (by omega) (by omega),Int.tmod_eq_emod_of_nonneg (by omega)];show _=bif q2 j then _ else _
     rw[show q2 j=decide ((((a.getD ((j+1) % a.length) default).From-(a.getD j default).From+360) % 360)<y8b (a.getD j default))from by show(decide (1<a.length) && _)=_;rw[decide_eq_true hn,Bool.true_and]]
    ·have d2:decide ((j:Int)<(a.length:Int))=false:=by simp;omega
     rw[d2,decide_eq_false hjl];rfl
   ·rw[if_neg hn]at hj ⊢
    have d1:decide ((1:Int)<(a.length:Int))=false:=by simp;omega
    have d3:decide (j<0)=false:=by simp
    rw[d1,Bool.and_false,d3]
    rfl) (if 1<a.length then a.length else 0) 0 (a.length-(0:Int).toNat+1) (by omega) (by simp;split<;>omega)
  have e0:((0:Nat):Int)=0:=rfl;rw[e0]at sp2
  -- what the program's loop says
  have hask:∀ i,i<a.length->(hasK i=false↔∀ k,k<a.length->k≠i->y8b (a.getD i default)<=((a.getD k default).From-(a.getD i default).From) % 360):=by
   intro i hi;show((List.range a.length).any _)=false↔_;rw[List.any_eq_false];constructor
   ·intro h k hk hki
    have:=h k (List.mem_range.2 hk);rw[y0o _ _ (hb i hi).1 (hb i hi).2 (hb k hk).1]at this;simp only[Bool.and_eq_true,bne_iff_ne,decide_eq_true_eq,not_and]at this;have:=this (by omega);omega
   ·intro h k hk
    have hk:=List.mem_range.1 hk;rw[y0o _ _ (hb i hi).1 (hb i hi).2 (hb k hk).1];simp only[Bool.and_eq_true,bne_iff_ne,decide_eq_true_eq,not_and];intro hki;have:=h k hk (by omega);omega
  rcases im1 with⟨⟨i,_,hi,hc⟩,e2⟩|⟨hn,e2⟩
  · -- two sectors meet
   rw[e2];simp only;have hi:i<a.length:=by omega
   rw[hq i (Nat.zero_le _) (by omega),Bool.false_or]at hc
   have hne:¬ ∀ k,k<a.length->k≠i->y8b (a.getD i default)<=((a.getD k default).From-(a.getD i default).From) % 360:=fun h=>by
    rw[(hask i hi).2 h]at hc;cases hc
   have hno:¬ (1<a.length->∀ i,i<a.length->y8b (a.getD i default)<=((a.getD ((i+1) % a.length) default).From-(a.getD i default).From+360) % 360):=fun h=>hne (fun k hk hki=>apart.2 h i hi k hk hki)
   cases decide (12<(a.length:Int))with
   | true=>rfl
   | false=>
    simp only[cond_false];rcases sp2 with⟨_,e3⟩|⟨h3,_⟩
    ·rw[e3]
    ·exfalso
     apply hno;intro hn1 j hj;have:=h3 j (Nat.zero_le _) (by rw[if_pos hn1];exact hj)
     have:decide ((((a.getD ((j+1) % a.length) default).From-(a.getD j default).From+360) % 360)<y8b (a.getD j default))=false:=by
      have h4:(decide (1<a.length) && _)=false:=this;rwa [decide_eq_true hn1,Bool.true_and]at h4
     have:=of_decide_eq_false this;omega
  ·rw[e2]
   simp only[zzb]
   have hall:∀ i,i<a.length->∀ k,k<a.length->k≠i->y8b (a.getD i default)<=((a.getD k default).From-(a.getD i default).From) % 360:=fun i hi=>(hask i hi).1 (by
    have:=hn i (Nat.zero_le _) (by omega);rw[Bool.or_eq_false_iff]at this
    exact this.2)
   have hcons:=apart.1 hall
   have e3:ymb (yrf a ()) (a.length-(0:Int).toNat+1) 0=.error (.inr ((if 1<a.length then a.length else 0:Nat):Int)):=by
    rcases sp2 with⟨⟨j,_,hj,h4⟩,_⟩|⟨_,e3⟩
    ·exfalso
     have h4:(decide (1<a.length) && decide ((((a.getD ((j+1) % a.length) default).From-(a.getD j default).From+360) % 360)<y8b (a.getD j default)))=true:=h4;rw[Bool.and_eq_true]at h4;have g1:=of_decide_eq_true h4.1;have g2:=of_decide_eq_true h4.2;rw[if_pos g1]at hj;have:=hcons g1 j hj;omega
    ·exact e3
   rw[e3];simp only
   cases h12:decide (12<(a.length:Int))with
   | true=>
    have:=of_decide_eq_true h12;rw[decide_eq_false (show ¬ (a.length:Int)<=12 by omega),Bool.false_and];rfl
   | false=>
    have h12:=of_decide_eq_false h12;rw[decide_eq_true (show(a.length:Int)<=12 by omega),Bool.true_and];simp only[cond_false]
    have hit:∀ k,k<=a.length->itR (fun i (s:Int)=>IntKind.wrap .i64 (s+zed (a.getD i default))) k 0 0=itR (fun i (s:Int)=>s+y8b (a.getD i default)) k 0 0:=by
     intro k
     induction k with
     | zero=>intro _;rfl
     | succ k ih=>
      intro hk;rw[ydf,ydf,ih (by omega)];simp only[Nat.zero_add];have r1:=y4t a 0 k (by omega);rw[y1q _ (hb k (by omega)).1 (hb k (by omega)).2];have r2:=ysf (a.getD k default);exact w64 (by omega) (by omega)
    have hle:=yfw (f:=fun i=>(a.getD i default).From) (arc:=fun i=>y8b (a.getD i default)) (S:=fun k=>itR (fun i (s:Int)=>s+y8b (a.getD i default)) k 0 0) (n:=a.length) (fun i hi=>(hb i hi).1) hs (fun i _=>ysf _) hcons rfl (fun i _=>by
     show itR _ (i+1) 0 0=_;rw[ydf]
     simp only[Nat.zero_add])
    rw[hit _ (by omega)];exact decide_eq_true (by simpa using hle)
end Go.Ab
