/- A part of a proof: walks of functions and lemmas of our own. No conditions. -/
import Derived.Test.YtcaopagmcldjmaaGreatDoorAAl
import Derived.Test.YtcaopagmcldjmaaGreatDoorAAm
import Derived.Test.YtcaopagmcldjmaaGreatDoorAAn
import Derived.Test.YtcaopagmcldjmaaGreatDoorAAg
import Derived.ProofKit
import Derived.Test.YtcaopagmcldjmaaGreatDoorAAi
import Derived.Test.YtcaopagmcldjmaaGreatDoorAAj
import Derived.Test.YtcaopagmcldjmaaGreatDoorRows
set_option linter.unusedSectionVars false
set_option linter.unusedVariables false
set_option linter.unusedSimpArgs false
set_option maxHeartbeats 1000000
namespace Go.Ab
open Go Go.Proofs
def zne (a0:(List UInt8)) (a1:Int):(List UInt8):=Go.Lib.repeatL a0 a1.toNat
theorem y44 (a0:(List UInt8)) (a1:Int) (hp0:0<=a1) (hp1:a1<=9223372036854775807) (hp2:a0.length * a1.toNat<=140737488355328):Den Tryz.prog 56 [.str a0,.int .i64 a1] (.str (zne a0 a1)):=by
 obtain⟨c,rfl⟩:∃ c:Nat,a1=c:=⟨a1.toNat,by omega⟩
 refine Den.plain ⟨_,Tryz.func56,rfl,rfl⟩ (by simp[NoOwnL,NoOwn]) ?_;intro w M vs hI hr;simp only[RepL]at hr;obtain⟨u0,us0,f0,g0,rfl,h0e,h0,u1,us1,f1,g1,rfl,h1e,h1,rfl,_⟩:=hr;have e0:=h0.val_str;have e1:=h1.val_int;subst e0 e1;have hsz:(⟨a0.toArray⟩:ByteArray).size=a0.length:=by simp[ByteArray.size]
 refine(Any.strings_Repeat Tryz.lays105 Tryz.Builder_Extra_105 ⟨a0.toArray⟩ c w (by omega) (by rw[hsz];simpa using hp2)).mono ?_;rintro e w' ⟨rfl,hB⟩
 exact⟨_,rfl,yif hB,fun M'=>ywb _ (by unfold zne;rw[yxk];simp only[Int.toNat_natCast]at hp2;unfold maxLen;show a0.length * c<=_;omega)⟩
def D_zne : DF
 | [x0,x1]=>some (.str (zne (rdS x0) (rdI x1)),false,[wS x0,wI .i64 x1,0<=(rdI x1),(rdI x1)<=9223372036854775807,(rdS x0).length * (rdI x1).toNat<=140737488355328])
 | _=>none
theorem y11:OkD Tryz.prog 56 D_zne:=by
 intro xs r z ob h ho;unfold D_zne at h;split at h
 ·simp only[Option.some.injEq,Prod.mk.injEq]at h
  obtain⟨rfl,rfl,rfl⟩:=h;obtain⟨h0,h1,hp0,hp1,hp2,_⟩:=ho;exact Den.sim (y44 _ _ hp0 hp1 hp2) (yh (ycb h0).1 <| yh (yue h1).1 <| trivial) (yw (ycb h0).2 <| yw (yue h1).2 <| rfl) rfl
 ·cases h
theorem yvs (a:List UInt8) (c:Int):(zne a c).length=a.length * c.toNat:=by
 unfold zne;rw[yxk]
end Go.Ab
namespace Go.Ab
open Go
theorem ysq {ρ σ:Type} {body:σ->Except ρ σ} {I:σ->Prop} {Q:ρ->Prop} (hi:∀ s,I s->match body s with|.error r=>Q r|.ok t=>I t) :
  ∀ (k:Nat) (s:σ),I s->match yeb body k s with|.error r=>Q r|.ok t=>I t
 | 0,s,h=>by simpa [yeb]using h
 | k+1,s,h=>by
  have:=hi s h;simp only[yeb]
  cases hb:body s with
  | error r=>simp only[hb]at this ⊢;exact this
  | ok t=>simp only[hb]at this ⊢;exact ysq hi k t this
end Go.Ab
namespace Go.Ab
open Go Go.Proofs
def zi (a0:(List UInt8)) (a1:(List UInt8)):((List UInt8)×Bool):=(Go.Lib.trimSuffix a0 a1,Go.Lib.hasSuffix a0 a1)
theorem yp7 (a0:(List UInt8)) (a1:(List UInt8)) (hp0:a0.length<=1048576):Den Tryz.prog 154 [.str a0,.str a1] (.tup [.str ((zi a0 a1).1),.bool ((zi a0 a1).2)]):=by
 refine Den.plain ⟨_,Tryz.func154,rfl,rfl⟩ (by simp[NoOwnL,NoOwn]) ?_;intro w M vs hI hr;simp only[RepL]at hr;obtain⟨u0,us0,f0,g0,rfl,h0e,h0,u1,us1,f1,g1,rfl,h1e,h1,rfl,_⟩:=hr;have e0:=h0.val_str;have e1:=h1.val_str;subst e0 e1;refine(Any.strings_CutSuffix Tryz.lays104 ⟨a0.toArray⟩ ⟨a1.toArray⟩ w (by show a0.length<=_;omega)).mono ?_;rintro e w' ⟨rfl,rfl⟩
 exact⟨_,rfl,Grow.refl _,fun M'=>y85 (ywb _ (by have:=yzc a0 a1;show(Go.Lib.trimSuffix a0 a1).length<=maxLen;unfold maxLen;omega)) (yfc _)⟩
def D_zi : DF
 | [x0,x1]=>some (.tup [.str ((zi (rdS x0) (rdS x1)).1),.bool ((zi (rdS x0) (rdS x1)).2)],false,[wS x0,wS x1,(rdS x0).length<=1048576])
 | _=>none
theorem yj5:OkD Tryz.prog 154 D_zi:=by
 intro xs r z ob h ho;unfold D_zi at h;split at h
 ·simp only[Option.some.injEq,Prod.mk.injEq]at h
  obtain⟨rfl,rfl,rfl⟩:=h;obtain⟨h0,h1,hp0,_⟩:=ho;exact Den.sim (yp7 _ _ hp0) (yh (ycb h0).1 <| yh (ycb h1).1 <| trivial) (yw (ycb h0).2 <| yw (ycb h1).2 <| rfl) rfl
 ·cases h
theorem yco (a b:List UInt8):(zi a b).1.length<=a.length:=yzc a b
theorem yof {ρ σ : Type} {b : Nat -> σ -> Except ρ σ} (I : Nat -> σ -> Prop) : ∀ {k i : Nat} {s t : σ}, yf b k i s = .ok t -> I i s -> (∀ j u v, i <= j -> j < i + k -> I j u -> b j u = .ok v -> I (j + 1) v) -> I (i + k) t
 | 0,i,s,t,h,h0,_=>by simp only[yf,Except.ok.injEq]at h;subst h;exact h0
 | k+1,i,s,t,h,h0,hb=>by
  simp only[yf]at h
  cases hq:b i s with
  | error e=>rw[hq]at h;simp at h
  | ok v=>
   rw[hq]at h;have:=yof I (k:=k) (i:=i+1) h (hb i s v (Nat.le_refl _) (by omega) h0 hq) (fun j u v h1 h2=>hb j u v (by omega) (by omega));rw[show i+1+k=i+(k+1)by omega]at this;exact this
def zud (a0:(List UInt8)) (a1:(List UInt8)):(List UInt8):=Go.Lib.trimSuffix a0 a1
theorem y45 (a0:(List UInt8)) (a1:(List UInt8)) (hp0:a0.length<=1048576):Den Tryz.prog 111 [.str a0,.str a1] (.str (zud a0 a1)):=by
 refine Den.plain ⟨_,Tryz.func111,rfl,rfl⟩ (by simp[NoOwnL,NoOwn]) ?_;intro w M vs hI hr;simp only[RepL]at hr;obtain⟨u0,us0,f0,g0,rfl,h0e,h0,u1,us1,f1,g1,rfl,h1e,h1,rfl,_⟩:=hr;have e0:=h0.val_str;have e1:=h1.val_str;subst e0 e1;refine(Any.strings_TrimSuffix Tryz.lays102 ⟨a0.toArray⟩ ⟨a1.toArray⟩ w (by show a0.length<=_;omega)).mono ?_;rintro e w' ⟨rfl,rfl⟩
 exact⟨_,rfl,Grow.refl _,fun M'=>ywb _ (by have:=yzc a0 a1;show(Go.Lib.trimSuffix a0 a1).length<=maxLen;unfold maxLen;omega)⟩
def D_zud : DF
 | [x0,x1]=>some (.str (zud (rdS x0) (rdS x1)),false,[wS x0,wS x1,(rdS x0).length<=1048576])
 | _=>none
theorem yc2:OkD Tryz.prog 111 D_zud:=by
 intro xs r z ob h ho;unfold D_zud at h;split at h
 ·simp only[Option.some.injEq,Prod.mk.injEq]at h
  obtain⟨rfl,rfl,rfl⟩:=h;obtain⟨h0,h1,hp0,_⟩:=ho;exact Den.sim (y45 _ _ hp0) (yh (ycb h0).1 <| yh (ycb h1).1 <| trivial) (yw (ycb h0).2 <| yw (ycb h1).2 <| rfl) rfl
 ·cases h
theorem yqy (a b:List UInt8):(zud a b).length<=a.length:=yzc a b
end Go.Ab
namespace Go.Ab
open Go
structure RdOk {α:Type} (V:α->Prop) (T:α->List UInt8) (z:α) (f:List UInt8->α×Bool) (N:Nat):Prop where
 r1:∀ p,V p->(T p).length<=N->f (T p)=(p,true)
 r2:∀ a:List UInt8,a.length<=N->(f a).2=true->V (f a).1/\a=T (f a).1
 r3:∀ a:List UInt8,a.length<=N->(f a).2=false->(f a).1=z
theorem RdOk.of {α:Type} {V:α->Prop} {T:α->List UInt8} {z:α} {f:List UInt8->α×Bool} {N:Nat} (r1:∀ p,V p->(T p).length<=N->f (T p)=(p,true)) (inv:∀ a:List UInt8,a.length<=N->f a=(z,false)\/∃ p,f a=(p,true)/\V p/\a=T p):RdOk V T z f N:=
 ⟨r1,fun a h e=>by
  rcases inv a h with h1|⟨p,h1,h2,h3⟩
  ·rw[h1]at e;cases e
  ·rw[h1];exact⟨h2,h3⟩,fun a h e=>by
  rcases inv a h with h1|⟨p,h1,h2,h3⟩
  ·rw[h1]
  ·rw[h1]at e;cases e⟩
theorem yub {α:Type} [Inhabited α] (l:List α) (j:Nat) (hj:j<l.length):l.take j++[l.getD j default]=l.take (j+1):=by
 rw[List.take_succ_eq_append_getElem hj,List.getD_eq_getElem?_getD,List.getElem?_eq_getElem hj];rfl
end Go.Ab
namespace Go.Ab
open Go Go.Proofs
theorem yjd {α:Type} [Inhabited α] {l:List α} {x:α} {j:Nat} (h:j<l.length):(l++[x]).getD j default=l.getD j default:=by
 rw[List.getD_eq_getElem?_getD,List.getD_eq_getElem?_getD,List.getElem?_append_left h]
theorem ytd {α:Type} [Inhabited α] {l:List α} {x:α} {j:Nat} (h:¬ j<l.length) (h2:j<l.length+1):(l++[x]).getD j default=x:=by
 have:j=l.length:=by omega
 subst this;simp
theorem yeh {j n:Nat} (h:j<n):Nat.blt j n=true:=by
 cases hb:Nat.blt j n with
 | true=>rfl
 | false=>rw[<- Bool.not_eq_true,Nat.blt_eq]at hb;exact absurd h hb
theorem y8g {j n:Nat} (h:¬ j<n):Nat.blt j n=false:=by
 cases hb:Nat.blt j n with
 | true=>rw[Nat.blt_eq]at hb;exact absurd hb h
 | false=>rfl
theorem ygz {α:Type} [Inhabited α] (l:List α) (i:Nat) (b:α) (h:i<l.length):(l.set i b).getD i default=b:=by
 rw[List.getD_eq_getElem?_getD,List.getElem?_set_self h];rfl
theorem y8x {α:Type} [Inhabited α] (l:List α) (k i:Nat) (b:α) (h:i≠k):(l.set k b).getD i default=l.getD i default:=by
 rw[List.getD_eq_getElem?_getD,List.getElem?_set_ne (by omega), <- List.getD_eq_getElem?_getD]
def upto (l:List Aid) (n:Int):Nat:=(l.takeWhile (fun x=>decide (x.Number<n))).length
theorem ydy (l:List Aid) (n:Int):upto l n<=l.length:=by unfold upto;exact(List.takeWhile_prefix _).length_le
theorem yax {ρ : Type} (l : List Aid) (n : Int) (hl : l.length < 9223372036854775808) (b : Int -> Except (Sum ρ Int) Int)
  (hb:∀ s,b s=bif (decide (s<(l.length:Int)) && decide ((l.getD s.toNat default).Number<n))then .ok (IntKind.wrap .i64 (s+1))else .error (.inr s)) :
  ∀ (r p:List Aid) (k:Nat),l=p++r->r.length<k->yeb b k (p.length:Int)=.error (.inr ((p.length+upto r n:Nat):Int))
 | _,_,0,_,h=>absurd h (Nat.not_lt_zero _)
 | [],p,k+1,e,_=>by
  subst e;simp only[yeb,hb,List.append_nil,Int.lt_irrefl,decide_false,Bool.false_and,cond_false];simp[upto]
 | x::r,p,k+1,e,hk=>by
  have hg:l.getD ((p.length:Int)).toNat default=x:=by subst e;simp
  have hlt:decide ((p.length:Int)<(l.length:Int))=true:=by subst e;simp;omega
  simp only[yeb,hb,hg,hlt,Bool.true_and]
  cases hx:decide (x.Number<n)with
  | false=>simp[upto,List.takeWhile_cons,hx]
  | true=>
   have hw:IntKind.wrap .i64 ((p.length:Int)+1)=((p++[x]).length:Int):=by
    have:p.length<l.length:=by subst e;simp
    have e2:(p++[x]).length=p.length+1:=by simp
    rw[IntKind.wrap_i64,e2];omega
   simp only[cond_true,hw];rw[yax l n hl b hb r (p++[x]) k (by simp[e]) (by simp at hk;omega)]
   have e3:(p++[x]).length+upto r n=p.length+upto (x::r) n:=by
    simp[upto,List.takeWhile_cons,hx];omega
   rw[e3]
theorem yb7 {α:Type} [Inhabited α] (R:α->α->Prop) (ht:∀ a b c,R a b->R b c->R a c) (l:List α):l.Pairwise R↔∀ j,j+1<l.length->R (l.getD j default) (l.getD (j+1) default):=by
 rw[List.pairwise_iff_getElem];constructor
 ·intro h j hj
  have:=h j (j+1) (by omega) hj (by omega);rw[List.getD_eq_getElem?_getD,List.getD_eq_getElem?_getD,List.getElem?_eq_getElem hj,List.getElem?_eq_getElem (show j<l.length by omega)];exact this
 ·intro h i j hi hj hij
  have h':∀ j (hj:j+1<l.length),R (l[j]'(by omega)) (l[j+1]'hj):=by
   intro j hj;have:=h j hj;rw[List.getD_eq_getElem?_getD,List.getD_eq_getElem?_getD,List.getElem?_eq_getElem hj,List.getElem?_eq_getElem (show j<l.length by omega)]at this;exact this
  obtain⟨d,rfl⟩:∃ d,j=i+1+d:=⟨j-(i+1),by omega⟩
  clear hij
  induction d with
  | zero=>exact h' i hj
  | succ d ih=>exact ht _ _ _ (ih (by omega) h') (h' (i+1+d) hj)
theorem yzr {b:Nat->Unit->Except Bool Unit} (p:Nat->Bool) (n:Nat) (r:Bool) (hb:∀ j u,j<n->b j u=bif p j then .error false else .ok ()) :
  (match yf b (n-0) 0 ()with|.error e=>e|.ok _=>r)=true↔(∀ j,j<n->p j=false)/\r=true:=by
 rw[ydd p false (fun j u _ hj=>hb j u (by omega))];simp only[Nat.sub_zero,Nat.zero_add]
 cases h:(List.range n).any fun j=>p j with
 | true=>
  simp only[cond_true];constructor
  ·intro h;cases h
  ·rintro⟨h1,_⟩
   obtain⟨j,hj,hp⟩:=List.any_eq_true.1 h;rw[h1 j (by simpa using hj)]at hp;cases hp
 | false=>
  simp only[cond_false];constructor
  ·intro hr
   refine⟨fun j hj => ?_,hr⟩
   cases hp:p j with
   | false=>rfl
   | true=>exact absurd (List.any_eq_true.2 ⟨j,List.mem_range.2 hj,hp⟩) (by rw[h];simp)
  ·exact fun h=>h.2
end Go.Ab
namespace Go.Ab
open Go
theorem y7d {ρ σ : Type} {b : σ -> Except ρ σ} (I : σ -> Prop) (Q : ρ -> Prop) (m : σ -> Nat) (h : ∀ s, I s -> (∃ t, b s = .ok t /\ I t /\ m t < m s) \/ ∃ e, b s = .error e /\ Q e) : ∀ (k : Nat) (s : σ), I s -> m s < k -> ∃ e, yeb b k s = .error e /\ Q e
 | 0,s,_,hk=>by omega
 | k+1,s,hI,hk=>by
  rcases h s hI with⟨t,h1,h2,h3⟩|⟨e,h1,h2⟩
  ·obtain⟨e,h4,h5⟩:=y7d I Q m h k t h2 (by omega)
   exact⟨e,by simp only[yeb,h1];exact h4,h5⟩
  ·exact⟨e,by simp only[yeb,h1],h2⟩
end Go.Ab
