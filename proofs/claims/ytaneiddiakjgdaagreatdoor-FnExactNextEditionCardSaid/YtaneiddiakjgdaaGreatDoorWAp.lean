/- A part of a proof: walks of functions and lemmas of our own. No conditions. -/
import Derived.Test.YtaneiddiakjgdaaGreatDoorWAl
import Derived.Test.YtaneiddiakjgdaaGreatDoorWAi
import Derived.Test.YtaneiddiakjgdaaGreatDoorWAm
import Derived.Handy
import Derived.Test.YtaneiddiakjgdaaGreatDoorWAj
import Derived.Test.YtaneiddiakjgdaaGreatDoorRows
set_option linter.unusedSectionVars false
set_option linter.unusedVariables false
set_option linter.unusedSimpArgs false
set_option maxHeartbeats 1000000
namespace Go.Ab
open Go Go.Proofs
def yae {ρ σ α : Type} (f : α → σ → Except ρ σ) : List α → σ → Except ρ σ
  | [],s=>.ok s
  | x :: l, s => match f x s with
    | .error e=>.error e
    | .ok t=>yae f l t
theorem y5h {ρ σ α:Type} [Inhabited α] (l:List α) (b:Nat→σ→Except ρ σ) (f:α→σ→Except ρ σ) (hb:∀ i s,i<l.length→b i s=f (l.getD i default) s) :
  ∀ (r p:List α) (s:σ),l=p++r→yh b r.length p.length s=yae f r s
 | [],p,s,_=>rfl
 | x::r,p,s,e=>by
  have hi:p.length<l.length:=by subst e;simp
  have hg:l.getD p.length default=x:=by subst e;simp
  simp only[List.length_cons,yh,yae]
  rw[hb _ _ hi,hg]
  cases f x s with
  | error e=>rfl
  | ok t=>
   have:=y5h l b f hb r (p++[x]) t (by simp[e])
   simpa using this
theorem yig {ρ σ α:Type} [Inhabited α] (l:List α) (b:Nat→σ→Except ρ σ) (f:α→σ→Except ρ σ) (s:σ) (hb:∀ i s,i<l.length→b i s=f (l.getD i default) s) :
  yh b (l.length-0) 0 s=yae f l s:=y5h l b f hb l [] s rfl
theorem ygf {ρ σ α : Type} (f : α → σ → Except ρ σ) (p : α → Bool) : ∀ (l : List α) (s : σ), yae f (l.filter p) s = yae (fun x s => bif p x then f x s else .ok s) l s
 | [],s=>rfl
 | x::l,s=>by
  cases h:p x with
  | true=>
   rw[List.filter_cons_of_pos h]
   simp only[yae,h,cond_true]
   cases f x s with
   | error e=>rfl
   | ok t=>exact ygf f p l t
  | false=>
   rw[List.filter_cons_of_neg (by simp[h])]
   simp only[yae,h,cond_false]
   exact ygf f p l s
theorem yam {ρ σ α : Type} (I : σ → Prop) (f g : α → σ → Except ρ σ) : ∀ (l : List α) (s : σ), I s → (∀ x, x ∈ l → ∀ s, I s → f x s = g x s ∧ ∀ t, g x s = .ok t → I t) → yae f l s = yae g l s ∧ ∀ t, yae g l s = .ok t → I t
 | [],s,h,_=>⟨rfl,fun t ht=>by simp only[yae,Except.ok.injEq]at ht;subst ht;exact h⟩
 | x::l,s,h,hs=>by
  obtain⟨h1,h2⟩:=hs x (by simp) s h
  simp only[yae]
  rw[h1]
  cases hg:g x s with
  | error e=>exact⟨rfl,fun t ht=>by simp at ht⟩
  | ok t=>exact yam I f g l t (h2 t hg) (fun y hy=>hs y (by simp[hy]))
theorem ynp {ρ α β:Type} [Inhabited α] (l:List α) (b:Nat→List β→Except ρ (List β)) (p:α→Bool) (g:α→β) (hb:∀ i s,i<l.length→b i s=bif p (l.getD i default)then .ok (s++[g (l.getD i default)])else .ok s) :
  yh b (l.length-0) 0 ([]:List β)=.ok ((l.filter p).map g):=by
 rw[yig l b (fun x s=>bif p x then .ok (s++[g x])else .ok s) [] hb]
 have:∀ (r:List α) (s:List β),yae (ρ:=ρ) (fun x s=>bif p x then .ok (s++[g x])else .ok s) r s=.ok (s++(r.filter p).map g):=by
  intro r
  induction r with
  | nil=>intro s;simp[yae]
  | cons x r ih=>
   intro s
   cases h:p x with
   | true=>simp only[yae,h,cond_true];rw[ih];simp[h]
   | false=>simp only[yae,h,cond_false];rw[ih];simp[h]
 simpa using this l []
theorem yjk {ρ : Type} {b b' : Nat → Unit → Except ρ Unit} (ok : Nat → Prop) (hok : ∀ j, b' j () = .ok () → ok j) : ∀ (k i : Nat), (∀ q, q < i → ok q) → (∀ j, i ≤ j → j < i + k → (∀ q, q < j → ok q) → b j () = b' j ()) → yh b k i () = yh b' k i ()
 | 0,i,_,_=>rfl
 | k+1,i,h0,hs=>by
  have h:=hs i (Nat.le_refl _) (by omega) h0
  simp only[yh]
  rw[h]
  cases hb:b' i ()with
  | error e=>rfl
  | ok t=>
   refine yjk ok hok k (i+1) (fun q hq => ?_) (fun j h1 h2 h3=>hs j (by omega) (by omega) h3)
   by_cases hqi:q<i
   ·exact h0 q hqi
   ·have:q=i:=by omega
    subst this;exact hok q hb
theorem y71 {α:Type} [Inhabited α] (R:α→α→Prop) (ht:∀ a b c,R a b→R b c→R a c) (l:List α):l.Pairwise R↔∀ j,j+1<l.length→R (l.getD j default) (l.getD (j+1) default):=by
 rw[List.pairwise_iff_getElem]
 constructor
 ·intro h j hj
  have:=h j (j+1) (by omega) hj (by omega)
  rw[List.getD_eq_getElem?_getD,List.getD_eq_getElem?_getD,List.getElem?_eq_getElem hj,List.getElem?_eq_getElem (show j<l.length by omega)]
  exact this
 ·intro h i j hi hj hij
  have h':∀ j (hj:j+1<l.length),R (l[j]'(by omega)) (l[j+1]'hj):=by
   intro j hj
   have:=h j hj
   rw[List.getD_eq_getElem?_getD,List.getD_eq_getElem?_getD,List.getElem?_eq_getElem hj,List.getElem?_eq_getElem (show j<l.length by omega)]at this
   exact this
  obtain⟨d,rfl⟩:∃ d,j=i+1+d:=⟨j-(i+1),by omega⟩
  clear hij
  induction d with
  | zero=>exact h' i hj
  | succ d ih=>exact ht _ _ _ (ih (by omega) h') (h' (i+1+d) hj)
theorem yil {b:Nat→Unit→Except Bool Unit} (p:Nat→Bool) (n:Nat) (r:Bool) (hb:∀ j u,j<n→b j u=bif p j then .error false else .ok ()) :
  (match yh b (n-0) 0 ()with|.error e=>e|.ok _=>r)=true↔(∀ j,j<n→p j=false)∧r=true:=by
 rw[ykc p false (fun j u _ hj=>hb j u (by omega))]
 simp only[Nat.sub_zero,Nat.zero_add]
 cases h:(List.range n).any fun j=>p j with
 | true=>
  simp only[cond_true]
  constructor
  ·intro h;cases h
  ·rintro⟨h1,_⟩
   obtain⟨j,hj,hp⟩:=List.any_eq_true.1 h
   rw[h1 j (by simpa using hj)]at hp
   cases hp
 | false=>
  simp only[cond_false]
  constructor
  ·intro hr
   refine⟨fun j hj => ?_,hr⟩
   cases hp:p j with
   | false=>rfl
   | true=>exact absurd (List.any_eq_true.2 ⟨j,List.mem_range.2 hj,hp⟩) (by rw[h];simp)
  ·exact fun h=>h.2
end Go.Ab

namespace Go.Ab
open Go Go.Proofs Go.RowKit Go.Lib Go.Shelf
set_option maxHeartbeats 4000000 in
set_option maxRecDepth 100000 in
theorem yn3:yg2 Tryz.prog 218 63 16:=by
 intro w b cap n i j cur A C B hij hjn hA hC hB oB hb hcs hnc hcm hold
 obtain⟨i0,z,ET⟩:=ElT.mk' (tS:=39) (tE:=63) G_ok rfl rfl rfl (by decide)
 obtain⟨u0,inf0,zero0,size0,byt0,zs0,pos0,zone0⟩:=ET
 have mixed:Tryz.prog.follows .mixedOrders=true:=by kernel_rfl
 have hz2:¬ ((i:Int)=(j:Int)):=by omega
 have hcSX:cap≤9223372036854775807:=hcm
 have hic:i≤cap:=by omega
 have hjc:j≤cap:=by omega
 have hin:i≤n:=by omega
 have hnn:i+(n-j)=n-(j-i):=by omega
 have hgA:∀ (k:Nat) (u:Value),A[k]? = some u→cur[k]? = some u:=by
  intro k u hu
  have hj:k<A.length:=(List.getElem?_eq_some_iff.1 hu).1
  rw[hold k (by omega),List.append_assoc,List.getElem?_append_left hj,hu]
 have hgB:∀ (k:Nat) (u:Value),B[k]? = some u→cur[j * 16+k]? = some u:=by
  intro k u hu
  have hj:k<B.length:=(List.getElem?_eq_some_iff.1 hu).1
  rw[hold _ (by omega),List.getElem?_append_right (by simp only[List.length_append];omega),show j * 16+k-(A++C).length=k by simp only[List.length_append];omega,hu]
 obtain⟨src,hsrc⟩:∃ src:Addr,(if cap=j then(⟨b,0,none⟩:Addr)else⟨b,j * 16,none⟩)=src:=⟨_,rfl⟩
 have hsc:∀ (k:Nat) (u:Value),B[k]? = some u→w.drew.cell? (src.add k)=some u:=by
  intro k u hu
  have hj:k<B.length:=(List.getElem?_eq_some_iff.1 hu).1
  rw[← hsrc,if_neg (by omega),Addr.add_lit,cell_of_row w.drew b _ cur 63 (0,0) hb]
  exact hgB k u hu
 obtain⟨cur1,hcur1⟩:∃ cur1,cur1=(putV (i * 16) B cur.toList).toArray:=⟨_,rfl⟩
 have hl1:cur1.size=cap * 16:=by rw[hcur1];simp[yrb,hcs]
 have hap:∀ ty,(Builtin.append_ #[39,39] ty #[.slice (some ⟨b,0,none⟩) i cap,.slice (some src) (n-j) (cap-j)]).run Tryz.prog w.drew=.ok (.slice (some ⟨b,0,none⟩) (n-(j-i)) cap) (w.drew.setRow b cur1):=fun ty=>by
  have h:=run_append_room (P:=Tryz.prog) w.drew 39 ty 63 i0 u0 inf0 b i cap cur hb src (n-j) (cap-j) B (by rw[size0];exact hB) hsc oB (by omega) (by rw[size0];omega)
  rw[size0,y7d (i * 16) B cur.toList (by simp;omega), ← hcur1,hnn]at h
  exact h
 have hr1:(w.drew.setRow b cur1).heap[b]? = some (.cells cur1 63 (0,0)):=setRow_heap w.drew b cur cur1 63 (0,0) hb
 obtain⟨cur2,hcur2⟩:∃ cur2,cur2=(putV ((n-(j-i)) * 16) ((List.range (j-i)).flatMap fun _=>z.cells.toList) cur1.toList).toArray:=⟨_,rfl⟩
 have hcl:∀ ty c,(Builtin.clear_ #[39] ty #[.slice (some ⟨b,(n-(j-i)) * 16,none⟩) (n-(n-(j-i))) c]).run Tryz.prog (w.drew.setRow b cur1)=.ok (.tuple #[]) ((w.drew.setRow b cur1).setRow b cur2):=fun ty c=>by
  rw[show n-(n-(j-i))=j-i by omega,hcur2]
  exact y2t _ 39 ty 63 i0 z u0 inf0 zero0 (by rw[size0];exact zs0) zone0 b _ (j-i) c 63 cur1 hr1 (by rw[size0,hl1];omega) (by omega)
 have hvl:=yte (vs:=fun _=>z.cells.toList) (e:=16) (j-i) (fun _ _=>by simpa using zs0)
 have fin:AppOut w ((w.drew.setRow b cur1).setRow b cur2) 63 16 (n-(j-i)) 0 (some b) (A++B) [] b cap cur2:=by
  refine⟨rfl,rfl,rfl,by simp,?_,setRow_heap _ b cur1 _ 63 (0,0) hr1,by rw[hcur2];simp[yrb,hl1],by omega,hcm,?_,fun j hj=>by omega,.inl rfl⟩
  ·intro k hk hkb
   rw[setRow_other _ b k _ hkb,setRow_other w.drew b k _ hkb];rfl
  ·intro k hk
   rw[hcur2]
   simp only[List.getElem?_toArray,yvb]
   rw[if_neg (by omega),hcur1]
   simp only[yvb]
   by_cases h1:k<i * 16
   ·rw[if_neg (by omega),List.getElem?_append_left (by omega)]
    have:A[k]? = some A[k]:=List.getElem?_eq_getElem (by omega)
    rw[this];simpa using hgA k _ this
   ·rw[if_pos (by simp only[Array.length_toList];omega),List.getElem?_append_right (by omega),hA]
 have hile:i≤j:=by omega
 have hne1:¬ (cap=n-(j-i)):=by omega
 have hle1:n-(j-i)≤n:=by omega
 by_cases hcj:cap=j
 all_goals
  first|rw[if_pos hcj]at hsrc|rw[if_neg hcj]at hsrc
  subst hsrc
  try subst hcj
  clear hold hgA hgB hcs hb hA hC hB oB zero0 byt0 zs0 zone0 size0 hr1 hcur1 hcur2 hl1 hvl hsc hnn
  go_enter Tryz.func218,Tryz.ntmps218
  go_wp2
  go_region_law_o (refine ywp rfl _ _ 39 39 rfl _ _ (by simp[Act.eval,Act.put]<;>omega) (by simp[Act.eval,Act.put]<;>omega) (hap _) ?_)
  go_wp2
  go_ret
  first|exact⟨_,rfl,fin⟩|exact⟨rfl,_,fin⟩
def zgf (a0:(List Aid)) (a1:Int) (a2:Int):List Aid:=a0.take a1.toNat++a0.drop a2.toNat
theorem yr2 (a0:(List Aid)) (a1:Int) (a2:Int) (hp0:0≤a1) (hp1:a1<a2) (hp2:a2≤a0.length):DenM Tryz.prog 218 [ownL 63 16 ygb a0,.int .i64 a1,.int .i64 a2] (ownL 63 16 ygb (zgf a0 a1 a2)) [.any,.any,.any]:=
 yc3 ⟨_,Tryz.func218,rfl,rfl⟩ yn3 (fun v=>by simp[ygb,ownL,NoBorL,NoBor,yp,eSector]) a0 a1 a2 hp0 hp1 hp2
def D_zgf : List AV → Option (AV × List AV × List Prop)
 | [x0,x1,x2]=>some (ownL 63 16 ygb (zgf (rdL dAid x0) (rdI x1) (rdI x2)),[.any,.any,.any],[wO 63 16 ygb dAid x0,wI .i64 x1,wI .i64 x2,0≤(rdI x1),(rdI x1)<(rdI x2),(rdI x2)≤(rdL dAid x0).length])
 | _=>none
theorem yh1:OkM Tryz.prog 218 D_zgf:=by
 intro xs r outs ob h ho
 unfold D_zgf at h
 split at h
 ·simp only[Option.some.injEq,Prod.mk.injEq]at h
  obtain⟨rfl,rfl,rfl⟩:=h
  obtain⟨h0,h1,h2,hp0,hp1,hp2,_⟩:=ho
  exact DenM.sim (yr2 _ _ _ hp0 hp1 hp2) (yy (y4p h0) <| yy (y8h h1).1 <| yy (y8h h2).1 <| trivial)
 ·cases h
end Go.Ab

namespace Go.Ab
open Go Go.Proofs
theorem y03 {α:Type} [Inhabited α] {l:List α} {x:α} {j:Nat} (h:j<l.length):(l++[x]).getD j default=l.getD j default:=by
 rw[List.getD_eq_getElem?_getD,List.getD_eq_getElem?_getD,List.getElem?_append_left h]
theorem yn4 {α:Type} [Inhabited α] {l:List α} {x:α} {j:Nat} (h:¬ j<l.length) (h2:j<l.length+1):(l++[x]).getD j default=x:=by
 have:j=l.length:=by omega
 subst this
 simp
theorem ye3 {j n:Nat} (h:j<n):Nat.blt j n=true:=by
 cases hb:Nat.blt j n with
 | true=>rfl
 | false=>rw[← Bool.not_eq_true,Nat.blt_eq]at hb;exact absurd h hb
theorem yr4 {j n:Nat} (h:¬ j<n):Nat.blt j n=false:=by
 cases hb:Nat.blt j n with
 | true=>rw[Nat.blt_eq]at hb;exact absurd hb h
 | false=>rfl
end Go.Ab

namespace Go.Ab
open Go Go.Proofs
def ywc {T : Type} (step : T → Int → Int × T) : List T → Int → Int × List T
 | [],k=>(k,[])
 | x::xs,k=>((ywc step xs (step x k).1).1,(step x k).2::(ywc step xs (step x k).1).2)
theorem yyg {T : Type} (step : T → Int → Int × T) : ∀ (l : List T) (k : Int), (ywc step l k).2.length = l.length
 | [],_=>rfl
 | x::xs,k=>by simp only[ywc,List.length_cons,yyg step xs]
theorem yqf {ρ T : Type} [Inhabited T] (step : T → Int → Int × T) (b : Nat → Int × List T → Except ρ (Int × List T))
  (hb:∀ i s,b i s=.ok ((step (s.2.getD i default) s.1).1,s.2.set i (step (s.2.getD i default) s.1).2)):∀ (r p:List T) (k:Int),yh b r.length p.length (k,p++r)=.ok ((ywc step r k).1,p++(ywc step r k).2)
 | [],p,k=>by simp only[List.length_nil,yh,ywc]
 | x::r,p,k=>by
  have hg:(p++x::r).getD p.length default=x:=by simp
  have hs:(p++x::r).set p.length (step x k).2=(p++[(step x k).2])++r:=by
   rw[List.set_append_right _ _ (Nat.le_refl _)];simp
  simp only[List.length_cons,yh,hb,hg,hs]
  have:=yqf step b hb r (p++[(step x k).2]) (step x k).1
  rw[List.length_append,List.length_singleton]at this
  rw[this]
  simp only[ywc,List.append_assoc,List.singleton_append]
theorem ylm {T:Type} (step:T→Int→Int×T) (P:T→Prop) (W B:Int) (hW:0≤W) (hs:∀ x k,P x→0≤k→k≤B→k≤(step x k).1∧(step x k).1≤k+W) :
  ∀ (l:List T) (k:Int),(∀ x∈l,P x)→0≤k→k+W * l.length≤B→k≤(ywc step l k).1∧(ywc step l k).1≤k+W * l.length
 | [],k,_,_,_=>by simp[ywc]
 | x::xs,k,hp,h0,hB=>by
  have e:W * ((x::xs).length:Int)=W * (xs.length:Int)+W:=by simp only[List.length_cons];push_cast;rw[Int.mul_add,Int.mul_one]
  rw[e]at hB ⊢
  have hn:0≤W * (xs.length:Int):=Int.mul_nonneg hW (by omega)
  have h1:=hs x k (hp x (by simp)) h0 (by omega)
  have h2:=ylm step P W B hW hs xs (step x k).1 (fun y hy=>hp y (by simp[hy])) (by omega) (by omega)
  simp only[ywc]
  omega
theorem y3f {ρ T : Type} [Inhabited T] (step : T → Int → Int × T) (h : Nat → Int → Except ρ Int) (P : T → Prop) (W B : Int) (hW : 0 ≤ W)
  (hs:∀ x k,P x→0≤k→k≤B→k≤(step x k).1∧(step x k).1≤k+W) :
  ∀ (r:List T) (i:Nat) (k:Int),(∀ x∈r,P x)→0≤k→k+W * r.length≤B →
  (∀ (j:Nat) (x:T) (s:Int),P x→0≤s→s≤B→(ywc step r k).2[j]? = some (step x s).2→h (i+j) s=.ok (step x s).1) →
  yh h r.length i k=.ok (ywc step r k).1
 | [],i,k,_,_,_,_=>by simp only[List.length_nil,yh,ywc]
 | x::r,i,k,hp,h0,hB,hh=>by
  have e:W * ((x::r).length:Int)=W * (r.length:Int)+W:=by simp only[List.length_cons];push_cast;rw[Int.mul_add,Int.mul_one]
  rw[e]at hB
  have hn:0≤W * (r.length:Int):=Int.mul_nonneg hW (by omega)
  have h1:=hs x k (hp x (by simp)) h0 (by omega)
  have h2:=hh 0 x k (hp x (by simp)) h0 (by omega) (by simp[ywc])
  simp only[List.length_cons,yh]
  rw[Nat.add_zero]at h2
  rw[h2]
  simp only[ywc]
  refine y3f step h P W B hW hs r (i+1) (step x k).1 (fun y hy=>hp y (by simp[hy])) (by omega) (by omega) fun j y s hy g0 g1 g2 => ?_
  have:=hh (j+1) y s hy g0 g1 (by simpa [ywc]using g2)
  rwa [show i+(j+1)=i+1+j by omega]at this
end Go.Ab

namespace Go.Ab
open Go Go.Proofs
theorem y7c (x:Int):IntKind.wrap .i64 x≤9223372036854775807:=by rw[IntKind.wrap_i64];omega
theorem y3r {α:Type} [Inhabited α] {l:List α} {i:Nat} {x:α} (h:i<l.length):(l.set i x).getD i default=x:=by
 rw[yff,if_pos ⟨rfl,h⟩]
theorem yao {α:Type} [Inhabited α] {l:List α} {i j:Nat} {x:α} (h:¬ j=i):(l.set i x).getD j default=l.getD j default:=by
 rw[yff,if_neg (fun hh=>h hh.1)]
theorem beqF {i j:Nat} (h:¬ j=i):(j == i)=false∧Nat.beq j i=false:=by
 have:(j == i)=false:=by simp[h]
 refine⟨this,?_⟩
 cases hb:Nat.beq j i with
 | true=>exact absurd (Nat.eq_of_beq_eq_true hb) h
 | false=>rfl
theorem mrg {p:Prop} (h:p:=by(and_intros<;>first|trivial|assumption|omega|exact y7c _|(simp only[List.length_set];omega)|exact hW1.1|exact hW1.2|(simp only[IntKind.wrap_i64];omega));first|done|fail):p:=h
end Go.Ab

namespace Go.Ab
open Go Go.Proofs
theorem digx {k a:Int} {n:Nat} (hW:0≤k∧n≤19∧k * 10 ^ n≤a) (hb:decide (0<k)=true) (ha:a≤9223372036854775807) :
  IntKind.wrap .i64 (k.tdiv 10)=k / 10∧n≤18∧(k / 10) * 10 ^ (n+1)≤a∧k≤9223372036854775807:=by
 obtain⟨h0,h1,h2⟩:=hW
 have h:=of_decide_eq_true hb
 have p1:(1:Int)≤10 ^ n:=by
  have:=Nat.one_le_two_pow (n:=0)
  have h3:0<10 ^ n:=Nat.pow_pos (by omega)
  have h4:((10 ^ n:Nat):Int)=(10:Int) ^ n:=by simp
  omega
 have p2:=Int.mul_le_mul_of_nonneg_left p1 h0
 rw[Int.mul_one]at p2
 have hk:k≤9223372036854775807:=by omega
 refine⟨?_,?_,?_,hk⟩
 ·rw[Int.tdiv_eq_ediv_of_nonneg h0,IntKind.wrap_i64];omega
 ·by_cases hn:n=19
  ·subst hn
   have e:(10:Int) ^ 19=10000000000000000000:=by decide
   rw[e]at h2;omega
  ·omega
 ·have q:=Int.mul_le_mul_of_nonneg_right (Int.ediv_mul_le k (show(10:Int)≠0 by decide)) (show(0:Int)≤10 ^ n by omega)
  have e:(k / 10) * 10 ^ (n+1)=k / 10 * 10 * 10 ^ n:=by rw[Int.pow_succ];ac_rfl
  rw[e];omega
theorem digd {k a:Int} {n:Nat} (hW:0≤k∧n≤19∧k * 10 ^ n≤a) (hb:decide (0<k)=true) (ha:a≤9223372036854775807):(IntKind.wrap .i64 (k.tdiv 10)).toNat<k.toNat:=by
 have h:=of_decide_eq_true hb
 rw[(digx hW hb ha).1];omega
theorem digw {k a:Int} {x l:List UInt8} (hx:x.length=1) (hW:0≤k∧l.length≤19∧k * 10 ^ l.length≤a) (hb:decide (0<k)=true) (ha:a≤9223372036854775807) :
  0≤IntKind.wrap .i64 (k.tdiv 10)∧(x++l).length≤19∧IntKind.wrap .i64 (k.tdiv 10) * 10 ^ (x++l).length≤a:=by
 obtain⟨e1,e2,e3,e4⟩:=digx hW hb ha
 rw[e1,List.length_append,hx,Nat.add_comm 1]
 exact⟨by omega,by omega,e3⟩
end Go.Ab

namespace Go.Ab
open Go Go.Proofs
def y9w (v:Mark):Prop:=v.Colors.length≤1048576∧v.Shape.length≤1048576∧v.Topmark.length≤1048576
theorem yvv (v:Mark) (h:y9w v):bdMark v:=⟨Nat.lt_of_le_of_lt h.1 (by decide),Nat.lt_of_le_of_lt h.2.1 (by decide),Nat.lt_of_le_of_lt h.2.2 (by decide)⟩
def ytg (v:Character):Prop:=v.Group.length≤1048576∧v.Letter.length≤1048576∧v.Colors.length≤1048576
theorem y3k (v:Character) (h:ytg v):bdCharacter v:=⟨Nat.lt_of_le_of_lt h.1 (by decide),Nat.lt_of_le_of_lt h.2.1 (by decide),Nat.lt_of_le_of_lt h.2.2 (by decide)⟩
def yhh (v:Sector):Prop:=v.Color.length≤1048576
theorem y9q (v:Sector) (h:yhh v):bdSector v:=Nat.lt_of_le_of_lt h (by decide)
def ybr (v:Aid):Prop:=v.Name.length≤1048576∧y9w v.Mark∧ytg v.Light∧(v.Sectors.length≤1048576∧∀ y∈v.Sectors,yhh y)
theorem ycs (v:Aid) (h:ybr v):bdAid v:=⟨Nat.lt_of_le_of_lt h.1 (by decide),yvv _ h.2.1,y3k _ h.2.2.1,⟨Nat.lt_of_le_of_lt h.2.2.2.1 (by decide),fun y hy=>y9q _ (h.2.2.2.2 y hy)⟩⟩
def y3g (v:Notice):Prop:=ybr v.Aid
theorem ylg (v:Notice) (h:y3g v):bdNotice v:=ycs _ h
def ysj (v:Edition):Prop:=(v.Aids.length≤1048576∧∀ y∈v.Aids,ybr y)
theorem y3n (v:Edition) (h:ysj v):bdEdition v:=⟨Nat.lt_of_le_of_lt h.1 (by decide),fun y hy=>ycs _ (h.2 y hy)⟩
end Go.Ab

namespace Go.Ab
open Go Go.Proofs Go.Deep Go.ChangeShapes Go.WideShapes Go.ChangeAt Go.RowKit
set_option maxRecDepth 100000
theorem yz4:Rd Tryz.prog 47 ePoint:=by
 intro H enc W base sp hd fuel cs x h
 obtain⟨hl,hf⟩:=yod Tryz.underlying47 h
 have e0:Tryz.prog.cellsOf 47=2:=by kernel_rfl
 rw[e0]at hl
 obtain⟨n0,y0,g0⟩:=hf 0 _ rfl
 have c0:Tryz.prog.cellsOf 2=1:=by kernel_rfl
 obtain⟨v0,r0,o0⟩:=(y3c (k:=.i64) Tryz.underlying2) g0
 replace r0:RepL W (fun _=>False) ([.int .i64 v0]) yk ((cs.drop 0).take (Tryz.prog.cellsOf 2)) []:=r0
 replace o0:∀ u∈(cs.drop 0).take (Tryz.prog.cellsOf 2),u.oneCell'=true:=o0
 rw[c0]at r0 o0
 obtain⟨n1,y1,g1⟩:=hf 1 _ rfl
 have c1:Tryz.prog.cellsOf 2=1:=by kernel_rfl
 obtain⟨v1,r1,o1⟩:=(y3c (k:=.i64) Tryz.underlying2) g1
 replace r1:RepL W (fun _=>False) ([.int .i64 v1]) yk ((cs.drop 1).take (Tryz.prog.cellsOf 2)) []:=r1
 replace o1:∀ u∈(cs.drop 1).take (Tryz.prog.cellsOf 2),u.oneCell'=true:=o1
 rw[c1]at r1 o1
 refine⟨⟨v0,v1⟩,?_,?_⟩
 ·exact yv (o:=0) (k:=1) r0 (yv (o:=1) (k:=1) r1 (yrg (o:=2) (by omega)))
 ·exact yu (o:=0) (k:=1) o0 (yu (o:=1) (k:=1) o1 (yqg (o:=2) (by omega)))
theorem yw4:Rd Tryz.prog 49 eMark:=by
 intro H enc W base sp hd fuel cs x h
 obtain⟨hl,hf⟩:=yod Tryz.underlying49 h
 have e0:Tryz.prog.cellsOf 49=4:=by kernel_rfl
 rw[e0]at hl
 obtain⟨n0,y0,g0⟩:=hf 0 _ rfl
 have c0:Tryz.prog.cellsOf 2=1:=by kernel_rfl
 obtain⟨v0,r0,o0⟩:=(y3c (k:=.i64) Tryz.underlying2) g0
 replace r0:RepL W (fun _=>False) ([.int .i64 v0]) yk ((cs.drop 0).take (Tryz.prog.cellsOf 2)) []:=r0
 replace o0:∀ u∈(cs.drop 0).take (Tryz.prog.cellsOf 2),u.oneCell'=true:=o0
 rw[c0]at r0 o0
 obtain⟨n1,y1,g1⟩:=hf 1 _ rfl
 have c1:Tryz.prog.cellsOf 9=1:=by kernel_rfl
 obtain⟨v1,r1,o1⟩:=(yqk Tryz.underlying9) g1
 replace r1:RepL W (fun _=>False) ([.str v1]) yk ((cs.drop 1).take (Tryz.prog.cellsOf 9)) []:=r1
 replace o1:∀ u∈(cs.drop 1).take (Tryz.prog.cellsOf 9),u.oneCell'=true:=o1
 rw[c1]at r1 o1
 obtain⟨n2,y2,g2⟩:=hf 2 _ rfl
 have c2:Tryz.prog.cellsOf 9=1:=by kernel_rfl
 obtain⟨v2,r2,o2⟩:=(yqk Tryz.underlying9) g2
 replace r2:RepL W (fun _=>False) ([.str v2]) yk ((cs.drop 2).take (Tryz.prog.cellsOf 9)) []:=r2
 replace o2:∀ u∈(cs.drop 2).take (Tryz.prog.cellsOf 9),u.oneCell'=true:=o2
 rw[c2]at r2 o2
 obtain⟨n3,y3,g3⟩:=hf 3 _ rfl
 have c3:Tryz.prog.cellsOf 9=1:=by kernel_rfl
 obtain⟨v3,r3,o3⟩:=(yqk Tryz.underlying9) g3
 replace r3:RepL W (fun _=>False) ([.str v3]) yk ((cs.drop 3).take (Tryz.prog.cellsOf 9)) []:=r3
 replace o3:∀ u∈(cs.drop 3).take (Tryz.prog.cellsOf 9),u.oneCell'=true:=o3
 rw[c3]at r3 o3
 refine⟨⟨v0,v1,v2,v3⟩,?_,?_⟩
 ·exact yv (o:=0) (k:=1) r0 (yv (o:=1) (k:=1) r1 (yv (o:=2) (k:=1) r2 (yv (o:=3) (k:=1) r3 (yrg (o:=4) (by omega)))))
 ·exact yu (o:=0) (k:=1) o0 (yu (o:=1) (k:=1) o1 (yu (o:=2) (k:=1) o2 (yu (o:=3) (k:=1) o3 (yqg (o:=4) (by omega)))))
theorem yv4:Rd Tryz.prog 24 (fun l:List Int=>[encL 1 yp l]):=yxi Tryz.underlying24 (by kernel_rfl) (by decide) (y3c (k:=.i64) Tryz.underlying2)
theorem y04:Rd Tryz.prog 51 eCharacter:=by
 intro H enc W base sp hd fuel cs x h
 obtain⟨hl,hf⟩:=yod Tryz.underlying51 h
 have e0:Tryz.prog.cellsOf 51=5:=by kernel_rfl
 rw[e0]at hl
 obtain⟨n0,y0,g0⟩:=hf 0 _ rfl
 have c0:Tryz.prog.cellsOf 2=1:=by kernel_rfl
 obtain⟨v0,r0,o0⟩:=(y3c (k:=.i64) Tryz.underlying2) g0
 replace r0:RepL W (fun _=>False) ([.int .i64 v0]) yk ((cs.drop 0).take (Tryz.prog.cellsOf 2)) []:=r0
 replace o0:∀ u∈(cs.drop 0).take (Tryz.prog.cellsOf 2),u.oneCell'=true:=o0
 rw[c0]at r0 o0
 obtain⟨n1,y1,g1⟩:=hf 1 _ rfl
 have c1:Tryz.prog.cellsOf 24=1:=by kernel_rfl
 obtain⟨v1,r1,o1⟩:=yv4 g1
 replace r1:RepL W (fun _=>False) ([encL 1 yp v1]) yk ((cs.drop 1).take (Tryz.prog.cellsOf 24)) []:=r1
 replace o1:∀ u∈(cs.drop 1).take (Tryz.prog.cellsOf 24),u.oneCell'=true:=o1
 rw[c1]at r1 o1
 obtain⟨n2,y2,g2⟩:=hf 2 _ rfl
 have c2:Tryz.prog.cellsOf 9=1:=by kernel_rfl
 obtain⟨v2,r2,o2⟩:=(yqk Tryz.underlying9) g2
 replace r2:RepL W (fun _=>False) ([.str v2]) yk ((cs.drop 2).take (Tryz.prog.cellsOf 9)) []:=r2
 replace o2:∀ u∈(cs.drop 2).take (Tryz.prog.cellsOf 9),u.oneCell'=true:=o2
 rw[c2]at r2 o2
 obtain⟨n3,y3,g3⟩:=hf 3 _ rfl
 have c3:Tryz.prog.cellsOf 9=1:=by kernel_rfl
 obtain⟨v3,r3,o3⟩:=(yqk Tryz.underlying9) g3
 replace r3:RepL W (fun _=>False) ([.str v3]) yk ((cs.drop 3).take (Tryz.prog.cellsOf 9)) []:=r3
 replace o3:∀ u∈(cs.drop 3).take (Tryz.prog.cellsOf 9),u.oneCell'=true:=o3
 rw[c3]at r3 o3
 obtain⟨n4,y4,g4⟩:=hf 4 _ rfl
 have c4:Tryz.prog.cellsOf 2=1:=by kernel_rfl
 obtain⟨v4,r4,o4⟩:=(y3c (k:=.i64) Tryz.underlying2) g4
 replace r4:RepL W (fun _=>False) ([.int .i64 v4]) yk ((cs.drop 4).take (Tryz.prog.cellsOf 2)) []:=r4
 replace o4:∀ u∈(cs.drop 4).take (Tryz.prog.cellsOf 2),u.oneCell'=true:=o4
 rw[c4]at r4 o4
 refine⟨⟨v0,v1,v2,v3,v4⟩,?_,?_⟩
 ·exact yv (o:=0) (k:=1) r0 (yv (o:=1) (k:=1) r1 (yv (o:=2) (k:=1) r2 (yv (o:=3) (k:=1) r3 (yv (o:=4) (k:=1) r4 (yrg (o:=5) (by omega))))))
 ·exact yu (o:=0) (k:=1) o0 (yu (o:=1) (k:=1) o1 (yu (o:=2) (k:=1) o2 (yu (o:=3) (k:=1) o3 (yu (o:=4) (k:=1) o4 (yqg (o:=5) (by omega))))))
theorem yi4:Rd Tryz.prog 185 eSector:=by
 intro H enc W base sp hd fuel cs x h
 obtain⟨hl,hf⟩:=yod Tryz.underlying185 h
 have e0:Tryz.prog.cellsOf 185=3:=by kernel_rfl
 rw[e0]at hl
 obtain⟨n0,y0,g0⟩:=hf 0 _ rfl
 have c0:Tryz.prog.cellsOf 2=1:=by kernel_rfl
 obtain⟨v0,r0,o0⟩:=(y3c (k:=.i64) Tryz.underlying2) g0
 replace r0:RepL W (fun _=>False) ([.int .i64 v0]) yk ((cs.drop 0).take (Tryz.prog.cellsOf 2)) []:=r0
 replace o0:∀ u∈(cs.drop 0).take (Tryz.prog.cellsOf 2),u.oneCell'=true:=o0
 rw[c0]at r0 o0
 obtain⟨n1,y1,g1⟩:=hf 1 _ rfl
 have c1:Tryz.prog.cellsOf 2=1:=by kernel_rfl
 obtain⟨v1,r1,o1⟩:=(y3c (k:=.i64) Tryz.underlying2) g1
 replace r1:RepL W (fun _=>False) ([.int .i64 v1]) yk ((cs.drop 1).take (Tryz.prog.cellsOf 2)) []:=r1
 replace o1:∀ u∈(cs.drop 1).take (Tryz.prog.cellsOf 2),u.oneCell'=true:=o1
 rw[c1]at r1 o1
 obtain⟨n2,y2,g2⟩:=hf 2 _ rfl
 have c2:Tryz.prog.cellsOf 9=1:=by kernel_rfl
 obtain⟨v2,r2,o2⟩:=(yqk Tryz.underlying9) g2
 replace r2:RepL W (fun _=>False) ([.str v2]) yk ((cs.drop 2).take (Tryz.prog.cellsOf 9)) []:=r2
 replace o2:∀ u∈(cs.drop 2).take (Tryz.prog.cellsOf 9),u.oneCell'=true:=o2
 rw[c2]at r2 o2
 refine⟨⟨v0,v1,v2⟩,?_,?_⟩
 ·exact yv (o:=0) (k:=1) r0 (yv (o:=1) (k:=1) r1 (yv (o:=2) (k:=1) r2 (yrg (o:=3) (by omega))))
 ·exact yu (o:=0) (k:=1) o0 (yu (o:=1) (k:=1) o1 (yu (o:=2) (k:=1) o2 (yqg (o:=3) (by omega))))
theorem yx4:Rd Tryz.prog 52 (fun l:List Sector=>[encL 3 eSector l]):=yxi Tryz.underlying52 (by kernel_rfl) (by decide) yi4
theorem yy3:Rd Tryz.prog 54 eAid:=by
 intro H enc W base sp hd fuel cs x h
 obtain⟨hl,hf⟩:=yod Tryz.underlying54 h
 have e0:Tryz.prog.cellsOf 54=16:=by kernel_rfl
 rw[e0]at hl
 obtain⟨n0,y0,g0⟩:=hf 0 _ rfl
 have c0:Tryz.prog.cellsOf 2=1:=by kernel_rfl
 obtain⟨v0,r0,o0⟩:=(y3c (k:=.i64) Tryz.underlying2) g0
 replace r0:RepL W (fun _=>False) ([.int .i64 v0]) yk ((cs.drop 0).take (Tryz.prog.cellsOf 2)) []:=r0
 replace o0:∀ u∈(cs.drop 0).take (Tryz.prog.cellsOf 2),u.oneCell'=true:=o0
 rw[c0]at r0 o0
 obtain⟨n1,y1,g1⟩:=hf 1 _ rfl
 have c1:Tryz.prog.cellsOf 9=1:=by kernel_rfl
 obtain⟨v1,r1,o1⟩:=(yqk Tryz.underlying9) g1
 replace r1:RepL W (fun _=>False) ([.str v1]) yk ((cs.drop 1).take (Tryz.prog.cellsOf 9)) []:=r1
 replace o1:∀ u∈(cs.drop 1).take (Tryz.prog.cellsOf 9),u.oneCell'=true:=o1
 rw[c1]at r1 o1
 obtain⟨n2,y2,g2⟩:=hf 2 _ rfl
 have c2:Tryz.prog.cellsOf 47=2:=by kernel_rfl
 obtain⟨v2,r2,o2⟩:=yz4 g2
 replace r2:RepL W (fun _=>False) (ePoint v2) yk ((cs.drop 2).take (Tryz.prog.cellsOf 47)) []:=r2
 replace o2:∀ u∈(cs.drop 2).take (Tryz.prog.cellsOf 47),u.oneCell'=true:=o2
 rw[c2]at r2 o2
 obtain⟨n3,y3,g3⟩:=hf 3 _ rfl
 have c3:Tryz.prog.cellsOf 2=1:=by kernel_rfl
 obtain⟨v3,r3,o3⟩:=(y3c (k:=.i64) Tryz.underlying2) g3
 replace r3:RepL W (fun _=>False) ([.int .i64 v3]) yk ((cs.drop 4).take (Tryz.prog.cellsOf 2)) []:=r3
 replace o3:∀ u∈(cs.drop 4).take (Tryz.prog.cellsOf 2),u.oneCell'=true:=o3
 rw[c3]at r3 o3
 obtain⟨n4,y4,g4⟩:=hf 4 _ rfl
 have c4:Tryz.prog.cellsOf 49=4:=by kernel_rfl
 obtain⟨v4,r4,o4⟩:=yw4 g4
 replace r4:RepL W (fun _=>False) (eMark v4) yk ((cs.drop 5).take (Tryz.prog.cellsOf 49)) []:=r4
 replace o4:∀ u∈(cs.drop 5).take (Tryz.prog.cellsOf 49),u.oneCell'=true:=o4
 rw[c4]at r4 o4
 obtain⟨n5,y5,g5⟩:=hf 5 _ rfl
 have c5:Tryz.prog.cellsOf 51=5:=by kernel_rfl
 obtain⟨v5,r5,o5⟩:=y04 g5
 replace r5:RepL W (fun _=>False) (eCharacter v5) yk ((cs.drop 9).take (Tryz.prog.cellsOf 51)) []:=r5
 replace o5:∀ u∈(cs.drop 9).take (Tryz.prog.cellsOf 51),u.oneCell'=true:=o5
 rw[c5]at r5 o5
 obtain⟨n6,y6,g6⟩:=hf 6 _ rfl
 have c6:Tryz.prog.cellsOf 52=1:=by kernel_rfl
 obtain⟨v6,r6,o6⟩:=yx4 g6
 replace r6:RepL W (fun _=>False) ([encL 3 eSector v6]) yk ((cs.drop 14).take (Tryz.prog.cellsOf 52)) []:=r6
 replace o6:∀ u∈(cs.drop 14).take (Tryz.prog.cellsOf 52),u.oneCell'=true:=o6
 rw[c6]at r6 o6
 obtain⟨n7,y7,g7⟩:=hf 7 _ rfl
 have c7:Tryz.prog.cellsOf 2=1:=by kernel_rfl
 obtain⟨v7,r7,o7⟩:=(y3c (k:=.i64) Tryz.underlying2) g7
 replace r7:RepL W (fun _=>False) ([.int .i64 v7]) yk ((cs.drop 15).take (Tryz.prog.cellsOf 2)) []:=r7
 replace o7:∀ u∈(cs.drop 15).take (Tryz.prog.cellsOf 2),u.oneCell'=true:=o7
 rw[c7]at r7 o7
 refine⟨⟨v0,v1,v2,v3,v4,v5,v6,v7⟩,?_,?_⟩
 ·exact yv (o:=0) (k:=1) r0 (yv (o:=1) (k:=1) r1 (yv (o:=2) (k:=2) r2 (yv (o:=4) (k:=1) r3 (yv (o:=5) (k:=4) r4 (yv (o:=9) (k:=5) r5 (yv (o:=14) (k:=1) r6 (yv (o:=15) (k:=1) r7 (yrg (o:=16) (by omega)))))))))
 ·exact yu (o:=0) (k:=1) o0 (yu (o:=1) (k:=1) o1 (yu (o:=2) (k:=2) o2 (yu (o:=4) (k:=1) o3 (yu (o:=5) (k:=4) o4 (yu (o:=9) (k:=5) o5 (yu (o:=14) (k:=1) o6 (yu (o:=15) (k:=1) o7 (yqg (o:=16) (by omega)))))))))
theorem yf4:Rd Tryz.prog 85 eNotice:=by
 intro H enc W base sp hd fuel cs x h
 obtain⟨hl,hf⟩:=yod Tryz.underlying85 h
 have e0:Tryz.prog.cellsOf 85=20:=by kernel_rfl
 rw[e0]at hl
 obtain⟨n0,y0,g0⟩:=hf 0 _ rfl
 have c0:Tryz.prog.cellsOf 2=1:=by kernel_rfl
 obtain⟨v0,r0,o0⟩:=(y3c (k:=.i64) Tryz.underlying2) g0
 replace r0:RepL W (fun _=>False) ([.int .i64 v0]) yk ((cs.drop 0).take (Tryz.prog.cellsOf 2)) []:=r0
 replace o0:∀ u∈(cs.drop 0).take (Tryz.prog.cellsOf 2),u.oneCell'=true:=o0
 rw[c0]at r0 o0
 obtain⟨n1,y1,g1⟩:=hf 1 _ rfl
 have c1:Tryz.prog.cellsOf 2=1:=by kernel_rfl
 obtain⟨v1,r1,o1⟩:=(y3c (k:=.i64) Tryz.underlying2) g1
 replace r1:RepL W (fun _=>False) ([.int .i64 v1]) yk ((cs.drop 1).take (Tryz.prog.cellsOf 2)) []:=r1
 replace o1:∀ u∈(cs.drop 1).take (Tryz.prog.cellsOf 2),u.oneCell'=true:=o1
 rw[c1]at r1 o1
 obtain⟨n2,y2,g2⟩:=hf 2 _ rfl
 have c2:Tryz.prog.cellsOf 2=1:=by kernel_rfl
 obtain⟨v2,r2,o2⟩:=(y3c (k:=.i64) Tryz.underlying2) g2
 replace r2:RepL W (fun _=>False) ([.int .i64 v2]) yk ((cs.drop 2).take (Tryz.prog.cellsOf 2)) []:=r2
 replace o2:∀ u∈(cs.drop 2).take (Tryz.prog.cellsOf 2),u.oneCell'=true:=o2
 rw[c2]at r2 o2
 obtain⟨n3,y3,g3⟩:=hf 3 _ rfl
 have c3:Tryz.prog.cellsOf 2=1:=by kernel_rfl
 obtain⟨v3,r3,o3⟩:=(y3c (k:=.i64) Tryz.underlying2) g3
 replace r3:RepL W (fun _=>False) ([.int .i64 v3]) yk ((cs.drop 3).take (Tryz.prog.cellsOf 2)) []:=r3
 replace o3:∀ u∈(cs.drop 3).take (Tryz.prog.cellsOf 2),u.oneCell'=true:=o3
 rw[c3]at r3 o3
 obtain⟨n4,y4,g4⟩:=hf 4 _ rfl
 have c4:Tryz.prog.cellsOf 54=16:=by kernel_rfl
 obtain⟨v4,r4,o4⟩:=yy3 g4
 replace r4:RepL W (fun _=>False) (eAid v4) yk ((cs.drop 4).take (Tryz.prog.cellsOf 54)) []:=r4
 replace o4:∀ u∈(cs.drop 4).take (Tryz.prog.cellsOf 54),u.oneCell'=true:=o4
 rw[c4]at r4 o4
 refine⟨⟨v0,v1,v2,v3,v4⟩,?_,?_⟩
 ·exact yv (o:=0) (k:=1) r0 (yv (o:=1) (k:=1) r1 (yv (o:=2) (k:=1) r2 (yv (o:=3) (k:=1) r3 (yv (o:=4) (k:=16) r4 (yrg (o:=20) (by omega))))))
 ·exact yu (o:=0) (k:=1) o0 (yu (o:=1) (k:=1) o1 (yu (o:=2) (k:=1) o2 (yu (o:=3) (k:=1) o3 (yu (o:=4) (k:=16) o4 (yqg (o:=20) (by omega))))))
theorem y53:Rd Tryz.prog 22 (fun l:List Notice=>[encL 20 eNotice l]):=yxi Tryz.underlying22 (by kernel_rfl) (by decide) yf4
theorem yy4:Rd Tryz.prog 34 (fun l:List Aid=>[encL 16 eAid l]):=yxi Tryz.underlying34 (by kernel_rfl) (by decide) yy3
theorem y63:Rd Tryz.prog 102 eEdition:=by
 intro H enc W base sp hd fuel cs x h
 obtain⟨hl,hf⟩:=yod Tryz.underlying102 h
 have e0:Tryz.prog.cellsOf 102=3:=by kernel_rfl
 rw[e0]at hl
 obtain⟨n0,y0,g0⟩:=hf 0 _ rfl
 have c0:Tryz.prog.cellsOf 2=1:=by kernel_rfl
 obtain⟨v0,r0,o0⟩:=(y3c (k:=.i64) Tryz.underlying2) g0
 replace r0:RepL W (fun _=>False) ([.int .i64 v0]) yk ((cs.drop 0).take (Tryz.prog.cellsOf 2)) []:=r0
 replace o0:∀ u∈(cs.drop 0).take (Tryz.prog.cellsOf 2),u.oneCell'=true:=o0
 rw[c0]at r0 o0
 obtain⟨n1,y1,g1⟩:=hf 1 _ rfl
 have c1:Tryz.prog.cellsOf 2=1:=by kernel_rfl
 obtain⟨v1,r1,o1⟩:=(y3c (k:=.i64) Tryz.underlying2) g1
 replace r1:RepL W (fun _=>False) ([.int .i64 v1]) yk ((cs.drop 1).take (Tryz.prog.cellsOf 2)) []:=r1
 replace o1:∀ u∈(cs.drop 1).take (Tryz.prog.cellsOf 2),u.oneCell'=true:=o1
 rw[c1]at r1 o1
 obtain⟨n2,y2,g2⟩:=hf 2 _ rfl
 have c2:Tryz.prog.cellsOf 34=1:=by kernel_rfl
 obtain⟨v2,r2,o2⟩:=yy4 g2
 replace r2:RepL W (fun _=>False) ([encL 16 eAid v2]) yk ((cs.drop 2).take (Tryz.prog.cellsOf 34)) []:=r2
 replace o2:∀ u∈(cs.drop 2).take (Tryz.prog.cellsOf 34),u.oneCell'=true:=o2
 rw[c2]at r2 o2
 refine⟨⟨v0,v1,v2⟩,?_,?_⟩
 ·exact yv (o:=0) (k:=1) r0 (yv (o:=1) (k:=1) r1 (yv (o:=2) (k:=1) r2 (yrg (o:=3) (by omega))))
 ·exact yu (o:=0) (k:=1) o0 (yu (o:=1) (k:=1) o1 (yu (o:=2) (k:=1) o2 (yqg (o:=3) (by omega))))
end Go.Ab
