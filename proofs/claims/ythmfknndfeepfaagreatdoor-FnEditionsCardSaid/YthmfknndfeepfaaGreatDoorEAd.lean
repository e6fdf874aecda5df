/- Walks and lemmas. No conditions. -/
import Derived.Test.YthmfknndfeepfaaGreatDoorEAc
set_option linter.unusedSectionVars false
set_option linter.unusedVariables false
set_option linter.unusedSimpArgs false
namespace Go.Ab
open Go
section
variable [Inv]
def rdI : AV -> Int
 | .int _ n=>n
 | _=>0
def rdB : AV -> Bool
 | .bool b=>b
 | _=>false
def rdS : AV -> List UInt8
 | .str l=>l
 | _=>[]
def rdG {α : Type} [Inhabited α] (d : List AV -> α) : AV -> α
 | .agg cs=>d cs
 | _=>default
def rdP {α : Type} [Inhabited α] (d : List AV -> α) : AV -> α
 | .ep cs=>d cs
 | _=>default
def rdL {α : Type} (d : List AV -> α) : AV -> List α
 | .sl _ _ n f=>decL d n f
 | _=>[]
def wI (k : IntKind) : AV -> Prop
 | .int k' _=>k'=k
 | _=>False
def wB : AV -> Prop
 | .bool _=>True
 | _=>False
def wS : AV -> Prop
 | .str _=>True
 | _=>False
def wG {α : Type} (e : α -> List AV) (d : List AV -> α) : AV -> Prop
 | .agg cs=>y6d cs=true/\yec cs (e (d cs))
 | _=>False
def wP {α : Type} (e : α -> List AV) (d : List AV -> α) : AV -> Prop
 | .ep cs=>cs=e (d cs)\/yuk cs (e (d cs))
 | _=>False
def wL {α : Type} (k : Nat) (e : α -> List AV) (d : List AV -> α) : AV -> Prop
 | .sl none k' n f=>k'=k/\∀ i,i<n->yec (f i) (e (d (f i)))
 | .nils=>True
 | _=>False
def wO {α : Type} (T : TypeId) (k : Nat) (e : α -> List AV) (d : List AV -> α) : AV -> Prop
 | .sl (some T') k' n f=>T'=T/\k'=k/\∀ i,i<n->yec (f i) (e (d (f i)))
 | .nils=>True
 | _=>False
theorem yke {k:IntKind} {a:AV} (h:wI k a):simO a (.int k (rdI a))/\noId a=true:=by
 cases a<;>simp_all[wI,rdI,simO,noId]
theorem y63 {a:AV} (h:wB a):simO a (.bool (rdB a))/\noId a=true:=by
 cases a<;>simp_all[wB,rdB,simO,noId]
theorem yob {a:AV} (h:wS a):simO a (.str (rdS a))/\noId a=true:=by
 cases a<;>simp_all[wS,rdS,simO,noId]
theorem yl4 {α:Type} [Inhabited α] {e:α->List AV} {d:List AV->α} {a:AV} (h:wG e d a):simO a (.agg (e (rdG d a)))/\noId a=true:=by
 cases a<;>simp_all[wG,rdG,simO,noId]
theorem yx1 {α:Type} [Inhabited α] {e:α->List AV} {d:List AV->α} {a:AV} (h:wP e d a):simO a (.ep (e (rdP d a)))/\noId a=true:=by
 cases a with
 | ep cs=>
  simp only[wP]at h;simp only[rdP,noId,simO];refine⟨?_,trivial⟩;rcases h with h|h
  ·rw[<- h];exact y0j _
  ·exact h
 | _=>simp[wP]at h
theorem ygs {α:Type} [Inhabited α] {k:Nat} {e:α->List AV} {d:List AV->α} {a:AV} (h:wL k e d a):simO a (encL k e (rdL d a))/\noId a=true:=by
 cases a with
 | nils=>exact⟨by simp[rdL,encL,simO],rfl⟩
 | sl o k' n f=>
  cases o with
  | some T=>simp[wL]at h
  | none=>
   simp only[wL]at h;obtain⟨rfl,h⟩:=h;exact⟨yr2 e d h,rfl⟩
 | _=>simp[wL]at h
theorem ysr {α:Type} [Inhabited α] {T:TypeId} {k:Nat} {e:α->List AV} {d:List AV->α} {a:AV} (h:wO T k e d a):simO a (ownL T k e (rdL d a)):=by
 cases a with
 | nils=>simp[rdL,ownL,simO]
 | sl o k' n f=>
  cases o with
  | none=>simp[wO]at h
  | some T'=>
   simp only[wO]at h;obtain⟨rfl,rfl,h⟩:=h;simp only[rdL,ownL,simO,ysn,true_and];intro i hi;rw[yys d n f i hi];exact h i hi
 | _=>simp[wO]at h
theorem yv {x x':AV} {xs xs':List AV} (h:simO x x') (hs:yec xs xs'):yec (x::xs) (x'::xs'):=by simp only[yec];exact⟨h,hs⟩
theorem y7 {x:AV} {xs:List AV} (h:noId x=true) (hs:y6d xs=true):y6d (x::xs)=true:=by simp[y6d,h,hs]
theorem DenM.sim {P:Program} {f:FuncId} {xs xs':List AV} {r:AV} {outs:List AV} (h:DenM P f xs' r outs) (hs:yec xs xs'):DenM P f xs r outs:=by
 refine⟨h.1,?_⟩;intro w M vs fpA hI hIM hA hAn hAm hM;have ht:=y4d xs xs' hs hA;have hA':=ycc xs xs' hs hA;have:=h.2 w M vs fpA hI hIM (by rw[ht];exact hA') hAn hAm hM;rw[ht]at this;exact this
theorem yt2 (xs:List AV):yec xs xs=True:=eq_true (y3 xs)
end
theorem rg1:List.range 1=[0]:=rfl
theorem rg2:List.range 2=[0,1]:=rfl
theorem ymeb (l:List Int):(List.range l.length).map (fun i=>UInt8.ofNat (l.getD i default).toNat)=l.map fun z=>UInt8.ofNat z.toNat:=by
 apply List.ext_getElem
 ·simp
 ·intro i h1 h2
  simp at h1
  simp[List.getD_eq_getElem?_getD,h1]
theorem yuz (b:Bool) (x y:List AV):y9d (bif b then x else y)=bif b then y9d x else y9d y:=by cases b<;>rfl
theorem ye2 (b:Bool) (x:Bool):(bif b then x else x)=x:=by cases b<;>rfl
theorem yn6 (h:Decidable True):@decide True h=true:=decide_eq_true trivial
def subL {α:Type} [Inhabited α] (l:List α) (lo n:Nat):List α:=(List.range n).map fun j=>l.getD (lo+j) default
theorem yim {α:Type} [Inhabited α] (l:List α) (lo n:Nat):(subL l lo n).length=n:=by simp[subL]
theorem yot {α:Type} [Inhabited α] (l:List α) (lo n i:Nat) (h:i<n):(subL l lo n).getD i default=l.getD (lo+i) default:=by
 simp[subL,List.getD_eq_getElem?_getD,h]
theorem yobb {α:Type} [Inhabited α] (l:List α) (lo n:Nat) (h:lo+n<=l.length):subL l lo n=(l.drop lo).take n:=by
 apply List.ext_getElem
 ·simp[subL];omega
 ·intro i h1 h2
  have hi:i<n:=by simpa [subL]using h1
  simp[subL]
  rw[List.getElem?_eq_getElem (by omega)];simp
theorem yr8 {α:Type} [Inhabited α] (l:List α):subL l 0 l.length=l:=by
 rw[yobb _ _ _ (by simp)];simp
theorem ob:(∀ p [Decidable p],(decide p=true)=p)/\(∀ p [Decidable p],(decide p=false)=¬ p)/\(∀ a b:Bool,((a && b)=true)=(a=true/\b=true))/\(∀ a b:Bool,((a || b)=true)=(a=true\/b=true)) /\
  (∀ a b:Bool,((a && b)=false)=(a=false\/b=false))/\(∀ a b:Bool,((a || b)=false)=(a=false/\b=false))/\(∀ a:Bool,((!a)=true)=(a=false))/\(∀ a:Bool,((!a)=false)=(a=true)) /\
  (∀ a b:Int,((a == b)=true)=(a=b))/\(∀ a b:Int,((a == b)=false)=¬ (a=b))/\(∀ a b:Int,((a != b)=true)=¬ (a=b))/\(∀ a b:Int,((a != b)=false)=(a=b)) /\
  (∀ n:Int,IntKind.wrap .i64 n=(n+9223372036854775808) % 18446744073709551616-9223372036854775808):=by
 refine⟨?_,?_,?_,?_,?_,?_,?_,?_,?_,?_,?_,?_,?_⟩<;>intros<;>first|(simp[IntKind.wrap_i64];done)|(rename_i a b;cases a<;>cases b<;>simp)
def ynt {α:Type} [Inhabited α] (l:List α) (off n:Nat):List α:=(List.range l.length).map fun j=>if off<=j/\j<off+n then default else l.getD j default
theorem ysp {α:Type} [Inhabited α] (l:List α) (off n:Nat):(ynt l off n).length=l.length:=by simp[ynt]
theorem yav {α:Type} [Inhabited α] (l:List α) (off n j:Nat) (h:j<l.length):(ynt l off n).getD j default=if off<=j/\j<off+n then default else l.getD j default:=by
 simp[ynt,List.getD_eq_getElem?_getD,h]
theorem ln:(∀ (α:Type) (n:Nat) (a:α),(List.replicate n a).length=n)/\(∀ (α:Type) (a b:List α),(a++b).length=a.length+b.length)/\(∀ (α:Type) (l:List α) (i:Nat) (a:α),(l.set i a).length=l.length) /\
  (∀ (α:Type) (a:α) (l:List α),(a::l).length=l.length+1)/\(∀ (α:Type),([]:List α).length=0)/\(∀ (α:Type) [Inhabited α] (l:List α) (lo n:Nat),(subL l lo n).length=n) /\
  (∀ (α:Type) [Inhabited α] (l:List α) (off n:Nat),(ynt l off n).length=l.length)/\(∀ (l:List UInt8),((l == [])=true)=(l.length=0))/\(∀ (l:List UInt8),((l == [])=false)=¬ (l.length=0)) /\
  (∀ (l:List UInt8),((l != [])=true)=¬ (l.length=0))/\(∀ (l:List UInt8),((l != [])=false)=(l.length=0))/\(∀ (α:Type) (l:List α) (n:Nat),(l.take n).length=min n l.length)/\(∀ (α:Type) (l:List α) (n:Nat),(l.drop n).length=l.length-n):=by
 refine⟨?_,?_,?_,?_,?_,?_,?_,?_,?_,?_,?_,?_,?_⟩<;>intros<;>simp[yim,ysp]
theorem yx2 {α:Type} [Inhabited α] (l:List α) (i j:Nat) (v:α):(l.set i v).getD j default=if j=i/\i<l.length then v else l.getD j default:=by
 simp only[List.getD_eq_getElem?_getD,List.getElem?_set];by_cases h:i=j
 ·subst h
  by_cases h2:i<l.length<;>simp[h2]
 ·have:¬ j=i:=fun e=>h e.symm
  simp[h,this]
theorem yz5 {α:Type} [Inhabited α] (l m:List α) (j:Nat):(l++m).getD j default=if j<l.length then l.getD j default else m.getD (j-l.length) default:=by
 simp only[List.getD_eq_getElem?_getD,List.getElem?_append];split<;>rfl
theorem y27 {α:Type} [Inhabited α] (n j:Nat):(List.replicate n (default:α)).getD j default=default:=by
 simp only[List.getD_eq_getElem?_getD,List.getElem?_replicate];split<;>rfl
theorem pw:(∀ a b:Nat,(a == b)=decide (a=b))/\(∀ a b:Nat,Nat.beq a b=decide (a=b))/\(∀ a b:Nat,Nat.blt a b=decide (a<b))/\(∀ a b:Nat,Nat.ble a b=decide (a<=b)) /\
  (∀ (α:Type) (p:Prop) [Decidable p] (a b:α),(bif decide p then a else b)=if p then a else b) /\
  (∀ (α:Type) [Inhabited α] (l:List α) (i j:Nat) (v:α),(l.set i v).getD j default=if j=i/\i<l.length then v else l.getD j default) /\
  (∀ (α:Type) [Inhabited α] (l m:List α) (j:Nat),(l++m).getD j default=if j<l.length then l.getD j default else m.getD (j-l.length) default) /\
  (∀ (α:Type) [Inhabited α] (n j:Nat),(List.replicate n (default:α)).getD j default=default)/\(∀ (x:List AV) (n:Nat),elt [x] n=if n=0 then x else[])/\(∀ (α:Type) (x d:α) (n:Nat),[x].getD n d=if n=0 then x else d):=by
 refine⟨fun a b=>rfl,fun a b => ?_,fun a b => ?_,fun a b => ?_,fun α p _ a b => ?_,fun α _=>yx2,fun α _=>yz5,fun α _=>y27,fun x n=>by cases n<;>rfl,fun α x d n=>by cases n<;>rfl⟩
 ·apply Bool.eq_iff_iff.2;simp
 ·apply Bool.eq_iff_iff.2;simp
 ·apply Bool.eq_iff_iff.2;simp
 ·by_cases h:p<;>simp[h]
theorem ytf {α:Type} [Inhabited α] {p:α->Prop} {l:List α} (h:∀ v∈l,p v) (hd:p default) (i:Nat):p (l.getD i default):=by
 rw[List.getD_eq_getElem?_getD];by_cases hi:i<l.length
 ·rw[List.getElem?_eq_getElem hi];exact h _ (List.getElem_mem hi)
 ·rw[List.getElem?_eq_none (by omega)];exact hd
theorem y5eb {α:Type} {p:α->Prop} {l:List α} {i:Nat} {x:α} (h:∀ v∈l,p v) (hx:p x):∀ v∈l.set i x,p v:=by
 intro v hv;rcases List.mem_or_eq_of_mem_set hv with h1|h1
 ·exact h v h1
 ·rw[h1];exact hx
theorem y1eb {α:Type} {p:α->Prop} {l:List α} {x:α} (h:∀ v∈l,p v) (hx:p x):∀ v∈l++[x],p v:=by
 intro v hv;rcases List.mem_append.1 hv with h1|h1
 ·exact h v h1
 ·rw[List.mem_singleton.1 h1];exact hx
theorem ydbb {α:Type} [Inhabited α] {p:α->Prop} {l:List α} {lo n:Nat} {v:α} (h:∀ v∈l,p v) (hd:p default) (hv:v∈subL l lo n):p v:=by
 simp only[subL,List.mem_map]at hv;obtain⟨j,_,rfl⟩:=hv;exact ytf h hd _
theorem otN:(none:Option Operand).toArray.toList=[]:=rfl
theorem otS (x:Operand):(some x).toArray.toList=[x]:=rfl
theorem fl1 (p:Nat->Prop):(∀ i,i<1->p i)=p 0:=by
  apply propext; exact ⟨fun h => h 0 (by omega), fun h i hi => by obtain rfl : i = 0 := by omega
                                                                  exact h⟩
theorem fl2 (p:Nat->Prop):(∀ i,i<2->p i)=(p 0/\p 1):=by
 apply propext;refine⟨fun h=>⟨h 0 (by omega),h 1 (by omega)⟩,fun h i hi => ?_⟩
 match i,hi with
 | 0,_=>exact h.1
 | 1,_=>exact h.2
theorem fl3 (p:Nat->Prop):(∀ i,i<3->p i)=(p 0/\p 1/\p 2):=by
 apply propext;refine⟨fun h=>⟨h 0 (by omega),h 1 (by omega),h 2 (by omega)⟩,fun h i hi => ?_⟩
 match i,hi with
 | 0,_=>exact h.1
 | 1,_=>exact h.2.1
 | 2,_=>exact h.2.2
theorem fl4 (p:Nat->Prop):(∀ i,i<4->p i)=(p 0/\p 1/\p 2/\p 3):=by
 apply propext;refine⟨fun h=>⟨h 0 (by omega),h 1 (by omega),h 2 (by omega),h 3 (by omega)⟩,fun h i hi => ?_⟩
 match i,hi with
 | 0,_=>exact h.1
 | 1,_=>exact h.2.1
 | 2,_=>exact h.2.2.1
 | 3,_=>exact h.2.2.2
theorem yqeb {α:Type} (d:List AV->α) (f:Nat->List AV):decL d 0 f=[]:=rfl
theorem yceb {α:Type} (d:List AV->α) (f:Nat->List AV):decL d 1 f=[d (f 0)]:=rfl
theorem y2eb {α:Type} (d:List AV->α) (f:Nat->List AV):decL d 2 f=[d (f 0),d (f 1)]:=rfl
theorem yweb {α:Type} (d:List AV->α) (f:Nat->List AV):decL d 3 f=[d (f 0),d (f 1),d (f 2)]:=rfl
theorem y4db {α:Type} (d:List AV->α) (f:Nat->List AV):decL d 4 f=[d (f 0),d (f 1),d (f 2),d (f 3)]:=rfl
def ye {ρ σ : Type} (body : Nat -> σ -> Except ρ σ) : Nat -> Nat -> σ -> Except ρ σ
  | 0,_,s=>.ok s
  | k + 1, i, s => match body i s with
    | .error r=>.error r
    | .ok t=>ye body k (i+1) t
theorem yi {ρ σ:Type} {body:Nat->σ->Except ρ σ} {n i:Nat} {s:σ} (h:i<n) :
  ye body (n-i) i s=(match body i s with|.error r=>.error r|.ok t=>ye body (n-(i+1)) (i+1) t):=by
 have e:n-i=(n-(i+1))+1:=by omega
 rw[e];rfl
theorem ybb {ρ σ:Type} {body:Nat->σ->Except ρ σ} {n i:Nat} {s:σ} (h:n<=i):ye body (n-i) i s=.ok s:=by
 have e:n-i=0:=by omega
 rw[e];rfl
theorem ymd {ρ σ : Type} {b : Nat -> σ -> Except ρ σ} : ∀ {k i : Nat} {s : σ} {r : ρ}, ye b k i s = .error r -> ∃ j t, i <= j /\ j < i + k /\ b j t = .error r
 | 0,i,s,r,h=>by simp[ye]at h
 | k+1,i,s,r,h=>by
  simp only[ye]at h;split at h
  ·rename_i r' hb
   simp only[Except.error.injEq]at h;subst h;exact⟨i,s,Nat.le_refl _,by omega,hb⟩
  ·obtain⟨j,t,h1,h2,h3⟩:=ymd h
   exact⟨j,t,by omega,by omega,h3⟩
def yab {ρ σ : Type} (body : σ -> Except ρ σ) : Nat -> σ -> Except ρ σ
  | 0,s=>.ok s
  | k + 1, s => match body s with
    | .error r=>.error r
    | .ok t=>yab body k t
section
variable [Inv] {P:Program} {c:Ctx} {N:St->Prop} {E:Nat->St->Prop} {R:St->Prop} {s:St}
theorem AWP.lens {code:Code} {x:AV} (j:Nat) (hx:get s.t j=x) (h:yhg x->AWP P c code N E R s):AWP P c code N E R s:=by
 refine⟨fun a w hs => ?_⟩;have hs':=hs;obtain⟨μ,FP,hW,ht,hT⟩:=hs';have:=hT.1 j;rw[hx]at this;exact(h (Rep.lens x this)).run a w hs
theorem AWP.lensS {code:Code} {o:Option TypeId} {e n:Nat} {f:Nat->List AV} (j:Nat) (hx:get s.t j=.sl o e n f) (h:n<=9223372036854775807->AWP P c code N E R s):AWP P c code N E R s:=
 AWP.lens j hx fun hl=>h hl.1
theorem AWP.lensT {code:Code} {l:List UInt8} (j:Nat) (hx:get s.t j=.str l) (h:l.length<=9223372036854775807->AWP P c code N E R s):AWP P c code N E R s:=
 AWP.lens j hx fun hl=>h hl
theorem yj {α:Type} [Inhabited α] {e:Nat} {enc:α->List AV} {l:List α} (h:yhg (encL e enc l)):l.length<=9223372036854775807/\∀ v∈l,yzd (enc v):=by
 simp only[encL,yhg]at h;refine⟨h.1,fun v hv => ?_⟩;obtain⟨i,hi,rfl⟩:=List.getElem_of_mem hv;have:=h.2 i hi;simpa [List.getD_eq_getElem?_getD,hi]using this
theorem yln {α:Type} [Inhabited α] {T e:Nat} {enc:α->List AV} {l:List α} (h:yhg (ownL T e enc l)):l.length<=9223372036854775807/\∀ v∈l,yzd (enc v):=by
 simp only[ownL,yhg]at h;refine⟨h.1,fun v hv => ?_⟩;obtain⟨i,hi,rfl⟩:=List.getElem_of_mem hv;have:=h.2 i hi;simpa [List.getD_eq_getElem?_getD,hi]using this
theorem AWP.range {ρ σ : Type} (body : Nat -> σ -> Except ρ σ) (I : Nat -> σ -> St) (W : Nat -> σ -> Prop) (n i0 : Nat) (s0 : σ) (rl : List Nat) {z : Except ρ σ} {code : Code} (hz : ye body (n - i0) i0 s0 = z)
  (hi:i0<=n) (h0:W i0 s0) (hs:simK c.k0 rl s (I i0 s0))
  (round:∀ i t,i<=n->W i t->ye body (n-i) i t=z->AWP P c code (fun s'=>∃ t' rl,i<n/\W (i+1) t'/\ye body (n-(i+1)) (i+1) t'=z/\simK c.k0 rl s' (I (i+1) t')) E R (I i t)) :
  AWP P c (.loop code) N E R s:=by
 refine AWP.loop (ι:=Nat×σ) (fun p=>I p.1 p.2) (fun p=>p.1<=n/\W p.1 p.2/\ye body (n-p.1) p.1 p.2=z) (fun p=>n-p.1) (i0,s0) ⟨hi,h0,hz⟩ rl hs ?_;rintro⟨i,t⟩ ⟨h1,h2,h3⟩
 refine AWP.mono ?_ (fun _ _ h=>h) (fun _ h=>h) (round i t h1 h2 h3);rintro s' ⟨t',rl',h4,h5,h6,h7⟩
 exact⟨(i+1,t'),rl',⟨h4,h5,h6⟩,by show n-(i+1)<n-i;omega,h7⟩
theorem AWP.whileW {ρ σ : Type} (body : σ -> Except ρ σ) (I : σ -> St) (W : σ -> Prop) (m : σ -> Nat) (k0 : Nat) (s0 : σ) (rl : List Nat) {z : Except ρ σ} {code : Code} (hz : yab body k0 s0 = z)
  (hm:m s0<k0) (h0:W s0) (hs:simK c.k0 rl s (I s0))
  (round:∀ t k,W t->m t<k+1->(match body t with|.error r=>.error r|.ok t'=>yab body k t')=z->AWP P c code (fun s'=>∃ t' rl,m t'<k/\W t'/\yab body k t'=z/\simK c.k0 rl s' (I t')) E R (I t)) :
  AWP P c (.loop code) N E R s:=by
 refine AWP.loop (ι:=Nat×σ) (fun p=>I p.2) (fun p=>m p.2<p.1/\W p.2/\yab body p.1 p.2=z) (fun p=>p.1) (k0,s0) ⟨hm,h0,hz⟩ rl hs ?_;rintro⟨k,t⟩ ⟨h1,h2,h3⟩
 cases k with
 | zero=>exact absurd h1 (Nat.not_lt_zero _)
 | succ k=>
  refine AWP.mono ?_ (fun _ _ h=>h) (fun _ h=>h) (round t k h2 h1 h3);rintro s' ⟨t',rl',h4,h5,h6,h7⟩
  exact⟨(k,t'),rl',⟨h4,h5,h6⟩,Nat.lt_succ_self k,h7⟩
end
end Go.Ab
