/- A part of a proof: walks of functions and lemmas of our own. No conditions. -/
import Derived.Test.YtopoomikfjodkaaGreatDoorRAp
import Derived.Test.YtopoomikfjodkaaGreatDoorRBc
import Derived.Test.YtopoomikfjodkaaGreatDoorRAv
import Derived.Lib.Join
import Derived.Test.YtopoomikfjodkaaGreatDoorRAl
import Derived.Test.YtopoomikfjodkaaGreatDoorRAi
import Derived.Test.YtopoomikfjodkaaGreatDoorRAq
set_option linter.unusedSectionVars false
set_option linter.unusedVariables false
set_option linter.unusedSimpArgs false
set_option maxHeartbeats 1000000
namespace Go.Ab
open Go Go.Proofs
theorem ycd (n:Int) (h1 : -9223372036854775808≤n) (h2:n≤9223372036854775807):(Lib.itoa n).length≤20:=by
 have h3:(Lib.decDigits n.natAbs).length≤19:=by
  by_cases h:n.natAbs<10
  ·have:=(y0b n.natAbs).2 (by omega);omega
  ·rw[ymb _ h,List.length_append,List.length_singleton]
   have:=(y0b (n.natAbs / 10)).2 (by omega);omega
 by_cases h:n<0
 ·rw[y3b h,List.length_cons];omega
 ·rw[ywe h];omega
theorem y7d (n:Int) (h1 : -9223372036854775808≤n) (h2:n≤9223372036854775807):(zl n).length≤20:=ycd n h1 h2
theorem yqo (n:Int):(zl (IntKind.wrap .i64 n)).length≤20:=y7d _ (by rw[IntKind.wrap_i64];omega) (by rw[IntKind.wrap_i64];omega)
theorem y5k (n:Int) : -10<n.tmod 10∧n.tmod 10<10:=⟨by have:=Int.lt_tmod_of_pos n (b:=10) (by omega);omega,Int.tmod_lt_of_pos n (by omega)⟩
theorem yqi (s : List UInt8) : ∀ (xs : List (List UInt8)) (m : Nat), (∀ x ∈ xs, x.length ≤ m) → (Lib.join xs s).length ≤ xs.length * (m + s.length)
 | [],m,_=>by simp[Lib.join_nil]
 | x::r,m,h=>by
  rw[Lib.join_cons,List.length_append]
  have h1:=h x (by simp)
  have h2:∀ r:List (List UInt8),(∀ x∈r,x.length≤m)→(Lib.joinTail s r).length≤r.length * (m+s.length):=by
   intro r
   induction r with
   | nil=>intro _;simp[Lib.joinTail]
   | cons y r ih=>
    intro h
    have h3:=ih (fun z hz=>h z (by simp[hz]))
    have h4:=h y (by simp)
    unfold Lib.joinTail at h3 ⊢
    simp only[List.map_cons,List.flatten_cons,List.length_append,List.length_cons]
    rw[Nat.add_mul]
    omega
  have h3:=h2 r (fun z hz=>h z (by simp[hz]))
  rw[List.length_cons,Nat.add_mul]
  omega
theorem ykp {l:List Int} (h:∀ v∈l,v≤9) (i:Nat):l.getD i default≤9:=by
 rw[List.getD_eq_getElem?_getD]
 cases hg:l[i]? with
 | none=>show(0:Int)≤9;omega
 | some x=>have:=h x (List.mem_of_getElem? hg);simpa only[Option.getD_some]
theorem ydh {l:List Int} (h:∀ v∈l,1≤v∧v≤9) (i:Nat):0≤l.getD i default∧l.getD i default≤9:=by
 rw[List.getD_eq_getElem?_getD]
 cases hg:l[i]? with
 | none=>show(0:Int)≤0∧(0:Int)≤9;omega
 | some x=>have:=h x (List.mem_of_getElem? hg);simp only[Option.getD_some];omega
end Go.Ab

namespace Go.Ab
open Go Go.Proofs
def jl : List (List UInt8) → Nat
 | []=>0
 | x::r=>x.length+jl r
theorem y8j (s : List UInt8) : ∀ r : List (List UInt8), (Lib.joinTail s r).length = jl r + r.length * s.length
 | []=>by simp[Lib.joinTail,jl]
 | x::r=>by
  have ih:=y8j s r
  unfold Lib.joinTail at ih ⊢
  simp only[List.map_cons,List.flatten_cons,List.length_append,List.length_cons,jl,ih,Nat.add_mul]
  omega
theorem ynf (s:List UInt8) (xs:List (List UInt8)):(Lib.join xs s).length≤jl xs+xs.length * s.length:=by
 cases xs with
 | nil=>simp[Lib.join_nil]
 | cons x r=>
  rw[Lib.join_cons,List.length_append,y8j]
  simp only[jl,List.length_cons,Nat.add_mul]
  omega
theorem yl3 : ∀ (k n : Nat), n < 10 ^ (k + 1) → (Lib.decDigits n).length ≤ k + 1
 | 0,n,h=>by rw[Lib.decDigits_one (by simpa using h)];simp
 | k+1,n,h=>by
  by_cases h10:n<10
  ·rw[Lib.decDigits_one h10];simp
  ·rw[ymb _ h10,List.length_append,List.length_singleton]
   have:=yl3 k (n / 10) (by rw[Nat.div_lt_iff_lt_mul (by decide)];rwa [Nat.pow_succ]at h)
   omega
theorem ybj (n:Int) (k:Nat) (h0:0≤n) (h:n<((10 ^ (k+1):Nat):Int)):(Lib.itoa n).length≤k+1:=by
 rw[ywe (by omega)]
 exact yl3 k _ (by omega)
theorem ywz {α:Type} (c:UInt8) (d:α) (f:α→List UInt8) (x:α) (r:List α):(List.range' 1 r.length).flatMap (fun j=>c::f ((x::r).getD j d))=Lib.joinTail [c] (r.map f):=by
 unfold Lib.joinTail
 rw[List.map_map, ← List.flatMap_def]
 have h:(List.range' 1 r.length).flatMap (fun j=>c::f ((x::r).getD j d))=(List.range' 0 r.length).flatMap (fun j=>c::f (r.getD j d)):=by
  rw[List.flatMap_def,List.flatMap_def]
  congr 1
  apply List.ext_getElem
  ·simp
  ·intro i h1 h2
   simp[List.getElem_range',Nat.add_comm 1 i]
 rw[h]
 rw[List.flatMap_def,List.flatMap_def]
 congr 1
 apply List.ext_getElem
 ·simp
 ·intro i h1 h2
  simp only[List.length_map]at h2
  simp[List.getD_eq_getElem?_getD,h2]
end Go.Ab

namespace Go.Ab
open Go Go.Proofs
theorem ys0 (c:List UInt8):zsh c=zvg c:=by
 unfold zsh zvg
 match c with
 | []=>rfl
 | [b]=>
  simp only[List.length_singleton,zpc,List.getD_cons_zero,Go.Lib.indexByte]
  by_cases h1:b=87
  ·subst h1;rfl
  by_cases h2:b=82
  ·subst h2;rfl
  by_cases h3:b=71
  ·subst h3;rfl
  by_cases h4:b=89
  ·subst h4;rfl
  have e:∀ x:UInt8,b≠x→([b] == [x])=false:=by intro x h;simp[h]
  rw[e _ h1,e _ h2,e _ h3,e _ h4]
  have n1:¬ (87:UInt8)=b:=fun h=>h1 h.symm
  have n2:¬ (82:UInt8)=b:=fun h=>h2 h.symm
  have n3:¬ (71:UInt8)=b:=fun h=>h3 h.symm
  have n4:¬ (89:UInt8)=b:=fun h=>h4 h.symm
  simp[n1,n2,n3,n4]
 | a::b::t=>
  have e:∀ x:UInt8,((a::b::t) == [x])=false:=by intro x;simp
  rw[e,e,e,e]
  have:(((a::b::t).length:Int) == 1)=false:=by simp;omega
  rw[this];rfl
theorem yu2 (s:Sector):zth s=zde s:=by
 unfold zth zde zxh
 rw[ys0]
 rfl
theorem y79 (a:Int):a.tmod 360=if 0≤a then a % 360 else -((-a) % 360):=by
 split
 ·rw[Int.tmod_eq_emod_of_nonneg (by omega)]
 ·have e:a = -(-a):=by omega
  rw[e,Int.neg_tmod,Int.tmod_eq_emod_of_nonneg (by omega)];simp
theorem ycr (a:Int):zhg a 360=a % 360:=by
 unfold zhg
 rw[y79 a]
 have e:IntKind.wrap .i64 ((if 0≤a then a % 360 else -((-a) % 360))+360)=(if 0≤a then a % 360 else -((-a) % 360))+360:=by
  rw[IntKind.wrap_i64];split<;>omega
 rw[e,y79]
 split<;>split<;>omega
def brg (n:Int):Prop:=0≤n∧n≤359
theorem w64 {x:Int} (h1 : -9223372036854775808≤x) (h2:x≤9223372036854775807):IntKind.wrap .i64 x=x:=by rw[IntKind.wrap_i64];omega
def yee (s:Sector):Int:=(s.To-s.From-1) % 360+1
theorem ykz (s:Sector) (h1:brg s.From) (h2:brg s.To):zbf s=yee s:=by
 obtain⟨a1,a2⟩:=h1;obtain⟨b1,b2⟩:=h2
 unfold zbf yee
 rw[w64 (x:=s.To-s.From) (by omega) (by omega),w64 (x:=s.To-s.From-1) (by omega) (by omega),ycr,w64 (by omega) (by omega)]
theorem yl7 (s:Sector) (h1:brg s.From) (h2:brg s.To):zyh s=yee s:=by
 obtain⟨a1,a2⟩:=h1;obtain⟨b1,b2⟩:=h2
 unfold zyh yee
 rw[w64 (x:=s.To-s.From) (by omega) (by omega),w64 (x:=s.To-s.From+360) (by omega) (by omega),y79,if_pos (by omega)]
 cases hb:((s.To-s.From+360) % 360 == 0)with
 | true=>have:=eq_of_beq hb;simp only[cond_true];omega
 | false=>
  have:(s.To-s.From+360) % 360≠0:=by intro h;rw[h]at hb;exact absurd hb (by decide)
  simp only[cond_false];omega
theorem y6y (s:Sector) (b:Int) (h1:brg s.From) (h2:brg s.To) (h3:brg b):ztg s b=decide ((b-s.From) % 360<yee s):=by
 unfold ztg
 obtain⟨a1,a2⟩:=h1;obtain⟨c1,c2⟩:=h3
 rw[w64 (x:=b-s.From) (by omega) (by omega),ycr,ykz s ⟨a1,a2⟩ h2]
theorem y8l (s:Sector):1≤yee s∧yee s≤360:=by unfold yee;omega
def itR {σ : Type} (g : Nat → σ → σ) : Nat → Nat → σ → σ
 | 0,_,s=>s
 | k+1,i,s=>itR g k (i+1) (g i s)
theorem yli {σ : Type} (g : Nat → σ → σ) : ∀ (k i : Nat) (s : σ), itR g (k + 1) i s = g (i + k) (itR g k i s)
 | 0,i,s=>rfl
 | k+1,i,s=>by
  have:=yli g k (i+1) (g i s)
  rw[show itR g (k+1+1) i s=itR g (k+1) (i+1) (g i s)from rfl,this,show i+1+k=i+(k+1)by omega]
  rfl
theorem yvg {ρ σ:Type} {b:Nat→σ→Except ρ σ} (p:Nat→Bool) (g:Nat→σ→σ) (r:ρ):∀ {k i:Nat} {s:σ},(∀ j u,i≤j→j<i+k→b j u=bif p j then .error r else .ok (g j u)) →
  ((∃ j,i≤j∧j<i+k∧p j=true)∧ye b k i s=.error r)∨((∀ j,i≤j→j<i+k→p j=false)∧ye b k i s=.ok (itR g k i s))
 | 0,i,s,_=>.inr ⟨fun j h1 h2=>by omega,rfl⟩
 | k+1,i,s,hb=>by
  simp only[ye,hb i s (Nat.le_refl _) (by omega)]
  cases hp:p i with
  | true=>exact .inl ⟨⟨i,Nat.le_refl _,by omega,hp⟩,rfl⟩
  | false=>
   simp only[cond_false]
   rcases yvg p g r (k:=k) (i:=i+1) (s:=g i s) (fun j u h1 h2=>hb j u (by omega) (by omega))with⟨⟨j,h1,h2,h3⟩,h4⟩|⟨h1,h2⟩
   ·exact .inl ⟨⟨j,by omega,by omega,h3⟩,h4⟩
   ·refine .inr ⟨fun j h3 h4 => ?_,h2⟩
    by_cases hji:j=i
    ·subst hji;exact hp
    ·exact h1 j (by omega) (by omega)
theorem y7n {ρ:Type} {b:Int→Except (Sum ρ Int) Int} (q:Nat→Bool) (r:ρ) (n:Nat) (hb:∀ j:Nat,j≤n→b (j:Int)=bif decide (j<n)then(bif q j then .error (.inl r)else .ok ((j+1:Nat):Int))else .error (.inr (j:Int))) :
  ∀ (m i k:Nat),i+m=n→m<k→((∃ j,i≤j∧j<n∧q j=true)∧y3 b k (i:Int)=.error (.inl r))∨((∀ j,i≤j→j<n→q j=false)∧y3 b k (i:Int)=.error (.inr (n:Int)))
 | _,_,0,_,h=>absurd h (Nat.not_lt_zero _)
 | 0,i,k+1,e,_=>by
  have:i=n:=by omega
  subst this
  right
  refine⟨fun j h1 h2=>by omega,?_⟩
  simp only[y3,hb i (Nat.le_refl _),Nat.lt_irrefl,decide_false,cond_false]
 | m+1,i,k+1,e,hk=>by
  simp only[y3,hb i (by omega),show i<n by omega,decide_true,cond_true]
  cases hq:q i with
  | true=>exact .inl ⟨⟨i,Nat.le_refl _,by omega,hq⟩,rfl⟩
  | false=>
   simp only[cond_false]
   rcases y7n q r n hb m (i+1) k (by omega) (by omega)with⟨⟨j,h1,h2,h3⟩,h4⟩|⟨h1,h2⟩
   ·exact .inl ⟨⟨j,by omega,h2,h3⟩,h4⟩
   ·refine .inr ⟨fun j h3 h4 => ?_,h2⟩
    by_cases hji:j=i
    ·subst hji;exact hq
    ·exact h1 j (by omega) h4
end Go.Ab

namespace Go.Ab
open Go Go.Proofs
def secQ (a:List Sector) (i:Nat):Bool:=(!(zde (a.getD i default))) || (decide (0<(i:Int)) && decide (((a.getD i default).From)≤((a.getD ((IntKind.wrap .i64 ((i:Int)-1)).toNat) default).From)))
theorem y4y (a:List Sector) (i:Nat) (hi:i<9223372036854775807):secQ a i=false↔zde (a.getD i default)=true∧(0<i→(a.getD (i-1) default).From<(a.getD i default).From):=by
 unfold secQ
 rw[Bool.or_eq_false_iff,Bool.not_eq_false']
 constructor
 ·rintro⟨h1,h2⟩
  refine⟨h1,fun h => ?_⟩
  rw[yjr h (by omega)]at h2
  simp only[Bool.and_eq_false_iff,decide_eq_false_iff_not]at h2
  omega
 ·rintro⟨h1,h2⟩
  refine⟨h1,?_⟩
  by_cases h:0<i
  ·rw[yjr h (by omega)]
   have:=h2 h
   simp only[Bool.and_eq_false_iff,decide_eq_false_iff_not]
   omega
  ·simp only[Bool.and_eq_false_iff,decide_eq_false_iff_not];omega
theorem ybv {s:Sector} (h:zde s=true):brg s.From∧brg s.To:=by
 unfold zde zxh zg at h
 simp only[Bool.and_eq_true,decide_eq_true_eq]at h
 exact⟨⟨h.1.1.1,h.1.1.2⟩,h.1.2.1,h.1.2.2⟩
theorem y42 (a : List Sector) (n : Nat) : ∀ k, k ≤ 1000 → 0 ≤ itR (fun i (s : Int) => s + yee (a.getD i default)) k 0 0 ∧ itR (fun i (s : Int) => s + yee (a.getD i default)) k 0 0 ≤ 360 * k
 | 0,_=>by simp[itR]
 | k+1,h=>by
  have:=y42 a n k (by omega)
  rw[yli]
  have:=y8l (a.getD (0+k) default)
  simp only[Nat.zero_add]at *
  omega
theorem yyb (a:List Sector) (hl:a.length<9223372036854775807):zjb a=zx a:=by
 have sp1:=yvg (b:=y20 a) (secQ a) (fun _ u=>u) false (k:=a.length-0) (i:=0) (s:=()) (fun j u _ _=>by cases u;rfl)
 let hasK (i:Nat):Bool:=(List.range a.length).any fun k=>((k:Int) != (i:Int)) && ztg (a.getD i default) ((a.getD k default).From)
 have im1:=yvg (b:=yaj a) (fun i=>secQ a i || hasK i) (fun i (s:Int)=>IntKind.wrap .i64 (s+zbf (a.getD i default))) false (k:=a.length-0) (i:=0) (s:=0) (fun j u _ _=>by
  simp only[yaj,yu2]
  rw[show((!zde (a.getD j default)) || (decide (0<(j:Int)) && decide (((a.getD j default).From)≤((a.getD ((IntKind.wrap .i64 ((j:Int)-1)).toNat) default).From))))=secQ a j from rfl]
  cases hq:secQ a j with
  | true=>rfl
  | false=>
   simp only[cond_false,Bool.false_or]
   rw[ymd (b:=yjk a j u) (fun k=>((k:Int) != (j:Int)) && ztg (a.getD j default) ((a.getD k default).From)) false (fun k v _ _=>rfl)]
   simp only[Nat.sub_zero,Nat.zero_add]
   show(match (bif hasK j then Except.error false else Except.ok ())with|.error e=>Except.error e|.ok s2=>Except.ok (IntKind.wrap .i64 (u+zbf (a.getD j default))))=bif hasK j then Except.error false else Except.ok (IntKind.wrap .i64 (u+zbf (a.getD j default)))
   cases hasK j<;>rfl)
 unfold zjb zx
 rcases sp1 with⟨⟨j,_,hj,hq⟩,e1⟩|⟨hq,e1⟩
 ·rcases im1 with⟨_,e2⟩|⟨hn,_⟩
  ·rw[e1,e2]
   cases decide (12<(a.length:Int))<;>rfl
  ·have:=hn j (Nat.zero_le _) hj
   simp only[hq,Bool.true_or]at this
   cases this
 ·have hq':∀ i,i<a.length→zde (a.getD i default)=true∧(0<i→(a.getD (i-1) default).From<(a.getD i default).From):=fun i hi=>(y4y a i (by omega)).1 (hq i (Nat.zero_le _) (by omega))
  have hb:∀ i,i<a.length→brg (a.getD i default).From∧brg (a.getD i default).To:=fun i hi=>ybv (hq' i hi).1
  have hs:∀ i,i+1<a.length→(a.getD i default).From<(a.getD (i+1) default).From:=fun i hi=>by have:=(hq' (i+1) hi).2 (by omega);simpa using this
  rw[e1]
  simp only
  have apart:=y8z (f:=fun i=>(a.getD i default).From) (arc:=fun i=>yee (a.getD i default)) (n:=a.length) (fun i hi=>(hb i hi).1) hs
  -- the reference's second loop
  let q2 (j:Nat):Bool:=decide (1<a.length) && decide ((((a.getD ((j+1) % a.length) default).From-(a.getD j default).From+360) % 360)<yee (a.getD j default))
  have sp2:=y7n (b:=ymv a ()) q2 false (if 1<a.length then a.length else 0) (fun j hj=>by
   simp only[ymv]
   by_cases hn:1<a.length
   ·rw[if_pos hn]at hj ⊢
    have d1:decide ((1:Int)<(a.length:Int))=true:=by simp;omega
    rw[d1,Bool.and_true]
    by_cases hjl:j<a.length
    ·have d2:decide ((j:Int)<(a.length:Int))=true:=by simp;omega
     rw[d2,decide_eq_true hjl]
     simp only[cond_true]
     have w1:IntKind.wrap .i64 ((j:Int)+1)=((j+1:Nat):Int):=by rw[IntKind.wrap_i64];omega
     have t1:((IntKind.wrap .i64 ((j:Int)+1)).tmod (a.length:Int)).toNat=(j+1) % a.length:=by
      rw[w1,Int.tmod_eq_emod_of_nonneg (by omega),show((j+1:Nat):Int) % (a.length:Int)=(((j+1) % a.length:Nat):Int)from rfl,Int.toNat_natCast]
     rw[t1,Int.toNat_natCast,yl7 _ (hb j hjl).1 (hb j hjl).2,w1]
     have hm:(j+1) % a.length<a.length:=Nat.mod_lt _ (by omega)
     have b1:=(hb _ hm).1
     have b2:=(hb j hjl).1
     obtain⟨c1,c2⟩:=b1
     obtain⟨c3,c4⟩:=b2
     rw[w64 (x:=(a.getD ((j+1) % a.length) default).From-(a.getD j default).From) (by omega) (by omega),w64 (x:=(a.getD ((j+1) % a.length) default).From-(a.getD j default).From+360) (by omega) (by omega),Int.tmod_eq_emod_of_nonneg (by omega)]
     show _=bif q2 j then _ else _
     rw[show q2 j=decide ((((a.getD ((j+1) % a.length) default).From-(a.getD j default).From+360) % 360)<yee (a.getD j default))from by show(decide (1<a.length) && _)=_;rw[decide_eq_true hn,Bool.true_and]]
    ·have d2:decide ((j:Int)<(a.length:Int))=false:=by simp;omega
     rw[d2,decide_eq_false hjl]
     rfl
   ·rw[if_neg hn]at hj ⊢
    have d1:decide ((1:Int)<(a.length:Int))=false:=by simp;omega
    have d3:decide (j<0)=false:=by simp
    rw[d1,Bool.and_false,d3]
    rfl) (if 1<a.length then a.length else 0) 0 (a.length-(0:Int).toNat+1) (by omega) (by simp;split<;>omega)
  have e0:((0:Nat):Int)=0:=rfl
  rw[e0]at sp2
  -- what the program's loop says
  have hask:∀ i,i<a.length→(hasK i=false↔∀ k,k<a.length→k≠i→yee (a.getD i default)≤((a.getD k default).From-(a.getD i default).From) % 360):=by
   intro i hi
   show((List.range a.length).any _)=false↔_
   rw[List.any_eq_false]
   constructor
   ·intro h k hk hki
    have:=h k (List.mem_range.2 hk)
    rw[y6y _ _ (hb i hi).1 (hb i hi).2 (hb k hk).1]at this
    simp only[Bool.and_eq_true,bne_iff_ne,decide_eq_true_eq,not_and]at this
    have:=this (by omega)
    omega
   ·intro h k hk
    have hk:=List.mem_range.1 hk
    rw[y6y _ _ (hb i hi).1 (hb i hi).2 (hb k hk).1]
    simp only[Bool.and_eq_true,bne_iff_ne,decide_eq_true_eq,not_and]
    intro hki
    have:=h k hk (by omega)
    omega
  rcases im1 with⟨⟨i,_,hi,hc⟩,e2⟩|⟨hn,e2⟩
  · -- two sectors meet
   rw[e2]
   simp only
   have hi:i<a.length:=by omega
   rw[hq i (Nat.zero_le _) (by omega),Bool.false_or]at hc
   have hne:¬ ∀ k,k<a.length→k≠i→yee (a.getD i default)≤((a.getD k default).From-(a.getD i default).From) % 360:=fun h=>by
    rw[(hask i hi).2 h]at hc;cases hc
   have hno:¬ (1<a.length→∀ i,i<a.length→yee (a.getD i default)≤((a.getD ((i+1) % a.length) default).From-(a.getD i default).From+360) % 360):=fun h=>hne (fun k hk hki=>apart.2 h i hi k hk hki)
   cases decide (12<(a.length:Int))with
   | true=>rfl
   | false=>
    simp only[cond_false]
    rcases sp2 with⟨_,e3⟩|⟨h3,_⟩
    ·rw[e3]
    ·exfalso
     apply hno
     intro hn1 j hj
     have:=h3 j (Nat.zero_le _) (by rw[if_pos hn1];exact hj)
     have:decide ((((a.getD ((j+1) % a.length) default).From-(a.getD j default).From+360) % 360)<yee (a.getD j default))=false:=by
      have h4:(decide (1<a.length) && _)=false:=this
      rwa [decide_eq_true hn1,Bool.true_and]at h4
     have:=of_decide_eq_false this
     omega
  ·rw[e2]
   simp only[zxc]
   have hall:∀ i,i<a.length→∀ k,k<a.length→k≠i→yee (a.getD i default)≤((a.getD k default).From-(a.getD i default).From) % 360:=fun i hi=>(hask i hi).1 (by
    have:=hn i (Nat.zero_le _) (by omega)
    rw[Bool.or_eq_false_iff]at this
    exact this.2)
   have hcons:=apart.1 hall
   have e3:y3 (ymv a ()) (a.length-(0:Int).toNat+1) 0=.error (.inr ((if 1<a.length then a.length else 0:Nat):Int)):=by
    rcases sp2 with⟨⟨j,_,hj,h4⟩,_⟩|⟨_,e3⟩
    ·exfalso
     have h4:(decide (1<a.length) && decide ((((a.getD ((j+1) % a.length) default).From-(a.getD j default).From+360) % 360)<yee (a.getD j default)))=true:=h4
     rw[Bool.and_eq_true]at h4
     have g1:=of_decide_eq_true h4.1
     have g2:=of_decide_eq_true h4.2
     rw[if_pos g1]at hj
     have:=hcons g1 j hj
     omega
    ·exact e3
   rw[e3]
   simp only
   cases h12:decide (12<(a.length:Int))with
   | true=>
    have:=of_decide_eq_true h12
    rw[decide_eq_false (show ¬ (a.length:Int)≤12 by omega),Bool.false_and]
    rfl
   | false=>
    have h12:=of_decide_eq_false h12
    rw[decide_eq_true (show(a.length:Int)≤12 by omega),Bool.true_and]
    simp only[cond_false]
    have hit:∀ k,k≤a.length→itR (fun i (s:Int)=>IntKind.wrap .i64 (s+zbf (a.getD i default))) k 0 0=itR (fun i (s:Int)=>s+yee (a.getD i default)) k 0 0:=by
     intro k
     induction k with
     | zero=>intro _;rfl
     | succ k ih=>
      intro hk
      rw[yli,yli,ih (by omega)]
      simp only[Nat.zero_add]
      have r1:=y42 a 0 k (by omega)
      rw[ykz _ (hb k (by omega)).1 (hb k (by omega)).2]
      have r2:=y8l (a.getD k default)
      exact w64 (by omega) (by omega)
    have hle:=yd8 (f:=fun i=>(a.getD i default).From) (arc:=fun i=>yee (a.getD i default)) (S:=fun k=>itR (fun i (s:Int)=>s+yee (a.getD i default)) k 0 0) (n:=a.length) (fun i hi=>(hb i hi).1) hs (fun i _=>y8l _) hcons rfl (fun i _=>by
     show itR _ (i+1) 0 0=_
     rw[yli]
     simp only[Nat.zero_add])
    rw[hit _ (by omega)]
    exact decide_eq_true (by simpa using hle)
end Go.Ab

namespace Go.Ab
open Go Go.Proofs
theorem yp3 (l:List (List UInt8)) (x:List UInt8):zae l x=l.any (fun y=>y == x):=by
 unfold zae zvf
 rcases y4h (b:=y1s l x) (fun j=>x == l.getD j default) (fun j=>(j:Int)) (k:=l.length-0) (i:=0) (s:=()) (fun j u _ _=>rfl)with⟨j,_,h2,h3,h4,h5⟩|⟨h1,h2⟩
 ·rw[h5]
  simp only
  rw[decide_eq_true (show(0:Int)≤(j:Int)by omega)]
  symm
  rw[List.any_eq_true]
  have hj:j<l.length:=by omega
  have h3:(x == l.getD j default)=true:=h3
  have h3:=eq_of_beq h3
  refine⟨l.getD j default,?_,by rw[← h3];simp⟩
  rw[List.getD_eq_getElem?_getD,List.getElem?_eq_getElem hj]
  exact List.getElem_mem hj
 ·rw[h2]
  simp only
  rw[decide_eq_false (show ¬ (0:Int) ≤ -1 by omega)]
  symm
  rw[List.any_eq_false]
  intro y hy
  obtain⟨i,hi,rfl⟩:=List.getElem_of_mem hy
  have:(x == l.getD i default)=false:=h1 i (Nat.zero_le _) (by omega)
  rw[List.getD_eq_getElem?_getD,List.getElem?_eq_getElem hi,Option.getD_some]at this
  intro h
  rw[eq_of_beq h]at this
  simp at this
theorem yue {k:Int} (h:zbc k=true):k=1∨k=2∨k=3∨k=4∨k=5∨k=6∨k=7∨k=8∨k=9:=by
 unfold zbc zg at h
 simp only[Bool.and_eq_true,decide_eq_true_eq]at h
 omega
theorem ytp {k:Int} (h:zbc k=true):zfe k=znd k:=by
 rcases yue h with rfl|rfl|rfl|rfl|rfl|rfl|rfl|rfl|rfl<;>rfl
theorem yz0 {k:Int} (h:zbc k=true):zge k=zne k:=by
 rcases yue h with rfl|rfl|rfl|rfl|rfl|rfl|rfl|rfl|rfl<;>rfl
theorem ydq {k:Int} (h:zbc k=true):zhc k=zy k:=by
 rcases yue h with rfl|rfl|rfl|rfl|rfl|rfl|rfl|rfl|rfl<;>decide
theorem y4j (m:Mark):(match ye (ygn m) (((zy m.Kind).length)-0) 0 ()with|.error e=>e|.ok s1=>false)=(zy m.Kind).any (fun y=>y == m.Shape):=by
 rcases y4h (b:=ygn m) (fun j=>(zy m.Kind).getD j default == m.Shape) (fun _=>true) (k:=(zy m.Kind).length-0) (i:=0) (s:=()) (fun j u _ _=>rfl)with⟨j,_,h2,h3,h4,h5⟩|⟨h1,h2⟩
 ·rw[h5]
  simp only
  symm
  rw[List.any_eq_true]
  have hj:j<(zy m.Kind).length:=by omega
  refine⟨(zy m.Kind).getD j default,?_,h3⟩
  rw[List.getD_eq_getElem?_getD,List.getElem?_eq_getElem hj]
  exact List.getElem_mem hj
 ·rw[h2]
  simp only
  symm
  rw[List.any_eq_false]
  intro y hy
  obtain⟨i,hi,rfl⟩:=List.getElem_of_mem hy
  have:((zy m.Kind).getD i default == m.Shape)=false:=h1 i (Nat.zero_le _) (by omega)
  rw[List.getD_eq_getElem?_getD,List.getElem?_eq_getElem hi,Option.getD_some]at this
  rw[this];decide
theorem y1bb (m:Mark):zdc m=(bif (m.Kind == 0)then(m.Kind == 0 && (m.Colors == [] && (m.Shape == [] && m.Topmark == [])))else(bif (((!(zbc m.Kind)) || (m.Colors != (znd m.Kind))) || ((m.Topmark != []) && (m.Topmark != (zne m.Kind))))then false else(zy m.Kind).any (fun y=>y == m.Shape))):=by
 unfold zdc
 have hk:zkd m.Kind=zbc m.Kind:=rfl
 rw[hk]
 cases h0:(m.Kind == 0)with
 | true=>
  have e:=eq_of_beq h0
  have hn:zbc m.Kind=false:=by rw[e];rfl
  simp only[Bool.true_and,cond_true,hn,Bool.false_and]
  cases(m.Colors == [] && (m.Shape == [] && m.Topmark == []))<;>rfl
 | false=>
  simp only[Bool.false_and,cond_false]
  cases h1:zbc m.Kind with
  | false=>rfl
  | true=>
   rw[ytp h1,yz0 h1,ydq h1,yp3]
   simp only[Bool.true_and,Bool.not_true,Bool.false_or,bne]
   cases(m.Colors == znd m.Kind)<;>cases(m.Topmark == [])<;>cases(m.Topmark == zne m.Kind)<;>simp
theorem yld (m:Mark):zdc m=zie m:=by
 rw[y1bb]
 unfold zie zgb
 have hs:=y4j m
 generalize ye (ygn m) ((zy m.Kind).length-0) 0 ()=z at hs ⊢
 cases z with
 | error e=>simp only at hs ⊢;rw[hs]
 | ok u=>simp only at hs ⊢;rw[hs]
end Go.Ab

namespace Go.Ab
open Go Go.Proofs
theorem y5s {b:Nat→Unit→Except Bool Unit} {n:Nat} {p:Nat→Bool} {x:Bool} (hb:∀ j u,j<n→b j u=bif p j then .error false else .ok ()) :
  ((match ye b (n-0) 0 ()with|.error e=>e|.ok _=>x)=true)↔(∀ j,j<n→p j=false)∧x=true:=by
 rw[ymd (b:=b) p false (fun j u _ h=>hb j u (by omega))]
 simp only[Nat.sub_zero,Nat.zero_add]
 cases h:(List.range n).any (fun j=>p j)with
 | true=>
  simp only[cond_true]
  obtain⟨j,h1,h2⟩:=List.any_eq_true.1 h
  constructor
  ·intro h;cases h
  ·rintro⟨h3,_⟩;rw[h3 j (List.mem_range.1 h1)]at h2;cases h2
 | false=>
  simp only[cond_false]
  rw[List.any_eq_false]at h
  exact⟨fun hx=>⟨fun j hj=>by simpa using h j (List.mem_range.2 hj),hx⟩,fun hx=>hx.2⟩
theorem y10 (a:List UInt8):zpf a=true↔a≠[]∧a.length≤10∧∀ j,j<a.length→((97≤(a.getD j 0).toNat∧(a.getD j 0).toNat≤122)∨(j≠0∧48≤(a.getD j 0).toNat∧(a.getD j 0).toNat≤57)):=by
 unfold zpf
 refine(y5s (n:=a.length) (p:=fun j=>_) (fun j u _=>by rfl)).trans ?_
 simp only[zxc,zbi,Bool.and_eq_true,bne_iff_ne,decide_eq_true_eq]
 constructor
 ·rintro⟨h1,h2,h3⟩
  refine⟨h2,by omega,fun j hj => ?_⟩
  have:=h1 j hj
  simp[-List.getD_eq_getElem?_getD]at this
  omega
 ·rintro⟨h2,h3,h1⟩
  refine⟨fun j hj => ?_,h2,by omega⟩
  have:=h1 j hj
  simp[-List.getD_eq_getElem?_getD]
  omega
theorem ytl (a:List UInt8):zvd a=true↔a≠[]∧a.length≤10∧∀ j,j<a.length→((97≤(a.getD j 0).toNat∧(a.getD j 0).toNat≤122)∨(j≠0∧48≤(a.getD j 0).toNat∧(a.getD j 0).toNat≤57)):=by
 unfold zvd
 by_cases hn:a=[]
 ·subst hn;simp
 by_cases h10:10<a.length
 ·have:((a == []) || decide (10<(a.length:Int)))=true:=by simp;right;omega
  rw[this];simp;omega
 have hp:0<a.length:=by cases a<;>simp_all
 have:((a == []) || decide (10<(a.length:Int)))=false:=by simp;exact⟨hn,by omega⟩
 rw[this]
 by_cases hs:zzf ((a.getD 0 0).toNat:Int)=true
 ·rw[hs]
  refine(y5s (n:=a.length) (p:=fun j=>_) (fun j u _=>by rfl)).trans ?_
  simp only[zzf,Bool.and_eq_true,decide_eq_true_eq]at hs
  constructor
  ·rintro⟨h1,_⟩
   refine⟨hn,by omega,fun j hj => ?_⟩
   have:=h1 j hj
   simp[zzf,zyf,-List.getD_eq_getElem?_getD]at this
   by_cases hj0:j=0
   ·subst hj0;omega
   ·omega
  ·rintro⟨_,_,h1⟩
   refine⟨fun j hj => ?_,rfl⟩
   have:=h1 j hj
   simp[zzf,zyf,-List.getD_eq_getElem?_getD]
   omega
 ·have hs':zzf ((a.getD 0 0).toNat:Int)=false:=by simpa using hs
  rw[hs']
  simp only[Bool.not_false,Bool.or_true,cond_true]
  constructor
  ·intro h;cases h
  ·rintro⟨_,_,h1⟩
   have:=h1 0 hp
   exfalso
   apply hs
   simp[zzf,-List.getD_eq_getElem?_getD]
   simp[-List.getD_eq_getElem?_getD]at this
   omega
theorem yfab (a:List UInt8):zpf a=zvd a:=Bool.eq_iff_iff.2 ((y10 a).trans (ytl a).symm)
end Go.Ab

namespace Go.Ab
open Go Go.Proofs
theorem ycs {ρ σ τ:Type} {b1:Nat→σ→Except ρ σ} {b2:Nat→τ→Except ρ τ} (R:Nat→σ→τ→Prop):∀ {k i:Nat} {s:σ} {t:τ},R i s t →
  (∀ j u v,i≤j→j<i+k→R j u v→(∃ r,b1 j u=.error r∧b2 j v=.error r)∨∃ u' v',b1 j u=.ok u'∧b2 j v=.ok v'∧R (j+1) u' v') →
  (∃ r,ye b1 k i s=.error r∧ye b2 k i t=.error r)∨∃ u v,ye b1 k i s=.ok u∧ye b2 k i t=.ok v∧R (i+k) u v
 | 0,i,s,t,h,_=>.inr ⟨s,t,rfl,rfl,h⟩
 | k+1,i,s,t,h,hb=>by
  simp only[ye]
  rcases hb i s t (Nat.le_refl _) (by omega) h with⟨r,h1,h2⟩|⟨u,v,h1,h2,h3⟩
  ·rw[h1,h2];exact .inl ⟨r,rfl,rfl⟩
  ·rw[h1,h2]
   have:=ycs R (k:=k) (i:=i+1) h3 (fun j u v q1 q2 q3=>hb j u v (by omega) (by omega) q3)
   rwa [show i+1+k=i+(k+1)by omega]at this
theorem yfj {α σ ρ : Type} (p : α → Bool) (f : σ → α → σ) (r : ρ) : ∀ (l : List α) (s : σ), ybm (fun x s => (bif !(p x) then .error r else .ok (f s x) : Except ρ σ)) l s = bif l.all p then .ok (l.foldl f s) else .error r
 | [],s=>by simp[ybm]
 | x::l,s=>by
  rw[y7g]
  cases hx:p x with
  | false=>simp[hx]
  | true=>
   simp only[Bool.not_true,cond_false,List.all_cons,hx,Bool.true_and,List.foldl_cons]
   exact yfj p f r l (f s x)
def yu0 (g:List Int):Prop:=g.length≤4∧(∀ v∈g,1≤v∧v≤9)∧g.sum≤12∧g≠[1]
theorem y5g (g:List Int):g.all (fun v=>ze v 1 9)=true↔∀ v∈g,1≤v∧v≤9:=by
 rw[List.all_eq_true]
 exact⟨fun h v hv=>by simpa [ze]using h v hv,fun h v hv=>by simpa [ze]using h v hv⟩
theorem wsum (g:List Int) (h:g.length≤4) (hv:∀ v∈g,1≤v∧v≤9):g.foldl (fun s x=>IntKind.wrap .i64 (s+x)) 0=g.sum:=by
 have hw:∀ n:Int,-1000≤n→n≤1000→IntKind.wrap .i64 n=n:=fun n _ _=>by rw[IntKind.wrap_i64];omega
 match g,h,hv with
 | [],_,_=>rfl
 | [a],_,hv=>
  have:=hv a (by simp)
  simp only[List.foldl_cons,List.foldl_nil,List.sum_cons,List.sum_nil]
  rw[hw _ (by omega) (by omega)];omega
 | [a,b],_,hv=>
  have:=hv a (by simp);have:=hv b (by simp)
  simp only[List.foldl_cons,List.foldl_nil,List.sum_cons,List.sum_nil]
  rw[hw (0+a) (by omega) (by omega),hw _ (by omega) (by omega)];omega
 | [a,b,c],_,hv=>
  have:=hv a (by simp);have:=hv b (by simp);have:=hv c (by simp)
  simp only[List.foldl_cons,List.foldl_nil,List.sum_cons,List.sum_nil]
  rw[hw (0+a) (by omega) (by omega),hw (0+a+b) (by omega) (by omega),hw _ (by omega) (by omega)];omega
 | [a,b,c,d],_,hv=>
  have:=hv a (by simp);have:=hv b (by simp);have:=hv c (by simp);have:=hv d (by simp)
  simp only[List.foldl_cons,List.foldl_nil,List.sum_cons,List.sum_nil]
  rw[hw (0+a) (by omega) (by omega),hw (0+a+b) (by omega) (by omega),hw (0+a+b+c) (by omega) (by omega),hw _ (by omega) (by omega)];omega
theorem y3bb (x y:Int):(x != y) = !decide (x=y):=by by_cases h:x=y<;>simp[h]
theorem ydg (a b:List Int):zuc a b=decide (a=b):=by
 unfold zuc
 by_cases hl:a.length=b.length
 ·have h1:((a.length:Int) != (b.length:Int))=false:=by rw[hl];simp
  rw[h1]
  simp only[cond_false]
  rw[ymd (b:=yyn a b) (fun j => !decide (a.getD j default=b.getD j default)) false (fun j u _ _=>by
   simp only[yyn,y3bb])]
  simp only[Nat.sub_zero,Nat.zero_add]
  rw[ybs a b hl]
  by_cases h:a=b<;>simp[h]
 ·have h1:((a.length:Int) != (b.length:Int))=true:=by simp;omega
  rw[h1]
  have:¬ a=b:=fun h=>hl (by rw[h])
  simp[this]
theorem y3l (g:List Int):zve g=true↔yu0 g:=by
 unfold zve
 rw[y4d (b:=yer g) (fun(x:Int) (s:Int)=>(bif !(ze x 1 9)then .error false else .ok (IntKind.wrap .i64 (s+x)):Except Bool Int)) g 0 (fun j u _=>rfl),yfj (fun x=>ze x 1 9) (fun s x=>IntKind.wrap .i64 (s+x)) false]
 unfold yu0
 cases ha:g.all (fun x=>ze x 1 9)with
 | false=>
  simp only[cond_false]
  constructor
  ·intro h;cases h
  ·rintro⟨_,h,_⟩
   rw[(y5g g).2 h]at ha;cases ha
 | true=>
  have hv:=(y5g g).1 ha
  simp only[cond_true,ydg,zxc,Bool.and_eq_true,decide_eq_true_eq,Bool.not_eq_true',decide_eq_false_iff_not]
  constructor
  ·rintro⟨⟨h1,h2⟩,h3⟩
   rw[wsum g (by omega) hv]at h2
   exact⟨by omega,hv,h2,h3⟩
  ·rintro⟨h1,_,h2,h3⟩
   rw[wsum g h1 hv]
   exact⟨⟨by omega,h2⟩,h3⟩
theorem ykg (g:List Int):zoe g=true↔yu0 g:=by
 unfold zoe
 rw[y4d (b:=yws g) (fun(x:Int) (s:Unit)=>(bif !(ze x 1 9)then .error false else .ok ():Except Bool Unit)) g () (fun j u _=>rfl),yfj (fun x=>ze x 1 9) (fun(s:Unit) x=>()) false]
 unfold yu0
 cases ha:g.all (fun x=>ze x 1 9)with
 | false=>
  simp only[cond_false]
  constructor
  ·intro h;cases h
  ·rintro⟨_,h,_⟩
   rw[(y5g g).2 h]at ha;cases ha
 | true=>
  have hv:=(y5g g).1 ha
  have hsum:g.length≤4→(zqf g≤12↔g.sum≤12):=by
   intro h4
   unfold zqf
   cases g with
   | nil=>simp
   | cons x t=>
    have h0:(((x::t).length:Int) == 0)=false:=by rw[beq_eq_false_iff_ne];simp only[List.length_cons];omega
    rw[h0]
    simp only[cond_false]
    rw[y4d (b:=ywt (x::t)) (fun(y:Int) (s:Int)=>(bif !((fun _=>true) y)then .error 0 else .ok (IntKind.wrap .i64 (s+y)):Except Int Int)) (x::t) 0 (fun j u _=>rfl),yfj (fun _=>true) (fun s x=>IntKind.wrap .i64 (s+x)) 0]
    rw[show(x::t).all (fun _=>true)=true by simp]
    simp only[cond_true]
    rw[wsum _ h4 hv]
  have hone:(!(((g.length:Int) == 1) && (g.getD 0 default == 1)))=true↔g≠[1]:=by
   match g with
   | []=>simp
   | [a]=>simp
   | a::b::t=>
    have:((((a::b::t).length:Int)) == 1)=false:=by rw[beq_eq_false_iff_ne];simp only[List.length_cons];omega
    rw[this];simp
  simp only[cond_true]
  rw[Bool.and_eq_true,Bool.and_eq_true,hone,decide_eq_true_eq,decide_eq_true_eq]
  constructor
  ·rintro⟨⟨h1,h2⟩,h3⟩
   exact⟨by omega,hv,(hsum (by omega)).1 h3,h2⟩
  ·rintro⟨h1,_,h2,h3⟩
   exact⟨⟨by omega,h3⟩,(hsum h1).2 h2⟩
end Go.Ab

namespace Go.Ab
open Go Go.Proofs
set_option maxRecDepth 10000 in
theorem yq7:∀ n:Fin 256,zig (n.val:Int)=zgg [87,82,71,89] (n.val:Int)+1 ∧ -1≤zgg [87,82,71,89] (n.val:Int):=by decide
theorem ygab (b:UInt8):zig (b.toNat:Int)=zgg [87,82,71,89] (b.toNat:Int)+1 ∧ -1≤zgg [87,82,71,89] (b.toNat:Int):=
 yq7 ⟨b.toNat,b.toNat_lt⟩
theorem y5r (s:List UInt8) (hl:s.length<9223372036854775808):zqc s=zfd s:=by
 unfold zqc zfd
 have hs:=ycs (b1:=yzi s) (b2:=y0i s) (fun i (x:Int) (_:Unit)=>if i=0 then x = -1 else x+1=zig ((s.getD (i-1) 0).toNat:Int)∧0≤x) (k:=s.length-0) (i:=0) (s := -1) (t:=()) (by simp) (by
  intro j x u _ hj h
  unfold yzi y0i
  obtain⟨r1,r2⟩:=ygab (s.getD j 0)
  rw[r1]
  generalize zgg [87,82,71,89] ((s.getD j 0).toNat:Int)=p at *
  by_cases h0:j=0
  ·subst h0
   rw[if_pos rfl]at h
   subst h
   simp only[Int.natCast_zero,show decide ((0:Int)<0)=false from rfl,Bool.false_and,Bool.or_false]
   by_cases hp:p = -1
   ·subst hp;left;exact⟨false,rfl,rfl⟩
   ·right
    have d1:decide (p ≤ -1)=false:=decide_eq_false (by omega)
    have d2:(p+1 == 0)=false:=by rw[beq_eq_false_iff_ne];omega
    rw[d1,d2]
    exact⟨p,(),rfl,rfl,by rw[if_neg (by omega)];exact⟨r1.symm,by omega⟩⟩
  ·rw[if_neg h0]at h
   obtain⟨h1,h2⟩:=h
   have d3:decide (0<(j:Int))=true:=decide_eq_true (by omega)
   have hw:(IntKind.wrap .i64 ((j:Int)-1)).toNat=j-1:=by rw[IntKind.wrap_i64];omega
   rw[d3,hw, ← h1]
   simp only[Bool.true_and]
   by_cases hp:p≤x
   ·left
    have d1:decide (p≤x)=true:=decide_eq_true hp
    have d2:(p+1 == 0 || decide (p+1≤x+1))=true:=by
     rw[Bool.or_eq_true,decide_eq_true_eq];right;omega
    rw[d1,d2]
    exact⟨false,rfl,rfl⟩
   ·right
    have d1:decide (p≤x)=false:=decide_eq_false hp
    have d2:(p+1 == 0 || decide (p+1≤x+1))=false:=by
     rw[Bool.or_eq_false_iff,beq_eq_false_iff_ne,decide_eq_false_iff_not];omega
    rw[d1,d2]
    exact⟨p,(),rfl,rfl,by rw[if_neg (by omega)];exact⟨by rw[show j+1-1=j by omega];exact r1.symm,by omega⟩⟩)
 rcases hs with⟨r,h1,h2⟩|⟨u,v,h1,h2,_⟩
 ·rw[h1,h2]
 ·rw[h1,h2]
  simp only[ze]
end Go.Ab

namespace Go.Ab
open Go Go.Proofs
theorem y92 {g:List Int} (h:g.length=1) (lo hi:Int) (hr:lo≤g.getD 0 default∧g.getD 0 default≤hi):∀ v∈g,lo≤v∧v≤hi:=by
 obtain⟨x,rfl⟩:=List.length_eq_one_iff.1 h
 intro v hv
 rw[List.mem_singleton]at hv;subst hv
 simpa using hr
theorem y0h {g:List Int} (h:(g.length:Int)=0):g.length≤4∧∀ v∈g,1≤v∧v≤9:=by
 have:g=[]:=List.length_eq_zero_iff.1 (by omega)
 subst this;simp
theorem yhe (a:Character) (h:zqb a=true):a.Group.length≤4∧∀ v∈a.Group,1≤v∧v≤9:=by
  unfold zqb at h
  simp only[Bool.cond_eq_ite]at h
  repeat' split at h
  all_goals (try simp only[Bool.and_eq_true,Bool.or_eq_true,beq_iff_eq,ydg,decide_eq_true_eq,ze]at h)
  all_goals first
    | exact y0h h.1
    | exact y0h h.2
    | (have:=(y3l _).1 h.2;exact⟨this.1,this.2.1⟩)
    | (rcases h with h | h
       · exact y0h h
       · exact⟨by omega,fun v hv=>by have:=y92 (g:=a.Group) (by omega) 2 9 h.2 v hv;omega⟩)
    | (rw[h.2];simp)
    | (cases h)
theorem yym (a:Character) (h:zag a=true):a.Group.length≤4∧(∀ v∈a.Group,1≤v∧v≤9)∧(a.Kind=8→a.Letter.length=1∧65≤(a.Letter.getD 0 0).toNat∧(a.Letter.getD 0 0).toNat≤90):=by
 unfold zag at h
 simp only[Bool.cond_eq_ite]at h
 repeat' split at h
 all_goals (try simp only[Bool.and_eq_true,Bool.or_eq_true,beq_iff_eq,decide_eq_true_eq]at *)
 all_goals first
  | (cases h;done)
  | (exact⟨(y0h h.1).1,(y0h h.1).2,by intro h8;omega⟩)
  | (exact⟨by omega,fun v hv=>by have:=y92 (g:=a.Group) (by omega) 6 6 (by omega) v hv;omega,by intro h8;omega⟩)
  | (have:=(ykg _).1 h.2;exact⟨this.1,this.2.1,by intro h8;omega⟩)
  | (exact⟨(y0h h.1.1.1).1,(y0h h.1.1.1).2,fun _=>⟨by omega,by omega,by omega⟩⟩)
end Go.Ab

namespace Go.Ab
open Go Go.Proofs
def ye0 (a0:Character) (i1:Nat) (s1:List Int):Except ((List Int)) (List Int):=
 (bif decide (0<(i1:Int))then(bif ((((zlc a0.Letter).getD i1 0).toNat:Int) == 45)then .ok ((s1++([(zcb a0.Kind).2.1]:List Int))++([IntKind.wrap .i64 (3 * ((zcb a0.Kind).1))]:List Int))else .ok ((s1++([(zcb a0.Kind).2.1]:List Int))++([(zcb a0.Kind).1]:List Int)))else(bif ((((zlc a0.Letter).getD i1 0).toNat:Int) == 45)then .ok (s1++([IntKind.wrap .i64 (3 * ((zcb a0.Kind).1))]:List Int))else .ok (s1++([(zcb a0.Kind).1]:List Int))))
def yg0 (a0:Character) (i2:Nat) (s2:List Int) (i3:Nat) (s3:List Int):Except ((List Int)) (List Int):=
 (bif decide (0<(i3:Int))then .ok ((s3++([(zcb a0.Kind).2.1]:List Int))++([(zcb a0.Kind).1]:List Int))else(bif decide (0<(i2:Int))then .ok ((s3++([IntKind.wrap .i64 (((zcb a0.Kind).2.1)+20)]:List Int))++([(zcb a0.Kind).1]:List Int))else .ok (s3++([(zcb a0.Kind).1]:List Int))))
def yr0 (a0:Character) (i2:Nat) (s2:List Int):Except ((List Int)) (List Int):=
 (match ye (yg0 a0 i2 s2) (((([1]:List Int).getD i2 default)).toNat-0) 0 s2 with|.error e=>.error e|.ok s3=>.ok s3)
def ynz (a0:Character) (i4:Nat) (s4:List Int) (i5:Nat) (s5:List Int):Except ((List Int)) (List Int):=
 (bif decide (0<(i5:Int))then .ok ((s5++([(zcb a0.Kind).2.1]:List Int))++([(zcb a0.Kind).1]:List Int))else(bif decide (0<(i4:Int))then .ok ((s5++([IntKind.wrap .i64 (((zcb a0.Kind).2.1)+20)]:List Int))++([(zcb a0.Kind).1]:List Int))else .ok (s5++([(zcb a0.Kind).1]:List Int))))
def yj0 (a0:Character) (i4:Nat) (s4:List Int):Except ((List Int)) (List Int):=
 (match ye (ynz a0 i4 s4) (((a0.Group.getD i4 default)).toNat-0) 0 s4 with|.error e=>.error e|.ok s5=>.ok s5)
def zz (a0:Character):(List Int):=
 (bif (a0.Kind == 8)then(match ye (ye0 a0) ((zlc a0.Letter).length-0) 0 ([]:List Int)with|.error e=>e|.ok s1=>s1)else(bif ((a0.Group.length:Int) == 0)then(match ye (yr0 a0) (1-0) 0 ([]:List Int)with|.error e=>e|.ok s2=>(bif (a0.Letter != [])then s2++([(zcb a0.Kind).2.1,20]:List Int)else s2))else(match ye (yj0 a0) (a0.Group.length-0) 0 ([]:List Int)with|.error e=>e|.ok s4=>(bif (a0.Letter != [])then s4++([(zcb a0.Kind).2.1,20]:List Int)else s4))))
namespace N271
theorem DD:DOk Tryz.prog (Go.Ab.DD [(267,dP D_zlc),(269,dP D_zcb)]):=ya ypx.e <| ya ydz.e <| yc _
theorem dn:type_of% (And.intro @D_zlc.eq_1 <| @D_zcb.eq_1):=by and_intros<;>intros<;>rfl
theorem o2 {p:Prop} (h:p:=by(first|(and_intros<;>first|decide|omega|(simp;(first|done|fail))|(rw[IntKind.wrap_i64];have:=hg9 i4;omega)|(rw[IntKind.wrap_i64];have:=hg1 i2;omega)|(rw[IntKind.wrap_i64];omega)|(intro i hi;exact yff _ _ i hi)|(intro i hi;exact yzq _ _ _ i hi)));first|done|fail):p:=h
theorem o3 {p:Prop} (h:p:=by(first|(refine⟨⟨Nat.le_refl _,fun i hi=>yos _ _ _ i hi⟩,.inl fun i hi=>by rw[y2k _ _ _ i hi];simp[NoBorL,NoBor],by simp,fun i hi=>by rw[y2k _ _ _ i hi];exact yab _⟩));first|done|fail):p:=h
theorem lx {p:Prop} (h:p:=by(exact lxx);first|done|fail):p:=h
set_option maxHeartbeats 1000000 in
set_option maxRecDepth 20000 in
theorem den (a0:Character) (hb0:bdCharacter a0) (hp0:a0.Group.length≤4) (hp1:∀ v∈a0.Group,v≤9):Den Tryz.prog 271 [.agg (yg a0)] (ownL 2 1 yr (zz a0)):=by
 generalize hR:zz a0=r
 unfold zz at hR
 refine di Tryz.func271 Tryz.ntmps271 Tryz.results271 ?_
 intro c hL hc hk
 obtain⟨hL0,_⟩:=hL
 have hw0:bwCharacter a0:=yn a0 hL0
 clear hL0
 simp only[pars,Nat.zero_add]
 have hg9:∀ i:Nat,a0.Group.getD i default≤9:=fun i=>ykp hp1 i
 have hs9:=y90 a0.Letter
 have hs8:=ynu a0.Letter
 have hg1:∀ i:Nat,([1]:List Int).getD i default≤9:=fun i=>ykp (by simp) i
 iterate 3 refine rS ?_
 refine AWP.cond rfl (fun hb => ?_) (fun hb => ?_)
 ·replace hR:=ct hR
  iterate 2 refine rS ?_
  refine AWP.block ?_
  refine AWP.lensT 27 rfl (fun hLn1 => ?_)
  generalize hz1:ye (ye0 a0) ((zlc a0.Letter).length-0) 0 ([]:List Int)=z1 at hR
  refine AWP.range (ye0 a0) (fun i1 s1=>⟨[(3,.int .i64 ((zcb a0.Kind).1)),(4,.int .i64 ((zcb a0.Kind).2.1)),(6,.ref 0 1 0 s1.length),(28,.ptr 1 0)],[.arr 2 1 s1.length (fun j=>yr (s1.getD j default)),.it (zlc a0.Letter) i1 (decide (i1<(zlc a0.Letter).length))]⟩) (fun i1 s1=>s1.length≤([]:List Int).length+2 * i1∧s1.length≤2 * i1) ((zlc a0.Letter).length) 0 ([]:List Int) [1,2] hz1 ot wt sm ?_
  clear hz1
  intro i1 s1 hi1 hW1 hz1
  refine AWP.seq ?_
  by_cases hlt1:i1<(zlc a0.Letter).length
  ·rw[yj hlt1]at hz1;simp only[ye0]at hz1
   rw[decide_eq_true hlt1]
   refine rS ?_
   refine AWP.seq ?_
   refine AWP.cond rfl (fun hb => ?_) (fun hb=>by cases hb)
   iterate 2 refine rS ?_
   refine AWP.cond rfl (fun hb => ?_) (fun hb => ?_)
   ·simp only[hb,cond_true]at hz1
    iterate 2 refine rS ?_
    refine AWP.cond rfl (fun hb => ?_) (fun hb => ?_)
    ·simp only[hb,cond_true]at hz1
     refine rS ?_
     exact⟨_,[5,1],hlt1,wt,hz1,sm⟩
    ·simp only[hb,cond_false]at hz1
     refine rS ?_
     exact⟨_,[5,1],hlt1,wt,hz1,sm⟩
   ·simp only[hb,cond_false]at hz1
    refine rS ?_
    refine AWP.cond rfl (fun hb => ?_) (fun hb => ?_)
    ·simp only[hb,cond_true]at hz1
     refine rS ?_
     exact⟨_,[3,1],hlt1,wt,hz1,sm⟩
    ·simp only[hb,cond_false]at hz1
     refine rS ?_
     exact⟨_,[3,1],hlt1,wt,hz1,sm⟩
  ·obtain rfl:i1=(zlc a0.Letter).length:=by omega
   rw[yi (Nat.le_refl _)]at hz1;subst hz1;dsimp only at hR
   simp only[Nat.lt_irrefl,decide_false]
   refine rS ?_
   refine AWP.seq ?_
   refine AWP.cond rfl (fun hb=>by cases hb) (fun hb => ?_)
   refine AWP.exit ?_;refine yb ?_
   refine rS ?_
   refine AWP.ret ?_
   subst hR
   exact es
 ·replace hR:=cf hR
  iterate 2 refine rS ?_
  refine AWP.cond rfl (fun hb => ?_) (fun hb => ?_)
  ·replace hR:=ct hR
   iterate 3 refine rS ?_
   refine AWP.block ?_
   generalize hz2:ye (yr0 a0) (1-0) 0 ([]:List Int)=z2 at hR
   refine AWP.range (yr0 a0) (fun i2 s2=>⟨[(1,.ptr 0 0),(3,.int .i64 ((zcb a0.Kind).1)),(4,.int .i64 ((zcb a0.Kind).2.1)),(10,.ref 1 1 0 s2.length),(58,.ref 2 1 0 1),(59,.int .i64 1),(60,.int .i64 (i2:Int))],[.box [.int .i64 a0.Kind,encL 1 yr a0.Group,.str a0.Letter,.str a0.Colors,.int .i64 a0.Period],.arr 2 1 s2.length (fun j=>yr (s2.getD j default)),.arr 2 1 ([1]:List Int).length (fun j=>yr (([1]:List Int).getD j default))]⟩) (fun i2 s2=>s2.length≤18 * i2) (1) 0 ([]:List Int) [0,2,1] hz2 ot wt sm ?_
   clear hz2
   intro i2 s2 hi2 hW2 hz2
   refine rS ?_
   refine AWP.seq ?_
   refine AWP.cond rfl (fun hb => ?_) (fun hb => ?_)
   ·have hlt2:i2<1:=ot
    rw[yj hlt2]at hz2;simp only[yr0]at hz2
    iterate 2 refine rS ?_
    refine AWP.block ?_
    generalize hz3:ye (yg0 a0 i2 s2) (((([1]:List Int).getD i2 default)).toNat-0) 0 s2=z3 at hz2
    refine AWP.range (yg0 a0 i2 s2) (fun i3 s3=>⟨[(1,.ptr 0 0),(3,.int .i64 ((zcb a0.Kind).1)),(4,.int .i64 ((zcb a0.Kind).2.1)),(10,.ref 1 1 0 s3.length),(11,.int .i64 (i2:Int)),(58,.ref 2 1 0 1),(59,.int .i64 1),(60,.int .i64 (i2:Int)),(65,.int .i64 (([1]:List Int).getD i2 default)),(66,.int .i64 (i3:Int))],[.box [.int .i64 a0.Kind,encL 1 yr a0.Group,.str a0.Letter,.str a0.Colors,.int .i64 a0.Period],.arr 2 1 s3.length (fun j=>yr (s3.getD j default)),.arr 2 1 ([1]:List Int).length (fun j=>yr (([1]:List Int).getD j default))]⟩) (fun i3 s3=>s3.length≤s2.length+2 * i3∧s3.length≤18 * i2+2 * i3) (((([1]:List Int).getD i2 default)).toNat) 0 s2 [0,1,2] hz3 ot wt sm ?_
    clear hz3
    intro i3 s3 hi3 hW3 hz3
    refine rS ?_
    refine AWP.seq ?_
    refine AWP.cond rfl (fun hb => ?_) (fun hb => ?_)
    ·have hlt3:i3<((([1]:List Int).getD i2 default)).toNat:=ot
     rw[yj hlt3]at hz3;simp only[yg0]at hz3
     iterate 2 refine rS ?_
     refine AWP.cond rfl (fun hb => ?_) (fun hb => ?_)
     ·simp only[hb,cond_true]at hz3
      iterate 3 refine rS ?_
      exact⟨_,[0,6,2],hlt3,wt,hz3,sm⟩
     ·simp only[hb,cond_false]at hz3
      refine rS ?_
      refine AWP.cond rfl (fun hb => ?_) (fun hb => ?_)
      ·simp only[hb,cond_true]at hz3
       iterate 3 refine rS ?_
       exact⟨_,[0,6,2],hlt3,wt,hz3,sm⟩
      ·simp only[hb,cond_false]at hz3
       iterate 2 refine rS ?_
       exact⟨_,[0,4,2],hlt3,wt,hz3,sm⟩
    ·obtain rfl:i3=((([1]:List Int).getD i2 default)).toNat:=ot
     rw[yi (Nat.le_refl _)]at hz3;subst hz3;dsimp only at hz2
     refine AWP.exit ?_;refine yb ?_
     refine rS ?_
     exact⟨_,[0,1,2],hlt2,by(have h9:=hg1 i2;omega),hz2,sm⟩
   ·obtain rfl:i2=1:=ot
    rw[yi (Nat.le_refl _)]at hz2;subst hz2;dsimp only at hR
    refine AWP.exit ?_;refine yb ?_
    refine rS ?_
    refine AWP.cond rfl (fun hb => ?_) (fun hb => ?_)
    ·replace hR:=ct hR
     iterate 2 refine rS ?_
     refine AWP.ret ?_
     subst hR
     exact es
    ·replace hR:=cf hR
     refine rS ?_
     refine AWP.ret ?_
     subst hR
     exact es
  ·replace hR:=cf hR
   iterate 2 refine rS ?_
   refine AWP.block ?_
   refine AWP.lensS 9 rfl (fun hLn4 => ?_)
   generalize hz4:ye (yj0 a0) (a0.Group.length-0) 0 ([]:List Int)=z4 at hR
   refine AWP.range (yj0 a0) (fun i4 s4=>⟨[(1,.ptr 0 0),(3,.int .i64 ((zcb a0.Kind).1)),(4,.int .i64 ((zcb a0.Kind).2.1)),(10,.ref 1 1 0 s4.length),(58,encL 1 yr a0.Group),(59,.int .i64 (a0.Group.length:Int)),(60,.int .i64 (i4:Int))],[.box [.int .i64 a0.Kind,encL 1 yr a0.Group,.str a0.Letter,.str a0.Colors,.int .i64 a0.Period],.arr 2 1 s4.length (fun j=>yr (s4.getD j default))]⟩) (fun i4 s4=>s4.length≤18 * i4) (a0.Group.length) 0 ([]:List Int) [0,1] hz4 ot wt sm ?_
   clear hz4
   intro i4 s4 hi4 hW4 hz4
   refine rS ?_
   refine AWP.seq ?_
   refine AWP.cond rfl (fun hb => ?_) (fun hb => ?_)
   ·have hlt4:i4<a0.Group.length:=ot
    rw[yj hlt4]at hz4;simp only[yj0]at hz4
    iterate 2 refine rS ?_
    refine AWP.block ?_
    generalize hz5:ye (ynz a0 i4 s4) (((a0.Group.getD i4 default)).toNat-0) 0 s4=z5 at hz4
    refine AWP.range (ynz a0 i4 s4) (fun i5 s5=>⟨[(1,.ptr 0 0),(3,.int .i64 ((zcb a0.Kind).1)),(4,.int .i64 ((zcb a0.Kind).2.1)),(10,.ref 1 1 0 s5.length),(11,.int .i64 (i4:Int)),(58,encL 1 yr a0.Group),(59,.int .i64 (a0.Group.length:Int)),(60,.int .i64 (i4:Int)),(65,.int .i64 (a0.Group.getD i4 default)),(66,.int .i64 (i5:Int))],[.box [.int .i64 a0.Kind,encL 1 yr a0.Group,.str a0.Letter,.str a0.Colors,.int .i64 a0.Period],.arr 2 1 s5.length (fun j=>yr (s5.getD j default))]⟩) (fun i5 s5=>s5.length≤s4.length+2 * i5∧s5.length≤18 * i4+2 * i5) (((a0.Group.getD i4 default)).toNat) 0 s4 [0,1] hz5 ot wt sm ?_
    clear hz5
    intro i5 s5 hi5 hW5 hz5
    refine rS ?_
    refine AWP.seq ?_
    refine AWP.cond rfl (fun hb => ?_) (fun hb => ?_)
    ·have hlt5:i5<((a0.Group.getD i4 default)).toNat:=ot
     rw[yj hlt5]at hz5;simp only[ynz]at hz5
     iterate 2 refine rS ?_
     refine AWP.cond rfl (fun hb => ?_) (fun hb => ?_)
     ·simp only[hb,cond_true]at hz5
      iterate 3 refine rS ?_
      exact⟨_,[0,5],hlt5,wt,hz5,sm⟩
     ·simp only[hb,cond_false]at hz5
      refine rS ?_
      refine AWP.cond rfl (fun hb => ?_) (fun hb => ?_)
      ·simp only[hb,cond_true]at hz5
       iterate 3 refine rS ?_
       exact⟨_,[0,5],hlt5,wt,hz5,sm⟩
      ·simp only[hb,cond_false]at hz5
       iterate 2 refine rS ?_
       exact⟨_,[0,3],hlt5,wt,hz5,sm⟩
    ·obtain rfl:i5=((a0.Group.getD i4 default)).toNat:=ot
     rw[yi (Nat.le_refl _)]at hz5;subst hz5;dsimp only at hz4
     refine AWP.exit ?_;refine yb ?_
     refine rS ?_
     exact⟨_,[0,1],hlt4,by(have h9:=hg9 i4;omega),hz4,sm⟩
   ·obtain rfl:i4=a0.Group.length:=ot
    rw[yi (Nat.le_refl _)]at hz4;subst hz4;dsimp only at hR
    refine AWP.exit ?_;refine yb ?_
    refine rS ?_
    refine AWP.cond rfl (fun hb => ?_) (fun hb => ?_)
    ·replace hR:=ct hR
     iterate 2 refine rS ?_
     refine AWP.ret ?_
     subst hR
     exact es
    ·replace hR:=cf hR
     refine rS ?_
     refine AWP.ret ?_
     subst hR
     exact es
end N271
def D_zz : DF
 | [x0]=>some (ownL 2 1 yr (zz (rdG yd x0)),false,[wG yg yd x0,bdCharacter (rdG yd x0),(rdG yd x0).Group.length≤4,∀ v∈(rdG yd x0).Group,v≤9])
 | _=>none
theorem yrbb:OkD Tryz.prog 271 D_zz:=by unfold D_zz;exact dk N271.den
end Go.Ab

namespace Go.Ab
open Go Go.Proofs
def zai (a0:Character):Int:=
 (bif (zhe a0)then 0 else(bif (a0.Kind == 3)then 20 else(bif decide (1<(a0.Group.length:Int))then IntKind.wrap .i64 ((zwf (zz a0))+(IntKind.wrap .i64 (((zcb a0.Kind).2.2)+20)))else IntKind.wrap .i64 ((zwf (zz a0))+((zcb a0.Kind).2.2)))))
namespace N192
theorem DD:DOk Tryz.prog (Go.Ab.DD [(191,dP D_zhe),(269,dP D_zcb),(270,dP D_zwf),(271,dP D_zz)]):=ya y9w.e <| ya ydz.e <| ya y34.e <| ya yrbb.e <| yc _
theorem dn:type_of% (And.intro @D_zhe.eq_1 <| And.intro @D_zcb.eq_1 <| And.intro @D_zwf.eq_1 <| @D_zz.eq_1):=by and_intros<;>intros<;>rfl
theorem den (a0:Character) (hb0:bdCharacter a0) (hp0:a0.Group.length≤4) (hp1:∀ v∈a0.Group,v≤9):Den Tryz.prog 192 [.agg (yg a0)] (.int .i64 (zai a0)):=by
 generalize hR:zai a0=r
 unfold zai at hR
 refine di Tryz.func192 Tryz.ntmps192 Tryz.results192 ?_
 intro c hL hc hk
 obtain⟨hL0,_⟩:=hL
 have hw0:bwCharacter a0:=yn a0 hL0
 clear hL0
 simp only[pars,Nat.zero_add]
 iterate 2 refine rS ?_
 refine AWP.cond rfl (fun hb => ?_) (fun hb => ?_)
 ·replace hR:=ct hR
  refine rS ?_
  refine AWP.ret ?_
  subst hR
  exact es
 ·replace hR:=cf hR
  refine rS ?_
  refine AWP.cond rfl (fun hb => ?_) (fun hb => ?_)
  ·replace hR:=ct hR
   refine rS ?_
   refine AWP.ret ?_
   subst hR
   exact es
  ·replace hR:=cf hR
   iterate 2 refine rS ?_
   refine AWP.cond rfl (fun hb => ?_) (fun hb => ?_)
   ·replace hR:=ct hR
    iterate 2 refine rS ?_
    refine AWP.ret ?_
    subst hR
    exact es
   ·replace hR:=cf hR
    refine rS ?_
    refine AWP.ret ?_
    subst hR
    exact es
end N192
def D_zai : DF
 | [x0]=>some (.int .i64 (zai (rdG yd x0)),false,[wG yg yd x0,bdCharacter (rdG yd x0),(rdG yd x0).Group.length≤4,∀ v∈(rdG yd x0).Group,v≤9])
 | _=>none
theorem yn6:OkD Tryz.prog 192 D_zai:=by unfold D_zai;exact dk N192.den
end Go.Ab

namespace Go.Ab
open Go Go.Proofs
def zab (a0:Character):Bool:=
 (bif ((!(zqc a0.Colors)) || (!(zqb a0)))then false else(bif (zhe a0)then(a0.Period == 0)else((ze a0.Period (zai a0) 600) && ((a0.Kind != 3) || ((a0.Period.tmod 2) == 0)))))
namespace N91
theorem DD:DOk Tryz.prog (Go.Ab.DD [(181,dP D_ze),(189,dP D_zqc),(190,dP D_zqb),(191,dP D_zhe),(192,dP D_zai)]):=ya y9b.e <| ya y53.e <| ya ya7.e <| ya y9w.e <| ya yn6.e <| yc _
theorem dn:type_of% (And.intro @D_ze.eq_1 <| And.intro @D_zqc.eq_1 <| And.intro @D_zqb.eq_1 <| And.intro @D_zhe.eq_1 <| @D_zai.eq_1):=by and_intros<;>intros<;>rfl
theorem ol:type_of% (@ze.eq_1):=@ze.eq_1
theorem o0 {p:Prop} (h:p:=by(first|(have q9 := ‹(!zqc a0.Colors || !zqb a0)=false›;have h9:=yhe a0 (by simp only[Bool.or_eq_false_iff,Bool.not_eq_false']at q9;exact q9.2);first|exact⟨hb0,h9.1,fun v hv=>(h9.2 v hv).2,fun _ _=>by decide⟩|exact⟨hb0,h9.1,fun v hv=>(h9.2 v hv).2⟩|exact h9.1));first|done|fail):p:=h
theorem den (a0:Character) (hb0:bdCharacter a0):Den Tryz.prog 91 [.agg (yg a0)] (.bool (zab a0)):=by
 generalize hR:zab a0=r
 unfold zab at hR
 refine di Tryz.func91 Tryz.ntmps91 Tryz.results91 ?_
 intro c hL hc hk
 obtain⟨hL0,_⟩:=hL
 have hw0:bwCharacter a0:=yn a0 hL0
 clear hL0
 simp only[pars,Nat.zero_add]
 iterate 2 refine rS ?_
 refine AWP.cond rfl (fun hb => ?_) (fun hb => ?_)
 ·replace hR:=ct hR
  refine rS ?_
  refine AWP.ret ?_
  subst hR
  exact es
 ·replace hR:=cf hR
  refine rS ?_
  refine AWP.cond rfl (fun hb => ?_) (fun hb => ?_)
  ·replace hR:=ct hR
   refine rS ?_
   refine AWP.ret ?_
   subst hR
   exact es
  ·replace hR:=cf hR
   refine rD 16 ?_
   refine AWP.ret ?_
   subst hR
   exact es
end N91
def D_zab : DF
 | [x0]=>some (.bool (zab (rdG yd x0)),false,[wG yg yd x0,bdCharacter (rdG yd x0)])
 | _=>none
theorem y6k:OkD Tryz.prog 91 D_zab:=by unfold D_zab;exact dk N91.den
end Go.Ab
