/- A part of a proof: walks of functions and lemmas of our own. No conditions. -/
import Derived.Test.YthadgghdkkapaaaGreatDoorMAl
import Derived.Test.YthadgghdkkapaaaGreatDoorMAm
import Derived.Handy
import Derived.Test.YthadgghdkkapaaaGreatDoorMAi
import Derived.Test.YthadgghdkkapaaaGreatDoorMAj
import Derived.Test.YthadgghdkkapaaaGreatDoorRows
set_option linter.unusedSectionVars false
set_option linter.unusedVariables false
set_option linter.unusedSimpArgs false
set_option maxHeartbeats 1000000

namespace Go.Ab
open Go Go.Proofs
theorem ydz {α:Type} [Inhabited α] (R:α->α->Prop) (ht:∀ a b c,R a b->R b c->R a c) (l:List α):l.Pairwise R↔∀ j,j+1<l.length->R (l.getD j default) (l.getD (j+1) default):=by
 rw[List.pairwise_iff_getElem];constructor
 ·intro h j hj
  have:=h j (j+1) (by omega) hj (by omega);rw[List.getD_eq_getElem?_getD,List.getD_eq_getElem?_getD,List.getElem?_eq_getElem hj,List.getElem?_eq_getElem (show j<l.length by omega)];exact this
 ·intro h i j hi hj hij
  have h':∀ j (hj:j+1<l.length),R (l[j]'(by omega)) (l[j+1]'hj):=by
   intro j hj;have:=h j hj;rw[List.getD_eq_getElem?_getD,List.getD_eq_getElem?_getD,List.getElem?_eq_getElem hj,List.getElem?_eq_getElem (show j<l.length by omega)]at this;exact this
  obtain⟨d,rfl⟩:∃ d,j=i+1+d:=⟨j-(i+1),by omega⟩
  clear hij
  induction d with
  | zero=>exact h' i hj
  | succ d ih=>exact ht _ _ _ (ih (by omega) h') (h' (i+1+d) hj)
theorem ywn {b:Nat->Unit->Except Bool Unit} (p:Nat->Bool) (n:Nat) (r:Bool) (hb:∀ j u,j<n->b j u=bif p j then .error false else .ok ()) :
  (match yf b (n-0) 0 ()with|.error e=>e|.ok _=>r)=true↔(∀ j,j<n->p j=false)/\r=true:=by
 rw[y7b p false (fun j u _ hj=>hb j u (by omega))];simp only[Nat.sub_zero,Nat.zero_add]
 cases h:(List.range n).any fun j=>p j with
 | true=>
  simp only[cond_true];constructor
  ·intro h;cases h
  ·rintro⟨h1,_⟩
   obtain⟨j,hj,hp⟩:=List.any_eq_true.1 h;rw[h1 j (by simpa using hj)]at hp;cases hp
 | false=>
  simp only[cond_false];constructor
  ·intro hr
   refine⟨fun j hj => ?_,hr⟩
   cases hp:p j with
   | false=>rfl
   | true=>exact absurd (List.any_eq_true.2 ⟨j,List.mem_range.2 hj,hp⟩) (by rw[h];simp)
  ·exact fun h=>h.2
def yte {T : Type} (step : T -> Int -> Int × T) : List T -> Int -> Int × List T
 | [],k=>(k,[])
 | x::xs,k=>((yte step xs (step x k).1).1,(step x k).2::(yte step xs (step x k).1).2)
theorem ycg {ρ T : Type} [Inhabited T] (step : T -> Int -> Int × T) (b : Nat -> Int × List T -> Except ρ (Int × List T))
  (hb:∀ i s,b i s=.ok ((step (s.2.getD i default) s.1).1,s.2.set i (step (s.2.getD i default) s.1).2)):∀ (r p:List T) (k:Int),yf b r.length p.length (k,p++r)=.ok ((yte step r k).1,p++(yte step r k).2)
 | [],p,k=>by simp only[List.length_nil,yf,yte]
 | x::r,p,k=>by
  have hg:(p++x::r).getD p.length default=x:=by simp
  have hs:(p++x::r).set p.length (step x k).2=(p++[(step x k).2])++r:=by
   rw[List.set_append_right _ _ (Nat.le_refl _)];simp
  simp only[List.length_cons,yf,hb,hg,hs];have:=ycg step b hb r (p++[(step x k).2]) (step x k).1;rw[List.length_append,List.length_singleton]at this;rw[this];simp only[yte,List.append_assoc,List.singleton_append]
theorem yko {T:Type} (step:T->Int->Int×T) (P:T->Prop) (W B:Int) (hW:0<=W) (hs:∀ x k,P x->0<=k->k<=B->k<=(step x k).1/\(step x k).1<=k+W) :
  ∀ (l:List T) (k:Int),(∀ x∈l,P x)->0<=k->k+W * l.length<=B->k<=(yte step l k).1/\(yte step l k).1<=k+W * l.length
 | [],k,_,_,_=>by simp[yte]
 | x::xs,k,hp,h0,hB=>by
  have e:W * ((x::xs).length:Int)=W * (xs.length:Int)+W:=by simp only[List.length_cons];push_cast;rw[Int.mul_add,Int.mul_one]
  rw[e]at hB ⊢;have hn:0<=W * (xs.length:Int):=Int.mul_nonneg hW (by omega);have h1:=hs x k (hp x (by simp)) h0 (by omega);have h2:=yko step P W B hW hs xs (step x k).1 (fun y hy=>hp y (by simp[hy])) (by omega) (by omega);simp only[yte];omega
theorem ydg (x:Int):IntKind.wrap .i64 x<=9223372036854775807:=by rw[IntKind.wrap_i64];omega
theorem y6t {α:Type} [Inhabited α] {l:List α} {i:Nat} {x:α} (h:i<l.length):(l.set i x).getD i default=x:=by
 rw[y3d,if_pos ⟨rfl,h⟩]
theorem ybt {α:Type} [Inhabited α] {l:List α} {i j:Nat} {x:α} (h:¬ j=i):(l.set i x).getD j default=l.getD j default:=by
 rw[y3d,if_neg (fun hh=>h hh.1)]
theorem beqF {i j:Nat} (h:¬ j=i):(j == i)=false/\Nat.beq j i=false:=by
 have:(j == i)=false:=by simp[h]
 refine⟨this,?_⟩
 cases hb:Nat.beq j i with
 | true=>exact absurd (Nat.eq_of_beq_eq_true hb) h
 | false=>rfl
theorem mrg {p:Prop} (h:p:=by(and_intros<;>first|trivial|assumption|omega|exact ydg _|(simp only[List.length_set];omega)|exact hW1.1|exact hW1.2|(simp only[IntKind.wrap_i64];omega));first|done|fail):p:=h
theorem digx {k a:Int} {n:Nat} (hW:0<=k/\n<=19/\k * 10 ^ n<=a) (hb:decide (0<k)=true) (ha:a<=9223372036854775807) :
  IntKind.wrap .i64 (k.tdiv 10)=k / 10/\n<=18/\(k / 10) * 10 ^ (n+1)<=a/\k<=9223372036854775807:=by
 obtain⟨h0,h1,h2⟩:=hW;have h:=of_decide_eq_true hb
 have p1:(1:Int)<=10 ^ n:=by
  have:=Nat.one_le_two_pow (n:=0);have h3:0<10 ^ n:=Nat.pow_pos (by omega);have h4:((10 ^ n:Nat):Int)=(10:Int) ^ n:=by simp
  omega
 have p2:=Int.mul_le_mul_of_nonneg_left p1 h0;rw[Int.mul_one]at p2;have hk:k<=9223372036854775807:=by omega
 refine⟨?_,?_,?_,hk⟩
 ·rw[Int.tdiv_eq_ediv_of_nonneg h0,IntKind.wrap_i64];omega
 ·by_cases hn:n=19
  ·subst hn
   have e:(10:Int) ^ 19=10000000000000000000:=by decide
   rw[e]at h2;omega
  ·omega
 ·have q:=Int.mul_le_mul_of_nonneg_right (Int.ediv_mul_le k (show(10:Int)≠0 by decide)) (show(0:Int)<=10 ^ n by omega)
  have e:(k / 10) * 10 ^ (n+1)=k / 10 * 10 * 10 ^ n:=by rw[Int.pow_succ];ac_rfl
  rw[e];omega
theorem digd {k a:Int} {n:Nat} (hW:0<=k/\n<=19/\k * 10 ^ n<=a) (hb:decide (0<k)=true) (ha:a<=9223372036854775807):(IntKind.wrap .i64 (k.tdiv 10)).toNat<k.toNat:=by
 have h:=of_decide_eq_true hb;rw[(digx hW hb ha).1];omega
theorem digw {k a:Int} {x l:List UInt8} (hx:x.length=1) (hW:0<=k/\l.length<=19/\k * 10 ^ l.length<=a) (hb:decide (0<k)=true) (ha:a<=9223372036854775807) :
  0<=IntKind.wrap .i64 (k.tdiv 10)/\(x++l).length<=19/\IntKind.wrap .i64 (k.tdiv 10) * 10 ^ (x++l).length<=a:=by
 obtain⟨e1,e2,e3,e4⟩:=digx hW hb ha;rw[e1,List.length_append,hx,Nat.add_comm 1];exact⟨by omega,by omega,e3⟩
def yyr (v:Mark):Prop:=v.Colors.length<=1048576/\v.Shape.length<=1048576/\v.Topmark.length<=1048576
theorem yns (v:Mark) (h:yyr v):bdMark v:=⟨Nat.lt_of_le_of_lt h.1 (by decide),Nat.lt_of_le_of_lt h.2.1 (by decide),Nat.lt_of_le_of_lt h.2.2 (by decide)⟩
def yye (v:Character):Prop:=v.Group.length<=1048576/\v.Letter.length<=1048576/\v.Colors.length<=1048576
theorem yni (v:Character) (h:yye v):bdCharacter v:=⟨Nat.lt_of_le_of_lt h.1 (by decide),Nat.lt_of_le_of_lt h.2.1 (by decide),Nat.lt_of_le_of_lt h.2.2 (by decide)⟩
def yhf (v:Sector):Prop:=v.Color.length<=1048576
theorem yun (v:Sector) (h:yhf v):bdSector v:=Nat.lt_of_le_of_lt h (by decide)
def y5r (v:Aid):Prop:=v.Name.length<=1048576/\yyr v.Mark/\yye v.Light/\(v.Sectors.length<=1048576/\∀ y∈v.Sectors,yhf y)
theorem y5w (v:Aid) (h:y5r v):bdAid v:=⟨Nat.lt_of_le_of_lt h.1 (by decide),yns _ h.2.1,yni _ h.2.2.1,⟨Nat.lt_of_le_of_lt h.2.2.2.1 (by decide),fun y hy=>yun _ (h.2.2.2.2 y hy)⟩⟩
def y7j (v:Danger):Prop:=v.Name.length<=1048576
theorem y2n (v:Danger) (h:y7j v):bdDanger v:=Nat.lt_of_le_of_lt h (by decide)
end Go.Ab
namespace Go.Ab
open Go Go.Proofs Go.Deep Go.ChangeShapes Go.WideShapes Go.ChangeAt Go.RowKit
set_option maxRecDepth 100000
theorem yuz:Rd Tryz.prog 54 ePoint:=by
 intro H enc W base sp hd fuel cs x h;obtain⟨hl,hf⟩:=yad Tryz.underlying54 h;have e0:Tryz.prog.cellsOf 54=2:=by kernel_rfl
 rw[e0]at hl;obtain⟨n0,y0,g0⟩:=hf 0 _ rfl;have c0:Tryz.prog.cellsOf 2=1:=by kernel_rfl
 obtain⟨v0,r0,o0⟩:=(yed (k:=.i64) Tryz.underlying2) g0;replace r0:RepL W (fun _=>False) ([.int .i64 v0]) yg ((cs.drop 0).take (Tryz.prog.cellsOf 2)) []:=r0;replace o0:∀ u∈(cs.drop 0).take (Tryz.prog.cellsOf 2),u.oneCell'=true:=o0;rw[c0]at r0 o0;obtain⟨n1,y1,g1⟩:=hf 1 _ rfl;have c1:Tryz.prog.cellsOf 2=1:=by kernel_rfl
 obtain⟨v1,r1,o1⟩:=(yed (k:=.i64) Tryz.underlying2) g1;replace r1:RepL W (fun _=>False) ([.int .i64 v1]) yg ((cs.drop 1).take (Tryz.prog.cellsOf 2)) []:=r1;replace o1:∀ u∈(cs.drop 1).take (Tryz.prog.cellsOf 2),u.oneCell'=true:=o1;rw[c1]at r1 o1;refine⟨⟨v0,v1⟩,?_,?_⟩
 ·exact yu (o:=0) (k:=1) r0 (yu (o:=1) (k:=1) r1 (yag (o:=2) (by omega)))
 ·exact yv (o:=0) (k:=1) o0 (yv (o:=1) (k:=1) o1 (y1f (o:=2) (by omega)))
theorem yc0:Rd Tryz.prog 55 eMark:=by
 intro H enc W base sp hd fuel cs x h;obtain⟨hl,hf⟩:=yad Tryz.underlying55 h;have e0:Tryz.prog.cellsOf 55=4:=by kernel_rfl
 rw[e0]at hl;obtain⟨n0,y0,g0⟩:=hf 0 _ rfl;have c0:Tryz.prog.cellsOf 2=1:=by kernel_rfl
 obtain⟨v0,r0,o0⟩:=(yed (k:=.i64) Tryz.underlying2) g0;replace r0:RepL W (fun _=>False) ([.int .i64 v0]) yg ((cs.drop 0).take (Tryz.prog.cellsOf 2)) []:=r0;replace o0:∀ u∈(cs.drop 0).take (Tryz.prog.cellsOf 2),u.oneCell'=true:=o0;rw[c0]at r0 o0;obtain⟨n1,y1,g1⟩:=hf 1 _ rfl;have c1:Tryz.prog.cellsOf 9=1:=by kernel_rfl
 obtain⟨v1,r1,o1⟩:=(yxg Tryz.underlying9) g1;replace r1:RepL W (fun _=>False) ([.str v1]) yg ((cs.drop 1).take (Tryz.prog.cellsOf 9)) []:=r1;replace o1:∀ u∈(cs.drop 1).take (Tryz.prog.cellsOf 9),u.oneCell'=true:=o1;rw[c1]at r1 o1;obtain⟨n2,y2,g2⟩:=hf 2 _ rfl;have c2:Tryz.prog.cellsOf 9=1:=by kernel_rfl
 obtain⟨v2,r2,o2⟩:=(yxg Tryz.underlying9) g2;replace r2:RepL W (fun _=>False) ([.str v2]) yg ((cs.drop 2).take (Tryz.prog.cellsOf 9)) []:=r2;replace o2:∀ u∈(cs.drop 2).take (Tryz.prog.cellsOf 9),u.oneCell'=true:=o2;rw[c2]at r2 o2;obtain⟨n3,y3,g3⟩:=hf 3 _ rfl;have c3:Tryz.prog.cellsOf 9=1:=by kernel_rfl
 obtain⟨v3,r3,o3⟩:=(yxg Tryz.underlying9) g3;replace r3:RepL W (fun _=>False) ([.str v3]) yg ((cs.drop 3).take (Tryz.prog.cellsOf 9)) []:=r3;replace o3:∀ u∈(cs.drop 3).take (Tryz.prog.cellsOf 9),u.oneCell'=true:=o3;rw[c3]at r3 o3;refine⟨⟨v0,v1,v2,v3⟩,?_,?_⟩
 ·exact yu (o:=0) (k:=1) r0 (yu (o:=1) (k:=1) r1 (yu (o:=2) (k:=1) r2 (yu (o:=3) (k:=1) r3 (yag (o:=4) (by omega)))))
 ·exact yv (o:=0) (k:=1) o0 (yv (o:=1) (k:=1) o1 (yv (o:=2) (k:=1) o2 (yv (o:=3) (k:=1) o3 (y1f (o:=4) (by omega)))))
theorem ye0:Rd Tryz.prog 40 (fun l:List Int=>[encL 1 yl l]):=y6j Tryz.underlying40 (by kernel_rfl) (by decide) (yed (k:=.i64) Tryz.underlying2)
theorem y8z:Rd Tryz.prog 56 eCharacter:=by
 intro H enc W base sp hd fuel cs x h;obtain⟨hl,hf⟩:=yad Tryz.underlying56 h;have e0:Tryz.prog.cellsOf 56=5:=by kernel_rfl
 rw[e0]at hl;obtain⟨n0,y0,g0⟩:=hf 0 _ rfl;have c0:Tryz.prog.cellsOf 2=1:=by kernel_rfl
 obtain⟨v0,r0,o0⟩:=(yed (k:=.i64) Tryz.underlying2) g0;replace r0:RepL W (fun _=>False) ([.int .i64 v0]) yg ((cs.drop 0).take (Tryz.prog.cellsOf 2)) []:=r0;replace o0:∀ u∈(cs.drop 0).take (Tryz.prog.cellsOf 2),u.oneCell'=true:=o0;rw[c0]at r0 o0;obtain⟨n1,y1,g1⟩:=hf 1 _ rfl;have c1:Tryz.prog.cellsOf 40=1:=by kernel_rfl
 obtain⟨v1,r1,o1⟩:=ye0 g1;replace r1:RepL W (fun _=>False) ([encL 1 yl v1]) yg ((cs.drop 1).take (Tryz.prog.cellsOf 40)) []:=r1;replace o1:∀ u∈(cs.drop 1).take (Tryz.prog.cellsOf 40),u.oneCell'=true:=o1;rw[c1]at r1 o1;obtain⟨n2,y2,g2⟩:=hf 2 _ rfl;have c2:Tryz.prog.cellsOf 9=1:=by kernel_rfl
 obtain⟨v2,r2,o2⟩:=(yxg Tryz.underlying9) g2;replace r2:RepL W (fun _=>False) ([.str v2]) yg ((cs.drop 2).take (Tryz.prog.cellsOf 9)) []:=r2;replace o2:∀ u∈(cs.drop 2).take (Tryz.prog.cellsOf 9),u.oneCell'=true:=o2;rw[c2]at r2 o2;obtain⟨n3,y3,g3⟩:=hf 3 _ rfl;have c3:Tryz.prog.cellsOf 9=1:=by kernel_rfl
 obtain⟨v3,r3,o3⟩:=(yxg Tryz.underlying9) g3;replace r3:RepL W (fun _=>False) ([.str v3]) yg ((cs.drop 3).take (Tryz.prog.cellsOf 9)) []:=r3;replace o3:∀ u∈(cs.drop 3).take (Tryz.prog.cellsOf 9),u.oneCell'=true:=o3;rw[c3]at r3 o3;obtain⟨n4,y4,g4⟩:=hf 4 _ rfl;have c4:Tryz.prog.cellsOf 2=1:=by kernel_rfl
 obtain⟨v4,r4,o4⟩:=(yed (k:=.i64) Tryz.underlying2) g4;replace r4:RepL W (fun _=>False) ([.int .i64 v4]) yg ((cs.drop 4).take (Tryz.prog.cellsOf 2)) []:=r4;replace o4:∀ u∈(cs.drop 4).take (Tryz.prog.cellsOf 2),u.oneCell'=true:=o4;rw[c4]at r4 o4;refine⟨⟨v0,v1,v2,v3,v4⟩,?_,?_⟩
 ·exact yu (o:=0) (k:=1) r0 (yu (o:=1) (k:=1) r1 (yu (o:=2) (k:=1) r2 (yu (o:=3) (k:=1) r3 (yu (o:=4) (k:=1) r4 (yag (o:=5) (by omega))))))
 ·exact yv (o:=0) (k:=1) o0 (yv (o:=1) (k:=1) o1 (yv (o:=2) (k:=1) o2 (yv (o:=3) (k:=1) o3 (yv (o:=4) (k:=1) o4 (y1f (o:=5) (by omega))))))
theorem yiz:Rd Tryz.prog 158 eSector:=by
 intro H enc W base sp hd fuel cs x h;obtain⟨hl,hf⟩:=yad Tryz.underlying158 h;have e0:Tryz.prog.cellsOf 158=3:=by kernel_rfl
 rw[e0]at hl;obtain⟨n0,y0,g0⟩:=hf 0 _ rfl;have c0:Tryz.prog.cellsOf 2=1:=by kernel_rfl
 obtain⟨v0,r0,o0⟩:=(yed (k:=.i64) Tryz.underlying2) g0;replace r0:RepL W (fun _=>False) ([.int .i64 v0]) yg ((cs.drop 0).take (Tryz.prog.cellsOf 2)) []:=r0;replace o0:∀ u∈(cs.drop 0).take (Tryz.prog.cellsOf 2),u.oneCell'=true:=o0;rw[c0]at r0 o0;obtain⟨n1,y1,g1⟩:=hf 1 _ rfl;have c1:Tryz.prog.cellsOf 2=1:=by kernel_rfl
 obtain⟨v1,r1,o1⟩:=(yed (k:=.i64) Tryz.underlying2) g1;replace r1:RepL W (fun _=>False) ([.int .i64 v1]) yg ((cs.drop 1).take (Tryz.prog.cellsOf 2)) []:=r1;replace o1:∀ u∈(cs.drop 1).take (Tryz.prog.cellsOf 2),u.oneCell'=true:=o1;rw[c1]at r1 o1;obtain⟨n2,y2,g2⟩:=hf 2 _ rfl;have c2:Tryz.prog.cellsOf 9=1:=by kernel_rfl
 obtain⟨v2,r2,o2⟩:=(yxg Tryz.underlying9) g2;replace r2:RepL W (fun _=>False) ([.str v2]) yg ((cs.drop 2).take (Tryz.prog.cellsOf 9)) []:=r2;replace o2:∀ u∈(cs.drop 2).take (Tryz.prog.cellsOf 9),u.oneCell'=true:=o2;rw[c2]at r2 o2;refine⟨⟨v0,v1,v2⟩,?_,?_⟩
 ·exact yu (o:=0) (k:=1) r0 (yu (o:=1) (k:=1) r1 (yu (o:=2) (k:=1) r2 (yag (o:=3) (by omega))))
 ·exact yv (o:=0) (k:=1) o0 (yv (o:=1) (k:=1) o1 (yv (o:=2) (k:=1) o2 (y1f (o:=3) (by omega))))
theorem y6z:Rd Tryz.prog 57 (fun l:List Sector=>[encL 3 eSector l]):=y6j Tryz.underlying57 (by kernel_rfl) (by decide) yiz
theorem y7z:Rd Tryz.prog 59 eAid:=by
 intro H enc W base sp hd fuel cs x h;obtain⟨hl,hf⟩:=yad Tryz.underlying59 h;have e0:Tryz.prog.cellsOf 59=16:=by kernel_rfl
 rw[e0]at hl;obtain⟨n0,y0,g0⟩:=hf 0 _ rfl;have c0:Tryz.prog.cellsOf 2=1:=by kernel_rfl
 obtain⟨v0,r0,o0⟩:=(yed (k:=.i64) Tryz.underlying2) g0;replace r0:RepL W (fun _=>False) ([.int .i64 v0]) yg ((cs.drop 0).take (Tryz.prog.cellsOf 2)) []:=r0;replace o0:∀ u∈(cs.drop 0).take (Tryz.prog.cellsOf 2),u.oneCell'=true:=o0;rw[c0]at r0 o0;obtain⟨n1,y1,g1⟩:=hf 1 _ rfl;have c1:Tryz.prog.cellsOf 9=1:=by kernel_rfl
 obtain⟨v1,r1,o1⟩:=(yxg Tryz.underlying9) g1;replace r1:RepL W (fun _=>False) ([.str v1]) yg ((cs.drop 1).take (Tryz.prog.cellsOf 9)) []:=r1;replace o1:∀ u∈(cs.drop 1).take (Tryz.prog.cellsOf 9),u.oneCell'=true:=o1;rw[c1]at r1 o1;obtain⟨n2,y2,g2⟩:=hf 2 _ rfl;have c2:Tryz.prog.cellsOf 54=2:=by kernel_rfl
 obtain⟨v2,r2,o2⟩:=yuz g2;replace r2:RepL W (fun _=>False) (ePoint v2) yg ((cs.drop 2).take (Tryz.prog.cellsOf 54)) []:=r2;replace o2:∀ u∈(cs.drop 2).take (Tryz.prog.cellsOf 54),u.oneCell'=true:=o2;rw[c2]at r2 o2;obtain⟨n3,y3,g3⟩:=hf 3 _ rfl;have c3:Tryz.prog.cellsOf 2=1:=by kernel_rfl
 obtain⟨v3,r3,o3⟩:=(yed (k:=.i64) Tryz.underlying2) g3;replace r3:RepL W (fun _=>False) ([.int .i64 v3]) yg ((cs.drop 4).take (Tryz.prog.cellsOf 2)) []:=r3;replace o3:∀ u∈(cs.drop 4).take (Tryz.prog.cellsOf 2),u.oneCell'=true:=o3;rw[c3]at r3 o3;obtain⟨n4,y4,g4⟩:=hf 4 _ rfl;have c4:Tryz.prog.cellsOf 55=4:=by kernel_rfl
 obtain⟨v4,r4,o4⟩:=yc0 g4;replace r4:RepL W (fun _=>False) (eMark v4) yg ((cs.drop 5).take (Tryz.prog.cellsOf 55)) []:=r4;replace o4:∀ u∈(cs.drop 5).take (Tryz.prog.cellsOf 55),u.oneCell'=true:=o4;rw[c4]at r4 o4;obtain⟨n5,y5,g5⟩:=hf 5 _ rfl;have c5:Tryz.prog.cellsOf 56=5:=by kernel_rfl
 obtain⟨v5,r5,o5⟩:=y8z g5;replace r5:RepL W (fun _=>False) (eCharacter v5) yg ((cs.drop 9).take (Tryz.prog.cellsOf 56)) []:=r5;replace o5:∀ u∈(cs.drop 9).take (Tryz.prog.cellsOf 56),u.oneCell'=true:=o5;rw[c5]at r5 o5;obtain⟨n6,y6,g6⟩:=hf 6 _ rfl;have c6:Tryz.prog.cellsOf 57=1:=by kernel_rfl
 obtain⟨v6,r6,o6⟩:=y6z g6;replace r6:RepL W (fun _=>False) ([encL 3 eSector v6]) yg ((cs.drop 14).take (Tryz.prog.cellsOf 57)) []:=r6;replace o6:∀ u∈(cs.drop 14).take (Tryz.prog.cellsOf 57),u.oneCell'=true:=o6;rw[c6]at r6 o6;obtain⟨n7,y7,g7⟩:=hf 7 _ rfl;have c7:Tryz.prog.cellsOf 2=1:=by kernel_rfl
 obtain⟨v7,r7,o7⟩:=(yed (k:=.i64) Tryz.underlying2) g7;replace r7:RepL W (fun _=>False) ([.int .i64 v7]) yg ((cs.drop 15).take (Tryz.prog.cellsOf 2)) []:=r7;replace o7:∀ u∈(cs.drop 15).take (Tryz.prog.cellsOf 2),u.oneCell'=true:=o7;rw[c7]at r7 o7;refine⟨⟨v0,v1,v2,v3,v4,v5,v6,v7⟩,?_,?_⟩
 ·exact yu (o:=0) (k:=1) r0 (yu (o:=1) (k:=1) r1 (yu (o:=2) (k:=2) r2 (yu (o:=4) (k:=1) r3 (yu (o:=5) (k:=4) r4 (yu (o:=9) (k:=5) r5 (yu (o:=14) (k:=1) r6 (yu (o:=15) (k:=1) r7 (yag (o:=16) (by omega)))))))))
 ·exact yv (o:=0) (k:=1) o0 (yv (o:=1) (k:=1) o1 (yv (o:=2) (k:=2) o2 (yv (o:=4) (k:=1) o3 (yv (o:=5) (k:=4) o4 (yv (o:=9) (k:=5) o5 (yv (o:=14) (k:=1) o6 (yv (o:=15) (k:=1) o7 (y1f (o:=16) (by omega)))))))))
theorem ya0:Rd Tryz.prog 67 eDanger:=by
 intro H enc W base sp hd fuel cs x h;obtain⟨hl,hf⟩:=yad Tryz.underlying67 h;have e0:Tryz.prog.cellsOf 67=4:=by kernel_rfl
 rw[e0]at hl;obtain⟨n0,y0,g0⟩:=hf 0 _ rfl;have c0:Tryz.prog.cellsOf 9=1:=by kernel_rfl
 obtain⟨v0,r0,o0⟩:=(yxg Tryz.underlying9) g0;replace r0:RepL W (fun _=>False) ([.str v0]) yg ((cs.drop 0).take (Tryz.prog.cellsOf 9)) []:=r0;replace o0:∀ u∈(cs.drop 0).take (Tryz.prog.cellsOf 9),u.oneCell'=true:=o0;rw[c0]at r0 o0;obtain⟨n1,y1,g1⟩:=hf 1 _ rfl;have c1:Tryz.prog.cellsOf 54=2:=by kernel_rfl
 obtain⟨v1,r1,o1⟩:=yuz g1;replace r1:RepL W (fun _=>False) (ePoint v1) yg ((cs.drop 1).take (Tryz.prog.cellsOf 54)) []:=r1;replace o1:∀ u∈(cs.drop 1).take (Tryz.prog.cellsOf 54),u.oneCell'=true:=o1;rw[c1]at r1 o1;obtain⟨n2,y2,g2⟩:=hf 2 _ rfl;have c2:Tryz.prog.cellsOf 2=1:=by kernel_rfl
 obtain⟨v2,r2,o2⟩:=(yed (k:=.i64) Tryz.underlying2) g2;replace r2:RepL W (fun _=>False) ([.int .i64 v2]) yg ((cs.drop 3).take (Tryz.prog.cellsOf 2)) []:=r2;replace o2:∀ u∈(cs.drop 3).take (Tryz.prog.cellsOf 2),u.oneCell'=true:=o2;rw[c2]at r2 o2;refine⟨⟨v0,v1,v2⟩,?_,?_⟩
 ·exact yu (o:=0) (k:=1) r0 (yu (o:=1) (k:=2) r1 (yu (o:=3) (k:=1) r2 (yag (o:=4) (by omega))))
 ·exact yv (o:=0) (k:=1) o0 (yv (o:=1) (k:=2) o1 (yv (o:=3) (k:=1) o2 (y1f (o:=4) (by omega))))
theorem yd0:Rd Tryz.prog 68 (fun l:List Aid=>[encL 16 eAid l]):=y6j Tryz.underlying68 (by kernel_rfl) (by decide) y7z
end Go.Ab
