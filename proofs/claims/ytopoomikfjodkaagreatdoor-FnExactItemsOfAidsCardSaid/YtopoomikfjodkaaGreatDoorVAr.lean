/- A part of a proof: walks of functions and lemmas of our own. No conditions. -/
import Derived.Test.YtopoomikfjodkaaGreatDoorVAl
import Derived.Test.YtopoomikfjodkaaGreatDoorVAi
import Derived.Test.YtopoomikfjodkaaGreatDoorVAp
set_option linter.unusedSectionVars false
set_option linter.unusedVariables false
set_option linter.unusedSimpArgs false
set_option maxHeartbeats 1000000
namespace Go.Ab
open Go Go.Proofs
def yuf {T : Type} (step : T → Int → Int × T) : List T → Int → Int × List T
 | [],k=>(k,[])
 | x::xs,k=>((yuf step xs (step x k).1).1,(step x k).2::(yuf step xs (step x k).1).2)
theorem y9g {ρ T : Type} [Inhabited T] (step : T → Int → Int × T) (b : Nat → Int × List T → Except ρ (Int × List T))
  (hb:∀ i s,b i s=.ok ((step (s.2.getD i default) s.1).1,s.2.set i (step (s.2.getD i default) s.1).2)):∀ (r p:List T) (k:Int),yf b r.length p.length (k,p++r)=.ok ((yuf step r k).1,p++(yuf step r k).2)
 | [],p,k=>by simp only[List.length_nil,yf,yuf]
 | x::r,p,k=>by
  have hg:(p++x::r).getD p.length default=x:=by simp
  have hs:(p++x::r).set p.length (step x k).2=(p++[(step x k).2])++r:=by
   rw[List.set_append_right _ _ (Nat.le_refl _)];simp
  simp only[List.length_cons,yf,hb,hg,hs]
  have:=y9g step b hb r (p++[(step x k).2]) (step x k).1
  rw[List.length_append,List.length_singleton]at this
  rw[this]
  simp only[yuf,List.append_assoc,List.singleton_append]
theorem y8r {T:Type} (step:T→Int→Int×T) (P:T→Prop) (W B:Int) (hW:0≤W) (hs:∀ x k,P x→0≤k→k≤B→k≤(step x k).1∧(step x k).1≤k+W) :
  ∀ (l:List T) (k:Int),(∀ x∈l,P x)→0≤k→k+W * l.length≤B→k≤(yuf step l k).1∧(yuf step l k).1≤k+W * l.length
 | [],k,_,_,_=>by simp[yuf]
 | x::xs,k,hp,h0,hB=>by
  have e:W * ((x::xs).length:Int)=W * (xs.length:Int)+W:=by simp only[List.length_cons];push_cast;rw[Int.mul_add,Int.mul_one]
  rw[e]at hB ⊢
  have hn:0≤W * (xs.length:Int):=Int.mul_nonneg hW (by omega)
  have h1:=hs x k (hp x (by simp)) h0 (by omega)
  have h2:=y8r step P W B hW hs xs (step x k).1 (fun y hy=>hp y (by simp[hy])) (by omega) (by omega)
  simp only[yuf]
  omega
end Go.Ab

namespace Go.Ab
open Go Go.Proofs
theorem digx {k a:Int} {n:Nat} (hW:0≤k∧n≤19∧k * 10 ^ n≤a) (hb:decide (0<k)=true) (ha:a≤9223372036854775807) :
  IntKind.wrap .i64 (k.tdiv 10)=k / 10∧n≤18∧(k / 10) * 10 ^ (n+1)≤a∧k≤9223372036854775807:=by
 obtain⟨h0,h1,h2⟩:=hW
 have h:=of_decide_eq_true hb
 have p1:(1:Int)≤10 ^ n:=by
  have:=Nat.one_le_two_pow (n:=0)
  have h3:0<10 ^ n:=Nat.pow_pos (by omega)
  have h4:((10 ^ n:Nat):Int)=(10:Int) ^ n:=by simp
  omega
 have p2:=Int.mul_le_mul_of_nonneg_left p1 h0
 rw[Int.mul_one]at p2
 have hk:k≤9223372036854775807:=by omega
 refine⟨?_,?_,?_,hk⟩
 ·rw[Int.tdiv_eq_ediv_of_nonneg h0,IntKind.wrap_i64];omega
 ·by_cases hn:n=19
  ·subst hn
   have e:(10:Int) ^ 19=10000000000000000000:=by decide
   rw[e]at h2;omega
  ·omega
 ·have q:=Int.mul_le_mul_of_nonneg_right (Int.ediv_mul_le k (show(10:Int)≠0 by decide)) (show(0:Int)≤10 ^ n by omega)
  have e:(k / 10) * 10 ^ (n+1)=k / 10 * 10 * 10 ^ n:=by rw[Int.pow_succ];ac_rfl
  rw[e];omega
theorem digd {k a:Int} {n:Nat} (hW:0≤k∧n≤19∧k * 10 ^ n≤a) (hb:decide (0<k)=true) (ha:a≤9223372036854775807):(IntKind.wrap .i64 (k.tdiv 10)).toNat<k.toNat:=by
 have h:=of_decide_eq_true hb
 rw[(digx hW hb ha).1];omega
theorem digw {k a:Int} {x l:List UInt8} (hx:x.length=1) (hW:0≤k∧l.length≤19∧k * 10 ^ l.length≤a) (hb:decide (0<k)=true) (ha:a≤9223372036854775807) :
  0≤IntKind.wrap .i64 (k.tdiv 10)∧(x++l).length≤19∧IntKind.wrap .i64 (k.tdiv 10) * 10 ^ (x++l).length≤a:=by
 obtain⟨e1,e2,e3,e4⟩:=digx hW hb ha
 rw[e1,List.length_append,hx,Nat.add_comm 1]
 exact⟨by omega,by omega,e3⟩
end Go.Ab
