/- A part of a proof: walks of functions and lemmas of our own. No conditions. -/
import Derived.Test.YtbgiihoaldolfaaGreatCAm
import Derived.Test.YtbgiihoaldolfaaGreatCAk
import Derived.Laws.Externs
import Derived.Lib.Overlaps
import Derived.Laws.CopyRow
import Derived.Lib.Walk
import Derived.Deep.RegionLaw
import Derived.Shelf.RegionOpenPlain
set_option linter.unusedSectionVars false
set_option linter.unusedVariables false
set_option linter.unusedSimpArgs false
namespace Go.Ab
open Go
variable [Inv]
section
variable {P:Program} {c:Ctx} {s:St} {a:Act} {w:World} {N:St->Prop} {E:Nat->St->Prop} {R:St->Prop}
theorem WRs.openB (hs : WRs c s a w) (hr : Rob c s) (q qp ib ob op id i o : Nat) {cs rest1 : List AV} {e1 off1 m1 : Nat} {T : TypeId} {e n : Nat} {f : Nat -> List AV} {T' : TypeId} {e' n' : Nat} {g : Nat -> List AV} {rest : List AV}
  (hq:get s.t q=.any) (hqn:q<c.nt) (hp:get s.t qp=.ptr ib op) (hbx:nthE s.h ib=some (.box cs)) (hcell:dropL ob cs=.ref id e1 off1 m1::rest1)
  (hid:nthE s.h id=some (.arr T e n f)) (hi:i<n) (hx:dropL o (f i)=.sl (some T') e' n' g::rest) :
  WRs c ⟨s.t,setE s.h id (.arr T e n (fun j=>bif Nat.beq j i then putL o [.ref s.h.length e' 0 n'] (f j)else f j))++[.arr T' e' n' g]⟩ a w:=by
 have hs0:=hs;obtain⟨μ,FP,hW,htl,h1,h2,h3⟩:=hs;have hpv:=h1 qp;rw[hp]at hpv;simp only[Rep]at hpv;obtain⟨_,b,cap,hm,_⟩:=hpv;obtain⟨e0,he0,hok⟩:=hW.ent ib _ hm;rw[show Hof s.h ib=nthE s.h ib from rfl,hbx]at he0;cases he0
 obtain⟨_,_,us,_,_,_,_,_,hrl⟩:=hok;have hd:=yrc (n:=ob) hrl;rw[hcell]at hd;simp only[RepL]at hd;obtain⟨u,_,f1,f2,_,efp,hu,_⟩:=hd;obtain⟨rfl,rfl⟩:=List.append_eq_nil_iff.1 efp.symm;have hlt:q<a.tmps.size:=by rw[h2];exact hqn
 have hs':WRs c ⟨(q,.ref id e1 off1 m1)::s.t,s.h⟩ (a.put (some q) u) w:=by
  refine⟨μ,FP,hW,htl,fun k => ?_,by simpa [Act.put]using h2,by simpa [Act.put]using h3⟩;by_cases hk:k=q
  ·subst hk
   have ea1:(a.put (some k) u).tmps.getD k undef=u:=by simp[Act.put,hlt]
   rw[ea1];have ea2:get ((k,AV.ref id e1 off1 m1)::s.t) k=.ref id e1 off1 m1:=by simp only[get,Nat.beq_refl,cond_true]
   rw[ea2];exact hu
  ·have ea1:(a.put (some q) u).tmps.getD k undef=a.tmps.getD k undef:=by
    simp only[Act.put,Array.getD_eq_getD_getElem?];rw[Array.getElem?_setIfInBounds_ne (fun e=>hk e.symm)]
   rw[ea1]
   have ea2:get ((q,AV.ref id e1 off1 m1)::s.t) k=get s.t k:=by
    simp only[get]
    cases hb:Nat.beq k q with
    | true=>exact absurd (Nat.eq_of_beq_eq_true hb) hk
    | false=>rfl
   rw[ea2];exact h1 k
 have hr':Rob c ⟨(q,.ref id e1 off1 m1)::s.t,s.h⟩:=⟨hr.deep,⟨by simp[y2g,NoBor],hr.tm⟩,hr.hp⟩
 have hgq:get (⟨(q,AV.ref id e1 off1 m1)::s.t,s.h⟩:St).t q=.ref id e1 off1 m1:=by simp only[get,Nat.beq_refl,cond_true]
 obtain⟨μ2,FP2,hW2,htl2,g1,g2,g3⟩:=WRs.openE hs' hr' q id i o hgq hid hi hx;refine⟨μ2,FP2,hW2,htl2,fun k => ?_,h2,h3⟩;by_cases hk:k=q
 ·subst hk
  rw[show get (⟨s.t,_⟩:St).t k=.any from hq];simp only[Rep]
 ·have hk1:=g1 k
  have ea1:(a.put (some q) u).tmps.getD k undef=a.tmps.getD k undef:=by
   simp only[Act.put,Array.getD_eq_getD_getElem?];rw[Array.getElem?_setIfInBounds_ne (fun e=>hk e.symm)]
  rw[ea1]at hk1
  have ea2:get ((q,AV.ref id e1 off1 m1)::s.t) k=get s.t k:=by
   simp only[get]
   cases hb:Nat.beq k q with
   | true=>exact absurd (Nat.eq_of_beq_eq_true hb) hk
   | false=>rfl
  rw[show get (⟨(q,AV.ref id e1 off1 m1)::s.t,_⟩:St).t k=get s.t k from ea2]at hk1;exact hk1
theorem AWP.openB {code : Code} (hr : Rob c s) (q qp ib ob op id i o : Nat) {cs rest1 : List AV} {e1 off1 m1 : Nat} {T : TypeId} {e n : Nat} {f : Nat -> List AV} {T' : TypeId} {e' n' : Nat} {g : Nat -> List AV} {rest : List AV}
  (hq:get s.t q=.any) (hqn:q<c.nt) (hp:get s.t qp=.ptr ib op) (hbx:nthE s.h ib=some (.box cs)) (hcell:dropL ob cs=.ref id e1 off1 m1::rest1)
  (hid:nthE s.h id=some (.arr T e n f)) (hi:i<n) (hx:dropL o (f i)=.sl (some T') e' n' g::rest)
  (h:AWP P c code N E R ⟨s.t,setE s.h id (.arr T e n (fun j=>bif Nat.beq j i then putL o [.ref s.h.length e' 0 n'] (f j)else f j))++[.arr T' e' n' g]⟩):AWP P c code N E R s:=
 ⟨fun a w hs=>h.run a w (hs.openB hr q qp ib ob op id i o hq hqn hp hbx hcell hid hi hx)⟩
end
end Go.Ab
namespace Go.Ab
open Go
section
variable [Inv] {P:Program} {f:FuncId} {fn:Func} {code:Code} {xs:List AV} {r:AV} {N k:Nat} {Γ:Env} {A:Array ResultVar} {h h':List Ent}
theorem dI (hf : P.funcs[f]? = some fn) (hN : fn.ntmps = N) (hr : fn.results = A) (hA : ∀ c : Ctx, ydc xs -> c.nt = N -> c.k0 = k -> AWP P c code (y2c Γ A.toList k h' r) (fun _ _ => False) (y2c Γ A.toList k h' r) ⟨pars 0 xs, h⟩)
  (hb:fn.body=some code:=by rfl) (hΓ:TyOk P Γ:=by exact G_ok) (hname:(fn.name == "runtime.NumGoroutine")=false:=by kernel_rfl) (hlen:xs.length<=N:=by simp) (hN0:0<N:=by decide):DenI P f k h xs h' r:=
 ydt hΓ hf hname hb hN hN0 (by rw[hr]) hlen hA
theorem dIL (hf : P.funcs[f]? = some fn) (hN : fn.ntmps = N) (hr : fn.results = A)
  (hA:∀ (c:Ctx) (u:Nat->Value),(∀ b,b∈c.F0->b∈c.T0)->litR c (litN u 0 xs)->ydc xs->c.nt=N->c.k0=0->AWP P c code (y2c Γ A.toList 0 h' r) (fun _ _=>False) (y2c Γ A.toList 0 h' r) ⟨pars 0 (litN u 0 xs),[]⟩)
  (hb:fn.body=some code:=by rfl) (hΓ:TyOk P Γ:=by exact G_ok) (hname:(fn.name == "runtime.NumGoroutine")=false:=by kernel_rfl) (hlen:xs.length<=N:=by simp) (hN0:0<N:=by decide):DenI P f 0 [] xs h' r:=
 yop hΓ hf hname hb hN hN0 (by rw[hr]) hlen hA
end
theorem yig {cl:List Bool} {q:Nat} (h:cl.length=q) (r:List AV) (j:Nat):dropL (q+j) (cl.map AV.bool++r)=dropL j r:=by
 rw[y5i,y5i,List.drop_append,List.length_map,h,List.drop_eq_nil_of_le (by rw[List.length_map];omega),List.nil_append,show q+j-q=j by omega]
theorem ykf (ns : List AV) (r : List AV) (j : Nat) : ∀ (cl : List Bool) (q : Nat), cl.length = q -> putL (q + j) ns (cl.map AV.bool ++ r) = cl.map AV.bool ++ putL j ns r
 | [],q,h=>by
  simp only[List.length_nil]at h;subst h;simp
 | b::cl,q,h=>by
  obtain⟨q,rfl⟩:∃ p,q=p+1:=⟨cl.length,by simpa using h.symm⟩
  rw[show q+1+j=q+j+1 by omega];simp only[List.map_cons,List.cons_append,putL];rw[ykf ns r j cl q (by simpa using h)]
theorem y3l {r : List AV} : ∀ (cl : List Bool) (k : Nat), k < cl.length -> dropL k (cl.map AV.bool ++ r) = .bool (cl.getD k false) :: dropL (k + 1) (cl.map AV.bool ++ r)
 | [],k,h=>by simp at h
 | b::cl,0,h=>by simp[dropL]
 | b::cl,k+1,h=>by
  simp only[List.map_cons,List.cons_append,dropL];rw[y3l cl k (by simpa using h)];simp
theorem y6g {r : List AV} {b : Bool} : ∀ (cl : List Bool) (k : Nat), k < cl.length -> putL k [.bool b] (cl.map AV.bool ++ r) = (cl.set k b).map AV.bool ++ r
 | [],k,h=>by simp at h
 | x::cl,0,h=>by simp[putL]
 | x::cl,k+1,h=>by
  simp only[List.map_cons,List.cons_append,putL,List.set_cons_succ];rw[y6g cl k (by simpa using h)]
theorem ycl [Inv] {h : List Ent} {d : Nat} {r : List AV} : ∀ cl : List Bool, mapO (snapC h (d + 1)) (cl.map AV.bool ++ r) = (match mapO (snapC h (d + 1)) r with | some (ys, ob) => some (cl.map AV.bool ++ ys, ob) | none => none)
 | []=>by
  simp only[List.map_nil,List.nil_append]
  cases mapO (snapC h (d+1)) r with
  | none=>rfl
  | some p=>rfl
 | b::cl=>by
  rw[List.map_cons,List.cons_append,show mapO (snapC h (d+1)) (AV.bool b::(cl.map AV.bool++r))=(match mapO (snapC h (d+1)) (cl.map AV.bool++r)with|some (ys,o2)=>some (AV.bool b::ys,[]++o2)|none=>none)from rfl,ycl cl]
  cases mapO (snapC h (d+1)) r with
  | none=>rfl
  | some p=>obtain⟨ys,ob⟩:=p;rfl
end Go.Ab
namespace Go.Ab
open Go
variable [Inv]
section
variable {P:Program} {c:Ctx} {s:St} {N:St->Prop} {E:Nat->St->Prop} {R:St->Prop}
theorem AWP.cutE {code : Code} (id n2 : Nat) {T : TypeId} {e n : Nat} {f : Nat -> List AV} (hid : nthE s.h id = some (.arr T e n f)) (hn : n2 <= n)
  (h:AWP P c code N E R ⟨s.t,setE s.h id (.arr T e n2 f)⟩):AWP P c code N E R s:=by
 refine⟨fun a w hs=>h.run a w ?_⟩;obtain⟨μ,FP,hW,htl,h1,h2,h3⟩:=hs;have hlt:=ysb hid
 have hget:∀ k,nthE (setE s.h id (.arr T e n2 f)) k=if k=id then some (.arr T e n2 f)else nthE s.h k:=by
  intro k;rw[yq];by_cases hk:k=id
  ·subst hk;rw[if_pos ⟨rfl,hlt⟩,if_pos rfl]
  ·rw[if_neg (fun h=>hk h.1),if_neg hk]
 have hhot:∀ b,hot c.M0 (Hof (setE s.h id (.arr T e n2 f))) μ b->hot c.M0 (Hof s.h) μ b:=by
  rintro b (hb|⟨k,cap,e',hm,he,hl⟩)
  ·exact .inl hb
  ·right
   rw[show Hof (setE s.h id (.arr T e n2 f)) k=nthE (setE s.h id (.arr T e n2 f)) k from rfl,hget]at he;by_cases hk:k=id
   ·subst hk;exact⟨k,cap,_,hm,hid,rfl⟩
   ·rw[if_neg hk]at he;exact⟨k,cap,e',hm,he,hl⟩
 have hsm:∀ fq,Same w (hot c.M0 (Hof s.h) μ) w (hot c.M0 (Hof (setE s.h id (.arr T e n2 f))) μ) fq:=fun fq=>⟨Nat.le_refl _,fun b _ hb hh=>hb (hhot b hh),fun _ _ _=>rfl⟩
 have hnew:∃ fp2:List Nat,(∀ b,b∈fp2->b∈FP id)/\fp2.Nodup/\(μ id=none->fp2=[])/\∀ L,μ id=some L->yhb w (hot c.M0 (Hof (setE s.h id (.arr T e n2 f))) μ) μ (.arr T e n2 f) L fp2:=by
  cases hm:μ id with
  | none=>exact⟨[],by simp,by simp,fun _=>rfl,fun L h=>by cases h⟩
  | some L=>
   obtain⟨e2,g1,g2⟩:=hW.ent id L hm;rw[show Hof s.h id=nthE s.h id from rfl,hid]at g1;cases g1
   have g3:=yhb.mono (Map.le_refl _) (hsm _) (fun b hb=>(hW.new id b hb).2) g2
   cases L with
   | nil=>
    obtain⟨rfl,hf⟩:=g3;obtain rfl:n2=0:=by omega
    exact⟨[],by simp,by simp,fun h=>(by cases h),fun L h=>by cases h;exact⟨rfl,rfl⟩⟩
   | blk b cap=>
    obtain⟨cur,us,fps,q1,q2,q3,q4,q5,q6⟩:=g3;obtain⟨d,rfl⟩:∃ d,n=n2+d:=⟨n-n2,by omega⟩
    have hF:FP id=(b::(List.range n2).flatMap fps)++((List.range d).map (n2+·)).flatMap fps:=by
     rw[q6,List.range_add,List.flatMap_append,List.cons_append]
    refine⟨b::(List.range n2).flatMap fps,fun x hx => ?_,?_,fun h=>(by cases h),fun L h => ?_⟩
    ·rw[hF];exact List.mem_append_left _ hx
    ·have:=hW.nodup id
     rw[hF]at this;exact(List.nodup_append.1 this).1
    ·cases h
     exact⟨cur,us,fps,q1,q2,by omega,q4,fun i hi=>q5 i (by omega),rfl⟩
 obtain⟨fp2,hsub,hnd,hnone,hok⟩:=hnew
 have hsubF:∀ k b,b∈(fun k=>if k=id then fp2 else FP k) k->b∈FP k:=fun k b hb=>by
  by_cases hk:k=id
  ·subst hk;simp only[if_pos]at hb;exact hsub b hb
  ·simp only[if_neg hk]at hb;exact hb
 refine⟨μ,fun k=>if k=id then fp2 else FP k,⟨hW.keep,hW.base,?_,?_,?_,?_,?_,?_⟩,?_,fun i=>Rep.mono _ (Map.le_refl _) (hsm _) (h1 i),h2,h3⟩
 ·intro k L hk
  rw[show Hof (setE s.h id (.arr T e n2 f)) k=nthE (setE s.h id (.arr T e n2 f)) k from rfl,hget];by_cases hki:k=id
  ·subst hki
   refine⟨_,if_pos rfl,?_⟩;simp only[if_pos];exact hok L hk
  ·obtain⟨e2,g1,g2⟩:=hW.ent k L hk
   have g3:=yhb.mono (Map.le_refl _) (hsm _) (fun b hb=>(hW.new k b hb).2) g2;refine⟨e2,by rw[if_neg hki];exact g1,?_⟩;simp only[if_neg hki];exact g3
 ·intro k hk
  by_cases hki:k=id
  ·subst hki;simp only[if_pos];exact hnone hk
  ·simp only[if_neg hki];exact hW.out k hk
 ·intro k
  by_cases hki:k=id
  ·subst hki;simp only[if_pos];exact hnd
  ·simp only[if_neg hki];exact hW.nodup k
 ·intro i j hij b hbi hbj
  exact hW.disj i j hij b (hsubF i b hbi) (hsubF j b hbj)
 ·intro k b hb
  exact hW.new k b (hsubF k b hb)
 ·intro k b cap e' hm he hli
  rw[show Hof (setE s.h id (.arr T e n2 f)) k=nthE (setE s.h id (.arr T e n2 f)) k from rfl,hget]at he;by_cases hki:k=id
  ·subst hki;exact hW.top k b cap _ hm hid rfl
  ·rw[if_neg hki]at he;exact hW.top k b cap e' hm he hli
 ·intro k hk
  rw[yr]at hk;exact htl k hk
end
end Go.Ab
namespace Go.Ab
open Go
variable [Inv]
variable {P:Program} {c:Ctx} {s:St} {N:St->Prop} {E:Nat->St->Prop} {R:St->Prop}
theorem AWP.arrS {code : Code} (id : Nat) {T : TypeId} {e n : Nat} {f : Nat -> List AV} (f' : Nat -> List AV) (hid : nthE s.h id = some (.arr T e n f)) (hx : ∀ i, i < n -> simOL (f i) (f' i))
  (h:AWP P c code N E R ⟨s.t,setE s.h id (.arr T e n f')⟩):AWP P c code N E R s:=by
 refine⟨fun a w hs=>h.run a w ?_⟩;obtain⟨μ,FP,hW,htl,h1,h2,h3⟩:=hs;have hlt:=ysb hid
 have hget:∀ k,nthE (setE s.h id (.arr T e n f')) k=if k=id then some (.arr T e n f')else nthE s.h k:=by
  intro k;rw[yq];by_cases hk:k=id
  ·subst hk;rw[if_pos ⟨rfl,hlt⟩,if_pos rfl]
  ·rw[if_neg (fun h=>hk h.1),if_neg hk]
 have hhot:∀ b,hot c.M0 (Hof (setE s.h id (.arr T e n f'))) μ b->hot c.M0 (Hof s.h) μ b:=by
  rintro b (hb|⟨k,cap,e',hm,he,hl⟩)
  ·exact .inl hb
  ·right
   rw[show Hof (setE s.h id (.arr T e n f')) k=nthE (setE s.h id (.arr T e n f')) k from rfl,hget]at he;by_cases hk:k=id
   ·subst hk;exact⟨k,cap,_,hm,hid,rfl⟩
   ·rw[if_neg hk]at he;exact⟨k,cap,e',hm,he,hl⟩
 have hsm:∀ fq,Same w (hot c.M0 (Hof s.h) μ) w (hot c.M0 (Hof (setE s.h id (.arr T e n f'))) μ) fq:=fun fq=>⟨Nat.le_refl _,fun b _ hb hh=>hb (hhot b hh),fun _ _ _=>rfl⟩
 refine⟨μ,FP,⟨hW.keep,hW.base,?_,hW.out,hW.nodup,hW.disj,hW.new,?_⟩,?_,fun i=>Rep.mono _ (Map.le_refl _) (hsm _) (h1 i),h2,h3⟩
 ·intro k L hk
  obtain⟨e2,g1,g2⟩:=hW.ent k L hk;have g3:=yhb.mono (Map.le_refl _) (hsm _) (fun b hb=>(hW.new k b hb).2) g2;rw[show Hof (setE s.h id (.arr T e n f')) k=nthE (setE s.h id (.arr T e n f')) k from rfl,hget];by_cases hki:k=id
  ·subst hki
   rw[show Hof s.h k=nthE s.h k from rfl,hid]at g1;cases g1
   refine⟨_,if_pos rfl,?_⟩
   cases L with
   | nil=>exact g3
   | blk b cap=>
    obtain⟨cur,us,fps,q1,q2,q3,q4,q5,q6⟩:=g3;exact⟨cur,us,fps,q1,q2,q3,q4,fun i hi=>⟨yvb _ _ (hx i hi) (q5 i hi).1,(q5 i hi).2⟩,q6⟩
  ·exact⟨e2,by rw[if_neg hki];exact g1,g3⟩
 ·intro k b cap e' hm he hli
  rw[show Hof (setE s.h id (.arr T e n f')) k=nthE (setE s.h id (.arr T e n f')) k from rfl,hget]at he;by_cases hki:k=id
  ·subst hki;exact hW.top k b cap _ hm hid rfl
  ·rw[if_neg hki]at he;exact hW.top k b cap e' hm he hli
 ·intro k hk
  rw[yr]at hk;exact htl k hk
theorem y5p (t : List (Nat × AV)) : ∀ (ks : List Nat) (i : Nat), get (ks.map fun k => (k, get t k)) i = get t i \/ get (ks.map fun k => (k, get t k)) i = .any
 | [],i=>by simp[get]
 | k::ks,i=>by
  simp only[List.map,get]
  cases hb:Nat.beq i k with
  | true=>left;have:=Nat.eq_of_beq_eq_true hb;subst this;first|rfl|simp
  | false=>first|exact y5p t ks i|simpa using y5p t ks i
theorem AWP.keepT {code:Code} (ks:List Nat) (h:AWP P c code N E R ⟨ks.map fun k=>(k,get s.t k),s.h⟩):AWP P c code N E R s:=by
 refine⟨fun a w hs=>h.run a w ?_⟩;obtain⟨μ,FP,hW,htl,h1,h2,h3⟩:=hs;refine⟨μ,FP,hW,htl,fun i => ?_,h2,h3⟩;rcases y5p s.t ks i with e|e
 ·rw[show get (⟨ks.map fun k=>(k,get s.t k),s.h⟩:St).t i=get s.t i from e];exact h1 i
 ·rw[show get (⟨ks.map fun k=>(k,get s.t k),s.h⟩:St).t i=.any from e];simp[Rep]
theorem yde {α:Type} [Inhabited α] (n i:Nat):(List.replicate n (default:α)).getD i default=default:=by
 rw[List.getD_eq_getElem?_getD,List.getElem?_replicate];split<;>rfl
theorem zs {p:Prop} (h:p:=by(intro i hi;rw[yde];(repeat' first|exact rfl|exact trivial|refine⟨?_,?_⟩));first|done|fail):p:=h
end Go.Ab
namespace Go.Ab
open Go
variable [Inv]
theorem yj0 {w w' : World} {M' : Nat -> Prop} {T : TypeId} {e n : Nat} {ob : Option Nat} {f : Nat -> List AV} {us : Nat -> List Value} {fps : Nat -> List Nat} {row : List Value} {b' cap' : Nat} {cur' : Array Value}
  (ho:AppOut w w' T e n 0 ob row [] b' cap' cur') (hrow:row=(List.range n).flatMap us)
  (hel:∀ i,i<n->RepL w' M' (f i) noMap (us i) (fps i)/\(us i).length=e/\∀ u∈us i,u.oneCell'=true) :
  Rep w' M' (.sl (some T) e n f) noMap (.slice (some ⟨b',0,none⟩) n cap') (b'::(List.range n).flatMap fps):=by
 simp only[Rep]
 have hlt:b'<w'.heap.size:=by
  have:=ho.row;exact(Array.getElem?_eq_some_iff.1 this).1
 refine .inr ⟨b',0,cap',us,fps,rfl,⟨by have:=ho.fit;omega,by have:=ho.fit;have:=ho.big;omega⟩,hlt,fun i hi => ?_,rfl,rfl,cur',ho.row,ho.len,ho.big⟩;obtain⟨h1,h2,h3⟩:=hel i hi;refine⟨h1,h2,fun j u hu => ?_⟩;have hj:j<e:=by rw[<- h2];exact(List.getElem?_eq_some_iff.1 hu).1
 have hlt2:i * e+j<n * e:=by
  have:(i+1) * e<=n * e:=Nat.mul_le_mul_right _ hi;rw[Nat.add_mul,Nat.one_mul]at this;omega
 refine⟨?_,h3 u (List.mem_of_getElem? hu)⟩;rw[cell_of_row w' b' _ cur' T (0,0) ho.row,Nat.zero_add,ho.olds _ hlt2,hrow,yvc (fun i hi=>(hel i hi).2.1) hi hj];exact hu
end Go.Ab
namespace Go.Ab
open Go
variable [Inv]
theorem Den.plain {P : Program} {f : FuncId} {xs : List AV} {r : AV} (hok : FnOk P f) (hno : NoOwnL xs)
  (h:∀ (w:World) (M:Nat->Prop) (vs:List Value),Inv.ok w->RepL w M xs noMap vs []->Calls P f vs.toArray w fun e w'=>∃ v,e=.returned v/\Grow w w'/\∀ M',Rep w' M' r noMap v []):Den P f xs r:=by
 refine⟨hok,?_⟩;intro w M vs fpA i1 i2 hr hnd hM hlt;have hfp:=NoOwnL.fp xs hno hr;subst hfp
 have htop:yx xs vs=[]:=by
  apply List.eq_nil_iff_forall_not_mem.2;intro b hb;have:=yzb xs hr b hb;simp at this
 refine(h w _ vs i1 hr).mono ?_;rintro e w' ⟨v,rfl,hg,hv⟩
 refine⟨v,[],rfl,⟨hg.os,hg.tape,hg.output,hg.size,fun k hk _=>hg.block k hk⟩,hv _,List.nodup_nil,by simp,fun b hb => ?_⟩;have:=y2f r (hv (fun _=>False)) b hb;simp at this
theorem Den.fresh {α : Type} [Inhabited α] {P : Program} {f : FuncId} {xs : List AV} {T : TypeId} {e : Nat} {enc : α -> List AV} {l : List α} (hok : FnOk P f) (hno : NoOwnL xs)
  (us:Nat->List Value) (hus:∀ w M i,i<l.length->RepL w M (enc (l.getD i default)) noMap (us i) []/\(us i).length=e/\∀ u∈us i,u.oneCell'=true)
  (h:∀ (w:World) (M:Nat->Prop) (vs:List Value),Inv.ok w->RepL w M xs noMap vs []->Calls P f vs.toArray w fun ex w'=>∃ b' cap' cur',ex=.returned (.slice (some ⟨b',0,none⟩) l.length cap')/\AppOut w w' T e l.length 0 none ((List.range l.length).flatMap us) [] b' cap' cur') :
  Den P f xs (ownL T e enc l):=by
 refine⟨hok,?_⟩;intro w M vs fpA i1 i2 hr hnd hM hlt;have hfp:=NoOwnL.fp xs hno hr;subst hfp;refine(h w _ vs i1 hr).mono ?_;rintro ex w' ⟨b',cap',cur',rfl,ho⟩
 have hb:b'=w.heap.size:=by
  rcases ho.place with h|h
  ·cases h
  ·exact h
 have hf:(List.range l.length).flatMap (fun _=>([]:List Nat))=[]:=by simp
 have hR:=yj0 (M':=fun c=>M c\/c∈[b']) (f:=fun k=>enc (l.getD k default)) (us:=us) (fps:=fun _=>[]) ho rfl (fun i hi=>hus w' _ i hi);rw[hf]at hR;refine⟨_,[b'],rfl,⟨ho.os,ho.tape,ho.output,ho.size,fun k hk _=>ho.other k hk (by omega)⟩,hR,by simp,?_,?_⟩
 ·intro b hb2
  simp only[List.mem_singleton]at hb2;subst hb2;exact⟨.inr (by omega),(Array.getElem?_eq_some_iff.1 ho.row).1⟩
 ·intro b hb2
  simp only[tops,yyb,ownL,List.mem_singleton]at hb2;subst hb2;exact .inr (by omega)
end Go.Ab
namespace Go.Ab
open Go
variable [Inv]
variable {P:Program} {c:Ctx} {s:St} {N:St->Prop} {E:Nat->St->Prop} {R:St->Prop}
theorem ymw (q i:Nat) (x:AV) (t:List (Nat×AV)):get ((q,x)::t) i=if i=q then x else get t i:=by
 simp only[get];by_cases h:i=q
 ·subst h;rw[if_pos rfl];simp
 ·rw[if_neg h]
  cases hb:Nat.beq i q with
  | true=>exact absurd (Nat.eq_of_beq_eq_true hb) h
  | false=>simp
theorem AWP.lendV {code : Code} (q id : Nat) {T : TypeId} {e n m : Nat} {f : Nat -> List AV} (f' : Nat -> List AV) (hq : get s.t q = .ref id e 0 n) (hid : nthE s.h id = some (.arr T e m f)) (hnm : n <= m)
  (hx:∀ i,i<n->simOL (borrowL (f i)) (f' i)) (hp:∀ i,i<n->pureL (f' i)=true)
  (h:AWP P c code N E R ⟨(q,.sl none e n f')::s.t,setE s.h id .dead⟩):AWP P c code N E R s:=by
 refine⟨fun a w hs=>h.run a w ?_⟩;obtain⟨μ,FP,hW,htl,h1,h2,h3⟩:=hs;have hlt:=ysb hid
 have hget:∀ k,nthE (setE s.h id .dead) k=if k=id then some .dead else nthE s.h k:=by
  intro k;rw[yq];by_cases hk:k=id
  ·subst hk;rw[if_pos ⟨rfl,hlt⟩,if_pos rfl]
  ·rw[if_neg (fun h=>hk h.1),if_neg hk]
 have hhot:∀ b,hot c.M0 (Hof (setE s.h id .dead)) μ b->c.M0 b\/∃ k cap e',k≠id/\μ k=some (.blk b cap)/\Hof s.h k=some e'/\e'.live=true:=by
  rintro b (hb|⟨k,cap,e',hm,he,hl⟩)
  ·exact .inl hb
  ·rw[show Hof (setE s.h id .dead) k=nthE (setE s.h id .dead) k from rfl,hget]at he
   by_cases hk:k=id
   ·subst hk;rw[if_pos rfl]at he;cases he;cases hl
   ·rw[if_neg hk]at he;exact .inr ⟨k,cap,e',hk,hm,he,hl⟩
 have hhot2:∀ b,hot c.M0 (Hof (setE s.h id .dead)) μ b->hot c.M0 (Hof s.h) μ b:=by
  intro b hb;rcases hhot b hb with h5|⟨k,cap,e',_,hm,he,hl⟩
  ·exact .inl h5
  ·exact .inr ⟨k,cap,e',hm,he,hl⟩
 have hsm:∀ fq,Same w (hot c.M0 (Hof s.h) μ) w (hot c.M0 (Hof (setE s.h id .dead)) μ) fq:=fun fq=>⟨Nat.le_refl _,fun b _ hb hh=>hb (hhot2 b hh),fun _ _ _=>rfl⟩
 have htopin:∀ k b cap e',μ k=some (.blk b cap)->Hof s.h k=some e'->e'.live=true->b∈FP k:=by
  intro k b cap e' hm he hl;obtain⟨e2,g1,g2⟩:=hW.ent k _ hm;rw[he]at g1;cases g1
  cases e' with
  | dead=>cases hl
  | box cs=>obtain⟨b',cap',us,T',hL,hfp,_⟩:=g2;cases hL;rw[hfp];simp
  | it l p m=>obtain⟨b',hL,hfp,_⟩:=g2;cases hL;rw[hfp];simp
  | arr T' e' n' f'=>obtain⟨cur,us,fps,_,_,_,_,_,hfp⟩:=g2;rw[hfp];simp
 have hcold:∀ x,x∈FP id->¬ hot c.M0 (Hof (setE s.h id .dead)) μ x:=by
  intro x hx hh;rcases hhot x hh with hM|⟨k,cap,e',hk,hm,he,hl⟩
  ·have hc:=c.cold0 x hM
   rcases(hW.new id x hx).1 with h5|h5
   ·exact hc.2 h5
   ·omega
  ·exact hW.disj k id hk x (htopin k x cap e' hm he hl) hx
 let FP2:Nat->List Nat:=fun k=>if k=id then[]else FP k
 have hsub:∀ k b,b∈FP2 k->b∈FP k:=by
  intro k b hb;simp only[FP2]at hb;by_cases hk:k=id
  ·rw[if_pos hk]at hb;cases hb
  ·rw[if_neg hk]at hb;exact hb
 have hslot:Rep w (hot c.M0 (Hof (setE s.h id .dead)) μ) (.sl none e n f') μ (a.tmps.getD q undef) []:=by
  have hr:=h1 q;rw[hq]at hr;simp only[Rep]at hr ⊢;obtain⟨_,hr⟩:=hr
  cases hm:μ id with
  | none=>rw[hm]at hr;exact hr.elim
  | some L=>
   rw[hm]at hr;obtain⟨e2,g1,g2⟩:=hW.ent id L hm;rw[show Hof s.h id=nthE s.h id from rfl,hid]at g1;cases g1
   cases L with
   | nil=>
    obtain⟨_,hn,hv⟩:=hr;exact .inl ⟨hn,by rw[hv];simp[emptyV],trivial⟩
   | blk b cap=>
    obtain⟨hn,o,hv,ho⟩:=hr
    have ho:o=0:=by
     rcases ho with h5|h5
     ·exact absurd rfl h5.1
     ·simpa using h5
    subst ho;have g3:=yhb.mono (Map.le_refl _) (hsm _) (fun b hb=>(hW.new id b hb).2) g2;obtain⟨cur,us,fps,q1,q2,q3,q4,q5,q6⟩:=g3;have hbF:b∈FP id:=by rw[q6];simp
    refine .inr ⟨b,0,cap-0,us,fun _=>[],hv,⟨by omega,by omega⟩,(hW.new id b hbF).2,fun i hi => ?_,hcold b hbF,trivial,fun _ _=>rfl⟩;obtain⟨r1,r2,r3⟩:=q5 i (by omega);refine⟨ypb _ (hp i hi) (yvb _ _ (hx i hi) (yub (f i) (fun x hxm=>hcold x ?_) r1)),r2,by simpa using r3⟩;rw[q6];exact List.mem_cons_of_mem _ (List.mem_flatMap.2 ⟨i,List.mem_range.2 (by omega),hxm⟩)
 refine⟨μ,FP2,⟨hW.keep,hW.base,?_,?_,?_,?_,fun k b hb=>hW.new k b (hsub k b hb),?_⟩,?_,fun i => ?_,h2,h3⟩
 ·intro k L hk
  obtain⟨e2,g1,g2⟩:=hW.ent k L hk;rw[show Hof (setE s.h id .dead) k=nthE (setE s.h id .dead) k from rfl,hget];by_cases hki:k=id
  ·subst hki
   exact⟨.dead,if_pos rfl,if_pos rfl⟩
  ·have g3:=yhb.mono (Map.le_refl _) (hsm _) (fun b hb=>(hW.new k b hb).2) g2
   refine⟨e2,by rw[if_neg hki];exact g1,?_⟩;rw[show FP2 k=FP k from if_neg hki];exact g3
 ·intro k hk
  by_cases hki:k=id
  ·exact if_pos hki
  ·rw[show FP2 k=FP k from if_neg hki];exact hW.out k hk
 ·intro k
  by_cases hki:k=id
  ·rw[show FP2 k=[]from if_pos hki];simp
  ·rw[show FP2 k=FP k from if_neg hki];exact hW.nodup k
 ·intro i j hij b hb hb2
  exact hW.disj i j hij b (hsub i b hb) (hsub j b hb2)
 ·intro k b cap e' hm he hli
  rw[show Hof (setE s.h id .dead) k=nthE (setE s.h id .dead) k from rfl,hget]at he;by_cases hki:k=id
  ·subst hki;rw[if_pos rfl]at he;cases he;cases hli
  ·rw[if_neg hki]at he;exact hW.top k b cap e' hm he hli
 ·intro k hk
  rw[yr]at hk;exact htl k hk
 ·rw[show get (⟨(q,.sl none e n f')::s.t,setE s.h id .dead⟩:St).t i=get ((q,.sl none e n f')::s.t) i from rfl,ymw]
  by_cases hi:i=q
  ·subst hi;rw[if_pos rfl];exact hslot
  ·rw[if_neg hi];exact Rep.mono _ (Map.le_refl _) (hsm _) (h1 i)
theorem lv1 {p:Prop} (h:p:=by(intro i hi;first|exact yp _|exact absurd hi (Nat.not_lt_zero _)|(simp only[borrowL,borrow];exact yp _)|(simp[borrowL,borrow,simOL,simO]));first|done|fail):p:=h
theorem lv2 {p:Prop} (h:p:=by(intro i hi;rfl);first|done|fail):p:=h
end Go.Ab
namespace Go.Ab
open Go
variable [Inv]
structure ElT (P:Program) (tS tE:TypeId) (e bytes:Nat) (i:TypeInfo) (z:Value):Prop where
 und:P.underlying tS=some (.slice tE)
 inf:P.info? tE=some i
 zero:i.zero=some z
 size:i.size=e
 byt:i.bytes=bytes
 zs:z.cells.size=e
 pos:0<e
 zone:∀ u∈z.cells,u.oneCell'=true
theorem ElT.mk' {P:Program} {Γ:Env} (hΓ:TyOk P Γ) {tS tE:TypeId} {e bytes a b:Nat} {zs:List AV} {zs':List AV} {ti:TI} {o:Bool} (h1:tget Γ tS=some ⟨.slice tE,a,b,zs',o⟩) (h2:tget Γ tE=some ⟨ti,e,bytes,zs,true⟩) (hl:zs.length=e) (hp:0<e) :
  ∃ i z,ElT P tS tE e bytes i z:=by
 obtain⟨inf,d,i1,i2,i3,i4,i5,i6,i7⟩:=yk (TyOk.get hΓ h1);obtain⟨jnf,d',j1,j2,j3,j4,j5,j6,j7⟩:=yk (TyOk.get hΓ h2)
 have hu:P.underlying tS=some (.slice tE):=by
  rw[i2];cases d<;>simp[tiOf]at i3
  all_goals first|(simp[i3];done)|(subst i3;rfl)|(split at i3<;>simp_all)
 cases hz:jnf.zero with
 | none=>simp[hz]at j7
 | some z=>
  simp only[hz,Option.map_some,Option.getD_some]at j6 j7;refine⟨jnf,z,hu,j1,hz,j4,j5,?_,hp,?_⟩
  ·have:=congrArg List.length j6
   simp at this
   rw[<- this];exact hl
  ·intro u hu2
   have:=List.all_eq_true.1 j7.symm u (by simpa using hu2);exact this
end Go.Ab
