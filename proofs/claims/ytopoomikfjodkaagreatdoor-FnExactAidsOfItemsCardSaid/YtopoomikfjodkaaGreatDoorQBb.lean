/- A part of a proof: walks of functions and lemmas of our own. No conditions. -/
import Derived.Test.YtopoomikfjodkaaGreatDoorQAz
import Derived.Test.YtopoomikfjodkaaGreatDoorQAo
import Derived.Test.YtopoomikfjodkaaGreatDoorQBa
import Derived.Test.YtopoomikfjodkaaGreatDoorQAy
import Derived.Test.YtopoomikfjodkaaGreatDoorQAq
import Derived.Test.YtopoomikfjodkaaGreatDoorQAw
import Derived.Test.YtopoomikfjodkaaGreatDoorQAr
import Derived.Test.YtopoomikfjodkaaGreatDoorQAt
import Derived.Test.YtopoomikfjodkaaGreatDoorQAu
import Derived.Test.YtopoomikfjodkaaGreatDoorQAv
import Derived.Test.YtopoomikfjodkaaGreatDoorQAl
import Derived.Test.YtopoomikfjodkaaGreatDoorQAs
import Derived.Test.YtopoomikfjodkaaGreatDoorQAx
import Derived.Test.YtopoomikfjodkaaGreatDoorQAi
set_option linter.unusedSectionVars false
set_option linter.unusedVariables false
set_option linter.unusedSimpArgs false
set_option maxHeartbeats 1000000
namespace Go.Ab
open Go Go.Proofs
theorem ye8 (a b:List UInt8):zjd a b=Lib.trimSuffix a b:=rfl
theorem yxq (s:List UInt8) (h:zbc s=true):(32:UInt8)∉s:=by
 intro hm
 obtain⟨i,hi,he⟩:=List.getElem_of_mem hm
 unfold zbc at h
 cases hl:yd (yfh s) (s.length-0) 0 ()with
 | error e=>
  rw[hl]at h
  obtain⟨j,t,_,_,h3⟩:=ypc hl
  unfold yfh at h3
  simp only[Bool.cond_eq_ite]at h3
  split at h3
  ·cases h3;simp at h
  ·cases h3
 | ok u=>
  have hk:=y8c (fun k (_:Unit)=>∀ j,j<k→zpe ((s.getD j 0).toNat:Int)≠0) hl (by intro j hj;omega) (fun j u v _ _ hI hv=>by
   unfold yfh at hv
   simp only[Bool.cond_eq_ite]at hv
   split at hv
   ·cases hv
   ·rename_i hn
    simp only[Bool.or_eq_true,beq_iff_eq,not_or]at hn
    intro q hq
    by_cases hqj:q=j
    ·subst hqj;exact hn.1
    ·exact hI q (by omega))
  have:=hk i (by omega)
  rw[List.getD_eq_getElem?_getD,List.getElem?_eq_getElem hi,Option.getD_some,he]at this
  exact this rfl
theorem y8r (c:Character) (h:zbb c=true):(32:UInt8)∉yvd c:=by
 have hk:=yld c h
 obtain⟨g1,g2⟩:=ytd c h
 have h32:=(yf6 c.Kind hk).2
 unfold yvd
 by_cases h8:c.Kind=8
 ·rw[if_pos h8]
  obtain⟨_,f2,f3,f4⟩:=yam c h h8
  obtain⟨x,hx⟩:=List.length_eq_one_iff.1 f2
  rw[hx]at f3 f4 ⊢
  simp only[List.getD_cons_zero]at f3 f4
  intro hm
  simp only[List.mem_append,List.mem_cons,List.not_mem_nil,or_false]at hm
  rcases hm with hm|hm|hm|hm
  ·exact absurd hm (by decide)
  ·exact absurd hm (by decide)
  ·subst hm;exact absurd f3 (by decide)
  ·exact absurd hm (by decide)
 ·rw[if_neg h8]
  intro hm
  rcases List.mem_append.1 hm with hm|hm
  ·exact h32 hm
  ·rcases List.mem_append.1 hm with hm|hm
   ·unfold grpT at hm
    split at hm
    ·simp at hm
    ·rcases List.mem_cons.1 hm with hm|hm
     ·exact absurd hm (by decide)
     ·rcases List.mem_append.1 hm with hm|hm
      ·refine y34 32 (by decide) (c.Group.map Lib.itoa) (fun y hy => ?_) hm
       obtain⟨z,hz,rfl⟩:=List.mem_map.1 hy
       exact yne (by have:=g2 z hz;omega) 32 (by decide)
      ·rw[List.mem_singleton]at hm;exact absurd hm (by decide)
   ·split at hm
    ·simp at hm
    ·exact absurd hm (by decide)
theorem yui (c:Character) (h:zw c=true) (hl:c.Colors.length<9223372036854775808):zbc c.Colors=true:=by
 unfold zw at h
 rw[y2o _ hl]at h
 cases hc:zbc c.Colors with
 | true=>rfl
 | false=>rw[hc]at h;simp at h
theorem ygy (c:Character) (h:zw c=true) (hl:c.Colors.length<9223372036854775808):zsc (chrT c)=(c,true):=by
 have hf:=y6b c h
 have hr:=ybz c hf
 have hp:=yfd c h
 have hp2:=(y0c c h).2.2
 have hcol:=yxq _ (yui c h hl)
 have c1:zb (chrT c) [32]=(yvd c,c.Colors++perT c.Period,true):=by
  rw[ymr];unfold chrT;rw[yef _ _ 32 (y8r c hf)]
 have htext:=y2j c h
 unfold zsc
 rw[c1]
 simp only
 by_cases h0:c.Period=0
 ·have c2:zb (c.Colors++perT c.Period) [32]=(c.Colors,[],false):=by
   rw[h0,show perT 0=[]from rfl,List.append_nil,ymr,ybj _ 32 hcol]
  rw[c2,hr]
  simp only[cond_false]
  have ec:({ Kind:=c.Kind,Group:=c.Group,Letter:=c.Letter,Colors:=c.Colors,Period:=0:Character })=c:=by rw[← h0]
  simp only[ec,h,htext]
  simp
 ·have e2:perT c.Period=32::(secT c.Period++[115]):=by unfold perT;rw[if_neg h0]
  have c2:zb (c.Colors++perT c.Period) [32]=(c.Colors,secT c.Period++[115],true):=by
   rw[e2,ymr,yef _ _ 32 hcol]
  have c3:zjd (secT c.Period++[115]) [115]=secT c.Period:=by rw[ye8,y7b]
  rw[c2,hr]
  simp only[cond_true]
  rw[c3,y3m _ (by omega) hp2]
  have ec:({ Kind:=c.Kind,Group:=c.Group,Letter:=c.Letter,Colors:=c.Colors,Period:=c.Period:Character })=c:=rfl
  simp only[ec,h,htext]
  simp
theorem y3g (a:List UInt8):zsc a=({ Kind:=0,Group:=[],Letter:=[],Colors:=[],Period:=0:Character },false)∨∃ c,zw c=true∧zrc c=a∧zsc a=(c,true):=by
 unfold zsc
 cases(zb ((zb a [32]).2.1) [32]).2.2 with
 | true=>
  simp only[cond_true]
  generalize hc:({ Kind:=((zj ((zb a [32]).1)).1).Kind,Group:=((zj ((zb a [32]).1)).1).Group,Letter:=((zj ((zb a [32]).1)).1).Letter,Colors:=(zb ((zb a [32]).2.1) [32]).1,Period:=(zxd (zjd ((zb ((zb a [32]).2.1) [32]).2.1) [115])).1:Character })=c
  cases hv:zw c with
  | false=>left;simp
  | true=>
   by_cases ht:zrc c=a
   ·cases hq:((zj ((zb a [32]).1)).2 && (zxd (zjd ((zb ((zb a [32]).2.1) [32]).2.1) [115])).2)with
    | true=>right;exact⟨c,hv,ht,by simp[ht]⟩
    | false=>left;simp
   ·left
    have:(zrc c != a)=true:=by simpa using ht
    rw[this];simp
 | false=>
  simp only[cond_false]
  generalize hc:({ Kind:=((zj ((zb a [32]).1)).1).Kind,Group:=((zj ((zb a [32]).1)).1).Group,Letter:=((zj ((zb a [32]).1)).1).Letter,Colors:=(zb ((zb a [32]).2.1) [32]).1,Period:=((zj ((zb a [32]).1)).1).Period:Character })=c
  cases hv:zw c with
  | false=>left;simp
  | true=>
   by_cases ht:zrc c=a
   ·cases hq:(zj ((zb a [32]).1)).2 with
    | true=>right;exact⟨c,hv,ht,by simp[ht]⟩
    | false=>left;simp
   ·left
    have:(zrc c != a)=true:=by simpa using ht
    rw[this];simp
end Go.Ab

namespace Go.Ab
open Go Go.Proofs
def parB (s:List UInt8×List UInt8×Int):Except (Sum (Character×Bool) (List UInt8×List UInt8×Int)) (List UInt8×List UInt8×Int):=
 (bif decide (s.2.2<(s.1.length:Int))then(bif ((((s.1.getD ((s.2.2).toNat) 0).toNat:Int) == 40) && (((s.1.getD ((IntKind.wrap .i64 ((s.1.length:Int)-1)).toNat) 0).toNat:Int) == 41))then .error (.inr (s.1.take ((s.2.2).toNat),(s.1.take ((IntKind.wrap .i64 ((s.1.length:Int)-1)).toNat)).drop ((IntKind.wrap .i64 (s.2.2+1)).toNat),s.2.2))else .ok (s.1,s.2.1,IntKind.wrap .i64 (s.2.2+1)))else .error (.inr (s.1,s.2.1,s.2.2)))
theorem yhh (p X:List UInt8) (h40:(40:UInt8)∉p) (hl:(p++40::(X++[41])).length≤1048576):∀ (k i n:Nat),i+k=p.length→k<n →
  y7 parB n (p++40::(X++[41]),[],(i:Int))=.error (.inr (p,X,(p.length:Int)))
 | k,i,0,_,h=>by omega
 | 0,i,n+1,h,_=>by
  have hi:i=p.length:=by omega
  subst hi
  simp only[List.length_append,List.length_cons,List.length_nil]at hl
  have d1:decide (((p.length:Nat):Int)<((p++40::(X++[41])).length:Int))=true:=decide_eq_true (by simp only[List.length_append,List.length_cons,List.length_nil];omega)
  have w1:IntKind.wrap .i64 (((p++40::(X++[41])).length:Int)-1)=((p.length+1+X.length:Nat):Int):=by
   simp only[List.length_append,List.length_cons,List.length_nil];rw[IntKind.wrap_i64];omega
  have w2:IntKind.wrap .i64 ((p.length:Int)+1)=((p.length+1:Nat):Int):=by rw[IntKind.wrap_i64];omega
  have g1:(p++40::(X++[41])).getD p.length 0=40:=by
   rw[List.getD_eq_getElem?_getD,List.getElem?_append_right (Nat.le_refl _)];simp
  have g2:(p++40::(X++[41])).getD (p.length+1+X.length) 0=41:=by
   rw[List.getD_eq_getElem?_getD,List.getElem?_append_right (by omega),show p.length+1+X.length-p.length=X.length+1 by omega,List.getElem?_cons_succ,List.getElem?_append_right (Nat.le_refl _)];simp
  simp only[y7,parB]
  rw[d1,w1,w2,Int.toNat_natCast,Int.toNat_natCast,Int.toNat_natCast,g1,g2]
  have t1:(p++40::(X++[41])).take p.length=p:=List.take_left' rfl
  have t2:((p++40::(X++[41])).take (p.length+1+X.length)).drop (p.length+1)=X:=by
   have:p++40::(X++[41])=(p++[40])++(X++[41]):=by simp
   rw[this,List.take_append,List.drop_append]
   simp
  rw[t1,t2]
  rfl
 | k+1,i,n+1,h,hn=>by
  simp only[List.length_append,List.length_cons,List.length_nil]at hl
  have d1:decide ((i:Int)<((p++40::(X++[41])).length:Int))=true:=decide_eq_true (by simp only[List.length_append,List.length_cons,List.length_nil];omega)
  have w2:IntKind.wrap .i64 ((i:Int)+1)=((i+1:Nat):Int):=by rw[IntKind.wrap_i64];omega
  have hi:i<p.length:=by omega
  have g1:(((((p++40::(X++[41])).getD i 0).toNat:Int)) == 40)=false:=by
   rw[List.getD_eq_getElem?_getD,List.getElem?_append_left hi,List.getElem?_eq_getElem hi,Option.getD_some,beq_eq_false_iff_ne]
   intro he
   have:p[i]=40:=UInt8.toNat_inj.1 (by show _=40;omega)
   exact h40 (this ▸ List.getElem_mem hi)
  have:=yhh p X h40 (by simp only[List.length_append,List.length_cons,List.length_nil];exact hl) k (i+1) n (by omega) (by omega)
  simp only[y7,parB]
  rw[d1,Int.toNat_natCast,g1,w2]
  simp only[Bool.false_and,cond_true,cond_false]
  exact this
theorem yfu (p:List UInt8) (h40:(40:UInt8)∉p) (hl:p.length≤1048576):∀ (k i n:Nat),i+k=p.length→k<n →
  y7 parB n (p,[],(i:Int))=.error (.inr (p,[],(p.length:Int)))
 | k,i,0,_,h=>by omega
 | 0,i,n+1,h,_=>by
  have hi:i=p.length:=by omega
  subst hi
  simp only[y7,parB]
  rw[decide_eq_false (by omega)]
  rfl
 | k+1,i,n+1,h,hn=>by
  have hi:i<p.length:=by omega
  have d1:decide ((i:Int)<(p.length:Int))=true:=decide_eq_true (by omega)
  have w2:IntKind.wrap .i64 ((i:Int)+1)=((i+1:Nat):Int):=by rw[IntKind.wrap_i64];omega
  have g1:((((p.getD i 0).toNat:Int)) == 40)=false:=by
   rw[List.getD_eq_getElem?_getD,List.getElem?_eq_getElem hi,Option.getD_some,beq_eq_false_iff_ne]
   intro he
   have:p[i]=40:=UInt8.toNat_inj.1 (by show _=40;omega)
   exact h40 (this ▸ List.getElem_mem hi)
  have:=yfu p h40 hl k (i+1) n (by omega) (by omega)
  simp only[y7,parB]
  rw[d1,Int.toNat_natCast,g1,w2]
  simp only[Bool.false_and,cond_true,cond_false]
  exact this
theorem ybn (k:Int) (hk:1≤k∧k≤8) (b:Nat→Int→Except (Character×Bool) Int) (hb:∀ i s,b i s=(bif (((zm ).getD i default) == kt k)then .ok (i:Int)else .ok s)) :
  yd b (((zm ).length)-1) 1 0=.ok k:=by
 have e:b=fun i s=>(bif (((zm ).getD i default) == kt k)then .ok (i:Int)else .ok s):=funext fun i=>funext fun s=>hb i s
 rw[e]
 rcases(show k=1∨k=2∨k=3∨k=4∨k=5∨k=6∨k=7∨k=8 by omega)with h|h|h|h|h|h|h|h<;>subst h<;>rfl
theorem y16 {ρ : Type} (g : List Int) (h2 : ∀ v ∈ g, 1 ≤ v ∧ v ≤ 9) (r : Nat → List Int → ρ) (b : Nat → List Int → Except ρ (List Int))
  (hb:∀ i s,b i s=(bif (!(zg ((g.map Lib.itoa).getD i default)).2)then .error (r i s)else .ok (s++([(zg ((g.map Lib.itoa).getD i default)).1]:List Int)))) :
  yd b ((g.map Lib.itoa).length-0) 0 []=.ok g:=by
 refine yg6 g h2 r b (fun i s => ?_)
 rw[hb]
 have e:zg ((g.map Lib.itoa).getD i default)=zk ((g.map Lib.itoa).getD i default):=by
  have hlen:((g.map Lib.itoa).getD i default).length≤1048576:=by
   rw[List.getD_eq_getElem?_getD,List.getElem?_map]
   cases hg:g[i]? with
   | none=>show(0:Nat)≤_;omega
   | some x=>
    have:=h2 x (List.mem_of_getElem? hg)
    have:=y7d x (by omega) (by omega)
    simp only[Option.map_some,Option.getD_some];omega
  exact(ydq _ hlen).symm
 rw[e]
end Go.Ab

namespace Go.Ab
open Go Go.Proofs
def yqk (a0:(List UInt8)) (s1:Int):Except (Sum ((Int×Bool)) (Int)) (Int):=
 (bif decide (s1≤600)then(bif ((zwb s1) == a0)then .error (.inl (s1,true))else .ok (IntKind.wrap .i64 (s1+1)))else .error (.inr s1))
def zfc (a0:(List UInt8)):(Int×Bool):=
 (match y7 (yqk a0) (((601-(1:Int)).toNat)+1) 1 with|.error (.inl e)=>e|.error (.inr s1)=>(0,false)|.ok _=>default)
namespace N299
theorem DD:DOk Tryz.prog (Go.Ab.DD [(280,dP D_zwb)]):=ya yrn.e <| ye _
theorem dn:type_of% (@D_zwb.eq_1):=by and_intros<;>intros<;>rfl
theorem den (a0:(List UInt8)) (hb0:a0.length<1099511627776):Den Tryz.prog 299 [.str a0] (.tup [.int .i64 ((zfc a0).1),.bool ((zfc a0).2)]):=by
 generalize hR:zfc a0=r
 unfold zfc at hR
 refine di Tryz.func299 Tryz.ntmps299 Tryz.results299 ?_
 intro c hL hc hk
 obtain⟨hL0,_⟩:=hL
 have hw0:a0.length<9223372036854775808:=Nat.lt_succ_of_le hL0
 clear hL0
 simp only[pars,Nat.zero_add]
 iterate 2 refine rS ?_
 refine AWP.block ?_
 generalize hz1:y7 (yqk a0) (((601-(1:Int)).toNat)+1) 1=z1 at hR
 refine AWP.whileW (yqk a0) (fun s1=>⟨[(0,.str a0),(4,.int .i64 s1)],[]⟩) (fun s1=>1≤s1∧s1≤601) (fun s1=>(601-s1).toNat) (((601-(1:Int)).toNat)+1) 1 [] hz1 m0 wt sm ?_
 clear hz1
 intro s1 k1 hW1 hm1 hz1
 simp only[yqk]at hz1
 refine rS ?_
 refine AWP.cond rfl (fun hb => ?_) (fun hb => ?_)
 ·simp only[hb,cond_true]at hz1
  refine rS ?_
  refine AWP.cond rfl (fun hb => ?_) (fun hb => ?_)
  ·simp only[hb,cond_true]at hz1
   refine rS ?_
   refine AWP.ret ?_
   subst hz1
   dsimp only at hR
   subst hR
   exact es
  ·simp only[hb,cond_false]at hz1
   refine rS ?_
   exact⟨_,[],ms,wt,hz1,sm⟩
 ·simp only[hb,cond_false]at hz1
  refine AWP.exit ?_
  refine yb ?_
  subst hz1;dsimp only at hR
  refine rS ?_
  refine AWP.ret ?_
  subst hR
  exact es
end N299
def D_zfc : DF
 | [x0]=>some (.tup [.int .i64 ((zfc (rdS x0)).1),.bool ((zfc (rdS x0)).2)],false,[wS x0,(rdS x0).length<1099511627776])
 | _=>none
theorem yw0:OkD Tryz.prog 299 D_zfc:=by unfold D_zfc;exact dk N299.den
end Go.Ab

namespace Go.Ab
open Go Go.Proofs
theorem yjs (b : Nat → List Int → Except (Character × Bool) (List Int)) (f : List Int → Character × Bool) (hb : ∀ i s, s.length ≤ 1048577 → (∃ x, b i s = .ok (s ++ [x])) ∨ ∃ e, b i s = .error e ∧ CBd e)
  (hf:∀ s,s.length≤1048577→CBd (f s)):∀ (k i:Nat) (s:List Int),s.length≤i→i+k≤1048577→CBd (match yd b k i s with|.error e=>e|.ok s=>f s)
 | 0,i,s,hs,hk=>by simp only[yd];exact hf s (by omega)
 | k+1,i,s,hs,hk=>by
  simp only[yd]
  rcases hb i s (by omega)with⟨x,hx⟩|⟨e,he,hc⟩
  ·rw[hx]
   exact yjs b f hb hf k (i+1) (s++[x]) (by simp only[List.length_append,List.length_singleton];omega) (by omega)
  ·rw[he];exact hc
theorem y8s (b:Nat→Int→Except (Character×Bool) Int) (hb:∀ i s,∃ t,b i s=.ok t) (f:Int→Character×Bool) (hf:∀ k,CBd (f k)) (n i:Nat) (s:Int):CBd (match yd b n i s with|.error e=>e|.ok s=>f s):=by
 cases h:yd b n i s with
 | error e=>
  obtain⟨j,t,_,_,h3⟩:=ypc h
  obtain⟨u,hu⟩:=hb j t
  rw[hu]at h3;cases h3
 | ok t=>exact hf t
theorem ypv (a:List UInt8) (ha:a.length≤1048576):CBd (zh a):=by
  have hdef:CBd (default:Character×Bool):=⟨by show(0:Nat)≤_;omega,by show(0:Nat)≤_;omega,by show(0:Nat)≤_;omega⟩
  have hw:∀ (b:List UInt8×List UInt8×Int→Except (Sum (Character×Bool) (List UInt8×List UInt8×Int)) (List UInt8×List UInt8×Int)) (n:Nat) (s:List UInt8×List UInt8×Int) (f:List UInt8×List UInt8×Int→Character×Bool),
      (∀ s,s.1.length≤1048576∧s.2.1.length≤1048576→match b s with|.error (.inl e)=>False|.error (.inr t)=>t.2.1.length≤1048576|.ok t=>t.1.length≤1048576∧t.2.1.length≤1048576)→(s.1.length≤1048576∧s.2.1.length≤1048576)→(∀ s,s.2.1.length≤1048576→CBd (f s)) →
      CBd (match y7 b n s with|.error (.inl e)=>e|.error (.inr s)=>f s|.ok _=>default):=by
    intro b n s f hb hs hf
    have h:=y1k (body:=b) (I:=fun s=>s.1.length≤1048576∧s.2.1.length≤1048576) (Q:=fun r=>match r with|.inl e=>False|.inr t=>t.2.1.length≤1048576) (fun s hI=>by
      have:=hb s hI
      cases hbs:b s with
      | error r => rw [hbs] at this; cases r with
        | inl e=>exact this
        | inr t=>exact this
      | ok t=>rw[hbs]at this;exact this) n s hs
    cases hl:y7 b n s with
    | error r=>
      rw[hl]at h
      cases r with
      | inl e=>exact h.elim
      | inr t=>exact hf t h
    | ok t=>exact hdef
  have hpar:∀ s:List UInt8×List UInt8×Int,s.1.length≤1048576∧s.2.1.length≤1048576→match y6r a s with|.error (.inl e)=>False|.error (.inr t)=>t.2.1.length≤1048576|.ok t=>t.1.length≤1048576∧t.2.1.length≤1048576:=by
    intro s hs
    unfold y6r
    cases decide (s.2.2<(s.1.length:Int))with
    | false=>exact hs.2
    | true=>
      simp only[cond_true]
      cases((((s.1.getD ((s.2.2).toNat) 0).toNat:Int) == 40) && (((s.1.getD ((IntKind.wrap .i64 ((s.1.length:Int)-1)).toNat) 0).toNat:Int) == 41))with
      | true=>simp only[cond_true,List.length_drop,List.length_take];omega
      | false=>exact hs
  have hsp:∀ s:List UInt8,s.length≤1048576→(za s 43).length≤1048577:=fun s h=>y3 s h
  unfold zh
  cases(decide (4<(a.length:Int)) && (((a.take a.length).drop ((IntKind.wrap .i64 ((a.length:Int)-4)).toNat)) == [43,76,70,108]))with
  | true=>
    simp only[cond_true]
    refine hw _ _ _ _ hpar ⟨by simp only[List.length_take];omega,by simp⟩ (fun s hs => ?_)
    refine y8s _ (fun i t => ?_) _ (fun k => ?_) _ _ _
    · unfold yan
      cases(((zm ).getD i default) == s.1)with
      | true=>exact⟨_,rfl⟩
      | false=>exact⟨_,rfl⟩
    · cases(k == 8)with
      | true=>exact⟨by simp,by simp only[cond_true,List.length_append,List.length_singleton];omega,by simp⟩
      | false=>
        simp only[cond_false]
        cases(s.2.1 == [])with
        | true=>exact⟨by simp,by simp,by simp⟩
        | false=>
          simp only[cond_false]
          refine yjs _ (fun t=>({ Kind:=k,Group:=t,Letter:=[76],Colors:=[],Period:=0:Character },_)) (fun i t ht => ?_) (fun t ht=>⟨ht,by simp,by simp⟩) _ 0 [] (by simp) (by have:=hsp _ hs;omega)
          unfold ycl
          cases(!((zg ((za s.2.1 43).getD i default)).2))with
          | true=>exact .inr ⟨_,rfl,ht,by simp,by simp⟩
          | false=>exact .inl ⟨_,rfl⟩
  | false=>
    simp only[cond_false]
    refine hw _ _ _ _ hpar ⟨by simp only;omega,by simp⟩ (fun s hs => ?_)
    refine y8s _ (fun i t => ?_) _ (fun k => ?_) _ _ _
    · unfold yij
      cases(((zm ).getD i default) == s.1)with
      | true=>exact⟨_,rfl⟩
      | false=>exact⟨_,rfl⟩
    · cases(k == 8)with
      | true=>exact⟨by simp,by simp only[cond_true,List.length_append,List.length_nil];omega,by simp⟩
      | false=>
        simp only[cond_false]
        cases(s.2.1 == [])with
        | true=>exact⟨by simp,by simp,by simp⟩
        | false=>
          simp only[cond_false]
          refine yjs _ (fun t=>({ Kind:=k,Group:=t,Letter:=[],Colors:=[],Period:=0:Character },_)) (fun i t ht => ?_) (fun t ht=>⟨ht,by simp,by simp⟩) _ 0 [] (by simp) (by have:=hsp _ hs;omega)
          unfold yil
          cases(!((zg ((za s.2.1 43).getD i default)).2))with
          | true=>exact .inr ⟨_,rfl,ht,by simp,by simp⟩
          | false=>exact .inl ⟨_,rfl⟩
theorem y5r (a:List UInt8) (h:a.length≤1048576) (i:Nat):((za a 32).getD i default).length≤1048576:=by
 rw[show za a 32=yn 32 a from yoj a 32 (by omega),List.getD_eq_getElem?_getD]
 cases hg:(yn 32 a)[i]? with
 | none=>show(0:Nat)≤1048576;omega
 | some x=>have:=(y5 32 a).2 x (List.mem_of_getElem? hg);simp only[Option.getD_some];omega
theorem yc7 (a:List UInt8) (h:a.length≤1048576) (k p:Int):bdCharacter { Kind:=k,Group:=(zh ((za a 32).getD 0 default)).1.Group,Letter:=(zh ((za a 32).getD 0 default)).1.Letter,Colors:=(za a 32).getD 1 default,Period:=p }:=by
 obtain⟨h1,h2,_⟩:=ypv _ (y5r a h 0)
 have h3:=y5r a h 1
 exact⟨by show List.length _<_;simp only;omega,by show List.length _<_;simp only;omega,by show List.length _<_;simp only;omega⟩
end Go.Ab

namespace Go.Ab
open Go Go.Proofs
def zyc (a0:(List UInt8)):(Character×Bool):=
 (bif ((((za a0 32).length:Int) != 2) && (((za a0 32).length:Int) != 3))then({ Kind:=0,Group:=[],Letter:=[],Colors:=[],Period:=0:Character },false)else(bif (((za a0 32).length:Int) == 3)then(bif (((!((zh ((za a0 32).getD 0 default)).2 && (zfc ((za a0 32).getD 2 default)).2)) || (!(zob ({ Kind:=((zh ((za a0 32).getD 0 default)).1).Kind,Group:=((zh ((za a0 32).getD 0 default)).1).Group,Letter:=((zh ((za a0 32).getD 0 default)).1).Letter,Colors:=((za a0 32).getD 1 default),Period:=(zfc ((za a0 32).getD 2 default)).1:Character })))) || ((zfb ({ Kind:=((zh ((za a0 32).getD 0 default)).1).Kind,Group:=((zh ((za a0 32).getD 0 default)).1).Group,Letter:=((zh ((za a0 32).getD 0 default)).1).Letter,Colors:=((za a0 32).getD 1 default),Period:=(zfc ((za a0 32).getD 2 default)).1:Character })) != a0))then({ Kind:=0,Group:=[],Letter:=[],Colors:=[],Period:=0:Character },false)else({ Kind:=((zh ((za a0 32).getD 0 default)).1).Kind,Group:=((zh ((za a0 32).getD 0 default)).1).Group,Letter:=((zh ((za a0 32).getD 0 default)).1).Letter,Colors:=((za a0 32).getD 1 default),Period:=(zfc ((za a0 32).getD 2 default)).1:Character },true))else(bif (((!((zh ((za a0 32).getD 0 default)).2)) || (!(zob ({ Kind:=((zh ((za a0 32).getD 0 default)).1).Kind,Group:=((zh ((za a0 32).getD 0 default)).1).Group,Letter:=((zh ((za a0 32).getD 0 default)).1).Letter,Colors:=((za a0 32).getD 1 default),Period:=((zh ((za a0 32).getD 0 default)).1).Period:Character })))) || ((zfb ({ Kind:=((zh ((za a0 32).getD 0 default)).1).Kind,Group:=((zh ((za a0 32).getD 0 default)).1).Group,Letter:=((zh ((za a0 32).getD 0 default)).1).Letter,Colors:=((za a0 32).getD 1 default),Period:=((zh ((za a0 32).getD 0 default)).1).Period:Character })) != a0))then({ Kind:=0,Group:=[],Letter:=[],Colors:=[],Period:=0:Character },false)else({ Kind:=((zh ((za a0 32).getD 0 default)).1).Kind,Group:=((zh ((za a0 32).getD 0 default)).1).Group,Letter:=((zh ((za a0 32).getD 0 default)).1).Letter,Colors:=((za a0 32).getD 1 default),Period:=((zh ((za a0 32).getD 0 default)).1).Period:Character },true))))
namespace N233
theorem DD:DOk Tryz.prog (Go.Ab.DD [(165,dP D_za),(199,dP D_zob),(203,dP D_zfb),(298,dP D_zh),(299,dP D_zfc)]):=ya yxh.e <| ya ybt.e <| ya ykz.e <| ya y05.e <| ya yw0.e <| ye _
theorem dn:type_of% (And.intro @D_za.eq_1 <| And.intro @D_zob.eq_1 <| And.intro @D_zfb.eq_1 <| And.intro @D_zh.eq_1 <| @D_zfc.eq_1):=by and_intros<;>intros<;>rfl
theorem gr {p:Prop} (h:p:=by(grind [y3,yec]);first|done|fail):p:=h
theorem o0 {p:Prop} (h:p:=by(first|(have hl9:2≤(za a0 32).length:=by(have q := ‹((((za a0 32).length:Int) != 2) && (((za a0 32).length:Int) != 3))=false›;simp at q;omega);have e0:=hel 0;have e1:=hel 1;have e2:=hel 2;and_intros<;>first|omega|(have hb3:=hb;simp at hb3;omega))|(refine⟨fun _=>⟨Nat.le_refl _,hcb _ _⟩,fun q => ?_⟩;have q2:=q;simp only[Bool.not_eq_true',Bool.or_eq_false_iff,Bool.not_eq_false']at q2;have r:=yvx _ (Nat.lt_of_le_of_lt (hel 1) (by omega)) q2.2;exact⟨Nat.le_refl _,hcb _ _,r.1,r.2.1,r.2.2.1,r.2.2.2.1,r.2.2.2.2.1,r.2.2.2.2.2⟩)|(have hl9:2≤(za a0 32).length:=by(have q := ‹((((za a0 32).length:Int) != 2) && (((za a0 32).length:Int) != 3))=false›;simp at q;omega);have e0:=hel 0;have e1:=hel 1;omega));first|done|fail):p:=h
set_option maxHeartbeats 1000000 in
set_option maxRecDepth 20000 in
theorem den (a0:(List UInt8)) (hb0:a0.length<1099511627776) (hp0:a0.length≤1048576):Den Tryz.prog 233 [.str a0] (.tup [.agg (ylb ((zyc a0).1)),.bool ((zyc a0).2)]):=by
 generalize hR:zyc a0=r
 unfold zyc at hR
 refine di Tryz.func233 Tryz.ntmps233 Tryz.results233 ?_
 intro c hL hc hk
 obtain⟨hL0,_⟩:=hL
 have hw0:a0.length<9223372036854775808:=Nat.lt_succ_of_le hL0
 clear hL0
 simp only[pars,Nat.zero_add]
 have hel:=y5r a0 hp0
 have hcb:=yc7 a0 hp0
 iterate 3 refine rS ?_
 refine AWP.cond rfl (fun hb => ?_) (fun hb => ?_)
 ·replace hR:=ct hR
  refine rS ?_
  refine AWP.ret ?_
  subst hR
  exact es
 ·replace hR:=cf hR
  iterate 3 refine rS ?_
  refine AWP.cond rfl (fun hb => ?_) (fun hb => ?_)
  ·replace hR:=ct hR
   iterate 4 refine rS ?_
   refine AWP.cond rfl (fun hb => ?_) (fun hb => ?_)
   ·replace hR:=ct hR
    refine rS ?_
    refine AWP.ret ?_
    subst hR
    exact es
   ·replace hR:=cf hR
    refine rS ?_
    refine AWP.ret ?_
    subst hR
    exact es
  ·replace hR:=cf hR
   refine rS ?_
   refine AWP.cond rfl (fun hb => ?_) (fun hb => ?_)
   ·replace hR:=ct hR
    refine rS ?_
    refine AWP.ret ?_
    subst hR
    exact es
   ·replace hR:=cf hR
    refine rS ?_
    refine AWP.ret ?_
    subst hR
    exact es
end N233
def D_zyc : DF
 | [x0]=>some (.tup [.agg (ylb ((zyc (rdS x0)).1)),.bool ((zyc (rdS x0)).2)],false,[wS x0,(rdS x0).length<1099511627776,(rdS x0).length≤1048576])
 | _=>none
theorem yu1:OkD Tryz.prog 233 D_zyc:=by unfold D_zyc;exact dk N233.den
end Go.Ab

namespace Go.Ab
open Go Go.Proofs
theorem yc8 (a:List UInt8):y6r a=parB:=rfl
theorem y04 (a:List UInt8):yow a=parB:=rfl
def lfl (a:List UInt8):Bool:=(decide (4<(a.length:Int)) && (((a.take a.length).drop ((IntKind.wrap .i64 ((a.length:Int)-4)).toNat)) == [43,76,70,108]))
theorem ycn (a:List UInt8):(decide (4<(a.length:Int)) && (((a.take a.length).drop ((IntKind.wrap .i64 ((a.length:Int)-4)).toNat)) == [43,76,70,108]))=lfl a:=rfl
theorem yt5 (X:List UInt8) (hX:X≠[]) (hl:X.length≤1048576):lfl (X++[43,76,70,108])=true∧(X++[43,76,70,108]).take ((IntKind.wrap .i64 (((X++[43,76,70,108]).length:Int)-4)).toNat)=X:=by
 have hp:0<X.length:=List.length_pos_iff.2 hX
 have hw:(IntKind.wrap .i64 (((X++[43,76,70,108]).length:Int)-4)).toNat=X.length:=by
  simp only[List.length_append,List.length_cons,List.length_nil];rw[IntKind.wrap_i64];omega
 unfold lfl
 rw[hw,List.take_length,List.drop_left' rfl,List.take_left' rfl]
 refine⟨?_,rfl⟩
 rw[decide_eq_true (by simp only[List.length_append,List.length_cons,List.length_nil];omega)]
 rfl
theorem yv3 (X:List UInt8) (hl:X.length≤1048576):lfl (X++[41])=false:=by
 unfold lfl
 by_cases h4:4<(((X++[41]).length:Int))
 ·rw[decide_eq_true h4,List.take_length,Bool.true_and,beq_eq_false_iff_ne]
  intro h
  have h2:(X++[41])=((X++[41]).take ((IntKind.wrap .i64 (((X++[41]).length:Int)-4)).toNat)++[43,76,70])++[108]:=by
   conv=>lhs;rw[← List.take_append_drop ((IntKind.wrap .i64 (((X++[41]).length:Int)-4)).toNat) (X++[41]),h]
   simp
  have:=congrArg List.getLast? h2
  rw[List.getLast?_append,List.getLast?_append]at this
  simp at this
 ·rw[decide_eq_false h4];rfl
theorem yy6 (k:Int) (h:1≤k∧k≤8):lfl (kt k)=false:=by
 rcases(show k=1∨k=2∨k=3∨k=4∨k=5∨k=6∨k=7∨k=8 by omega)with h|h|h|h|h|h|h|h<;>subst h<;>rfl
theorem yz3 (k:Int) (h:1≤k∧k≤8):(kt k).length≤3∧kt k≠[]:=by
 rcases(show k=1∨k=2∨k=3∨k=4∨k=5∨k=6∨k=7∨k=8 by omega)with h|h|h|h|h|h|h|h<;>subst h<;>exact⟨by decide,by decide⟩
theorem yep (g:List Int) (h1:g.length≤4) (h2:∀ v∈g,1≤v∧v≤9):(Lib.join (g.map Lib.itoa) [43]).length≤100:=by
 have:=yoh [43] (g.map Lib.itoa) 20 (fun x hx=>by
  obtain⟨z,hz,rfl⟩:=List.mem_map.1 hx
  have:=h2 z hz
  exact y7d z (by omega) (by omega))
 simp only[List.length_map,List.length_singleton]at this
 omega
theorem yrx (c:Character) (h:zbb c=true):(yvd c).length≤200:=by
 have hk:=yld c h
 obtain⟨g1,g2⟩:=ytd c h
 have:=(yz3 c.Kind hk).1
 have hj:=yep _ g1 g2
 unfold yvd
 by_cases h8:c.Kind=8
 ·rw[if_pos h8]
  have:=(yam c h h8).2.1
  have:(kt 8).length=2:=rfl
  simp only[List.length_append,List.length_cons,List.length_nil];omega
 ·rw[if_neg h8]
  have hg:(grpT c.Group).length≤102:=by
   unfold grpT
   split
   ·simp
   ·simp only[List.length_append,List.length_cons,List.length_nil];omega
  have hL:(if c.Letter=[]then([]:List UInt8)else[43,76,70,108]).length≤4:=by split<;>simp
  rw[List.length_append,List.length_append];omega
theorem yox (c:Character) (h:zbb c=true):zh (yvd c)=({ Kind:=c.Kind,Group:=c.Group,Letter:=c.Letter,Colors:=[],Period:=0:Character },true):=by
 have hk:=yld c h
 obtain⟨g1,g2⟩:=ytd c h
 have h40:=(yf6 c.Kind hk).1
 have hkl:=yz3 c.Kind hk
 have hjl:=yep _ g1 g2
 have hkp:decide (0<c.Kind)=true:=decide_eq_true (by omega)
 have hlen:=yrx c h
 unfold yvd at hlen ⊢
 by_cases h8:c.Kind=8
 ·obtain⟨f1,f2⟩:=yam c h h8
  rw[if_pos h8]at hlen ⊢
  rw[f1,h8]
  have eH:kt 8++40::(c.Letter++[41])=(kt 8++40::c.Letter)++[41]:=by simp
  have n1:lfl (kt 8++40::(c.Letter++[41]))=false:=by
   rw[eH];exact yv3 _ (by simp only[List.length_append,List.length_cons,List.length_nil]at hlen ⊢;omega)
  have hw:=yhh (kt 8) c.Letter (by decide) (by omega) 2 0 ((((kt 8++40::(c.Letter++[41])).length:Int)-0).toNat+1) rfl (by simp only[List.length_append,List.length_cons,List.length_nil];omega)
  have hks:∀ s:List UInt8×Int,yd (yij (kt 8++40::(c.Letter++[41])) (kt 8,s)) (((zm ).length)-1) 1 0=.ok 8:=fun s=>ybn 8 (by omega) _ (fun i t=>rfl)
  unfold zh
  rw[ycn,n1,y04]
  simp only[cond_false]
  rw[show((kt 8++40::(c.Letter++[41]),([]:List UInt8),(0:Int)))=(kt 8++40::(c.Letter++[41]),[],((0:Nat):Int))from rfl,hw]
  simp only[hks]
  rfl
 ·have e8:(c.Kind == 8)=false:=by rw[beq_eq_false_iff_ne];exact h8
  rw[if_neg h8]at hlen ⊢
  by_cases hL:c.Letter=[]
  ·rw[if_pos hL,List.append_nil]at hlen ⊢
   rw[hL]
   by_cases hg:c.Group=[]
   ·have eg:grpT c.Group=[]:=by rw[hg];rfl
    rw[eg,List.append_nil,hg]
    have hw:=yfu (kt c.Kind) h40 (by omega) (kt c.Kind).length 0 ((((kt c.Kind).length:Int)-0).toNat+1) (by omega) (by omega)
    have hks:∀ s:List UInt8×Int,yd (yij (kt c.Kind) (kt c.Kind,s)) (((zm ).length)-1) 1 0=.ok c.Kind:=fun s=>ybn c.Kind hk _ (fun i t=>rfl)
    unfold zh
    rw[ycn,yy6 _ hk,y04]
    simp only[cond_false]
    rw[show((kt c.Kind,([]:List UInt8),(0:Int)))=(kt c.Kind,[],((0:Nat):Int))from rfl,hw]
    simp only[hks,e8,cond_false]
    rw[hkp];rfl
   ·have eg:grpT c.Group=40::(Lib.join (c.Group.map Lib.itoa) [43]++[41]):=by unfold grpT;rw[if_neg hg]
    rw[eg]at hlen ⊢
    have hsp:za (Lib.join (c.Group.map Lib.itoa) [43]) 43=c.Group.map Lib.itoa:=by
     rw[show za (Lib.join (c.Group.map Lib.itoa) [43]) 43=yn 43 (Lib.join (c.Group.map Lib.itoa) [43])from yoj _ 43 (by omega)]
     exact ybe _ hg g2
    have hJ0:(Lib.join (c.Group.map Lib.itoa) [43] == [])=false:=by
     rw[beq_eq_false_iff_ne]
     intro h0
     have:=ybe _ hg g2
     rw[h0]at this
     cases hgg:c.Group with
     | nil=>exact hg hgg
     | cons x r=>
      rw[hgg]at this
      simp only[yn,List.map_cons,List.cons.injEq]at this
      exact(yal x).2 this.1.symm
    generalize hJ:Lib.join (c.Group.map Lib.itoa) [43]=J at *
    have eH:kt c.Kind++40::(J++[41])=(kt c.Kind++40::J)++[41]:=by simp
    have n1:lfl (kt c.Kind++40::(J++[41]))=false:=by
     rw[eH];exact yv3 _ (by simp only[List.length_append,List.length_cons,List.length_nil]at hlen ⊢;omega)
    have hw:=yhh (kt c.Kind) J h40 (by omega) (kt c.Kind).length 0 ((((kt c.Kind++40::(J++[41])).length:Int)-0).toNat+1) (by omega) (by simp only[List.length_append,List.length_cons,List.length_nil];omega)
    have hks:∀ s:List UInt8×Int,yd (yij (kt c.Kind++40::(J++[41])) (kt c.Kind,s)) (((zm ).length)-1) 1 0=.ok c.Kind:=fun s=>ybn c.Kind hk _ (fun i t=>rfl)
    have hgs:∀ (p:List UInt8) (q k:Int),yd (yil (kt c.Kind++40::(J++[41])) (p,J,q) k) ((c.Group.map Lib.itoa).length-0) 0 []=.ok c.Group:=fun p q k=>y16 c.Group g2 (fun i t=>({ Kind:=k,Group:=t,Letter:=[],Colors:=[],Period:=0:Character },false)) _ (fun i t=>by unfold yil;simp only;rw[hsp])
    unfold zh
    rw[ycn,n1,y04]
    simp only[cond_false]
    rw[show((kt c.Kind++40::(J++[41]),([]:List UInt8),(0:Int)))=(kt c.Kind++40::(J++[41]),[],((0:Nat):Int))from rfl,hw]
    simp only[hks,e8,cond_false,hJ0,hsp,hgs,hkp]
  ·obtain⟨l1,l2⟩:=ytx c h h8 hL
   rw[if_neg hL]at hlen ⊢
   have hg:c.Group≠[]:=by rw[l2];simp
   have eg:grpT c.Group=40::(Lib.join (c.Group.map Lib.itoa) [43]++[41]):=by unfold grpT;rw[if_neg hg]
   rw[eg]at hlen ⊢
   have hsp:za (Lib.join (c.Group.map Lib.itoa) [43]) 43=c.Group.map Lib.itoa:=by
    rw[show za (Lib.join (c.Group.map Lib.itoa) [43]) 43=yn 43 (Lib.join (c.Group.map Lib.itoa) [43])from yoj _ 43 (by omega)]
    exact ybe _ hg g2
   have hJ0:(Lib.join (c.Group.map Lib.itoa) [43] == [])=false:=by
    rw[beq_eq_false_iff_ne]
    intro h0
    have:=ybe _ hg g2
    rw[h0,l2]at this
    simp only[yn,List.map_cons,List.cons.injEq]at this
    exact(yal 6).2 this.1.symm
   generalize hJ:Lib.join (c.Group.map Lib.itoa) [43]=J at *
   have eH:kt c.Kind++(40::(J++[41])++[43,76,70,108])=(kt c.Kind++40::(J++[41]))++[43,76,70,108]:=by simp
   rw[eH]at hlen ⊢
   rw[l1]
   have hl2:(kt c.Kind++40::(J++[41])).length≤1048576:=by rw[List.length_append]at hlen;omega
   obtain⟨y1,y2⟩:=yt5 (kt c.Kind++40::(J++[41])) (by simp) hl2
   have hw:=yhh (kt c.Kind) J h40 hl2 (kt c.Kind).length 0 (((((kt c.Kind++40::(J++[41]))++[43,76,70,108]).length:Int)-0).toNat+1) (by omega) (by simp only[List.length_append,List.length_cons,List.length_nil];omega)
   have hks:∀ s:List UInt8×Int,yd (yan ((kt c.Kind++40::(J++[41]))++[43,76,70,108]) (kt c.Kind,s)) (((zm ).length)-1) 1 0=.ok c.Kind:=fun s=>ybn c.Kind hk _ (fun i t=>rfl)
   have hgs:∀ (p:List UInt8) (q k:Int),yd (ycl ((kt c.Kind++40::(J++[41]))++[43,76,70,108]) (p,J,q) k) ((c.Group.map Lib.itoa).length-0) 0 []=.ok c.Group:=fun p q k=>y16 c.Group g2 (fun i t=>({ Kind:=k,Group:=t,Letter:=[76],Colors:=[],Period:=0:Character },false)) _ (fun i t=>by unfold ycl;simp only;rw[hsp])
   unfold zh
   rw[ycn,y1,y2,yc8]
   simp only[cond_true]
   rw[show((kt c.Kind++40::(J++[41]),([]:List UInt8),(0:Int)))=(kt c.Kind++40::(J++[41]),[],((0:Nat):Int))from rfl,hw]
   simp only[hks,e8,cond_false,hJ0,hsp,hgs,hkp]
end Go.Ab

namespace Go.Ab
open Go Go.Proofs
theorem y91 {n m:Int} (h1:0<n) (h2:n≤600) (h3:0<m) (h4:m≤600) (h:secT n=secT m):n=m:=by
 have e1:=y3m n h1 h2
 rw[h,y3m m h3 h4]at e1
 exact(congrArg Prod.fst e1).symm
theorem ypu (p : Int) (h1 : 0 < p) (h2 : p ≤ 600) : ∀ (k n : Nat) (i : Int), 1 ≤ i → i + k = p → k < n → y7 (yqk (secT p ++ [115])) n i = .error (.inl (p, true))
 | k,0,i,_,_,h=>by omega
 | 0,n+1,i,hi,he,_=>by
  have e:i=p:=by omega
  subst e
  simp only[y7,yqk]
  rw[decide_eq_true h2,yrm _ (by omega) h2]
  simp
 | k+1,n+1,i,hi,he,hn=>by
  have hne:(zwb i == secT p++[115])=false:=by
   rw[beq_eq_false_iff_ne,yrm _ (by omega) (by omega)]
   intro h
   have:=y91 (by omega) (by omega) h1 h2 (List.append_cancel_right h)
   omega
  have hw:IntKind.wrap .i64 (i+1)=i+1:=by rw[IntKind.wrap_i64];omega
  have:=ypu p h1 h2 k n (i+1) (by omega) (by omega) (by omega)
  simp only[y7,yqk]
  rw[decide_eq_true (show i≤600 by omega),hne,hw]
  simp only[cond_true,cond_false]
  exact this
theorem yar (p:Int) (h1:0<p) (h2:p≤600):zfc (secT p++[115])=(p,true):=by
 unfold zfc
 rw[ypu p h1 h2 (p-1).toNat _ 1 (by omega) (by omega) (by omega)]
theorem ya5 (p:Int) (h1:0<p) (h2:p≤600):(32:UInt8)∉secT p++[115]:=by
 intro hm
 rcases List.mem_append.1 hm with hm|hm
 ·unfold secT at hm
  split at hm
  ·exact yne (by omega) 32 (by decide) hm
  ·rcases List.mem_append.1 hm with hm|hm
   ·exact yne (by omega) 32 (by decide) hm
   ·rcases List.mem_cons.1 hm with hm|hm
    ·exact absurd hm (by decide)
    ·exact yne (by omega) 32 (by decide) hm
 ·rw[List.mem_singleton]at hm;exact absurd hm (by decide)
theorem yry (c:Character) (h:zw c=true) (hl:c.Colors.length<9223372036854775808) (ha:(chrT c).length≤1048576):zyc (chrT c)=(c,true):=by
 have hf:=y6b c h
 have hr:=yox c hf
 have hp:=yfd c h
 have hp2:=(y0c c h).2.2
 have hcol:=yxq _ (yui c h hl)
 have hok:zob c=true:=by rw[← ypf c hl];exact h
 have htext:=yck c h
 have hsp:za (chrT c) 32=yn 32 (chrT c):=yoj _ 32 (by omega)
 unfold zyc
 by_cases h0:c.Period=0
 ·have e1:za (chrT c) 32=[yvd c,c.Colors]:=by
   rw[hsp];unfold chrT
   rw[h0,show perT 0=[]from rfl,List.append_nil,yrb 32 _ _ (y8r c hf),yqb 32 _ hcol]
  rw[e1]
  have ec:({ Kind:=c.Kind,Group:=c.Group,Letter:=c.Letter,Colors:=c.Colors,Period:=0:Character })=c:=by rw[← h0]
  have n2:((([yvd c,c.Colors]:List (List UInt8)).length:Int) != 2)=false:=rfl
  have n3:((([yvd c,c.Colors]:List (List UInt8)).length:Int) == 3)=false:=rfl
  rw[n2,n3]
  simp only[Bool.false_and,cond_false,List.getD_cons_zero,List.getD_cons_succ]
  rw[hr]
  simp only[ec,hok,htext]
  simp
 ·have e2:perT c.Period=32::(secT c.Period++[115]):=by unfold perT;rw[if_neg h0]
  have e1:za (chrT c) 32=[yvd c,c.Colors,secT c.Period++[115]]:=by
   rw[hsp];unfold chrT
   rw[e2,yrb 32 _ _ (y8r c hf),yrb 32 _ _ hcol,yqb 32 _ (ya5 _ (by omega) hp2)]
  rw[e1]
  have n2:((([yvd c,c.Colors,secT c.Period++[115]]:List (List UInt8)).length:Int) != 3)=false:=rfl
  have n3:((([yvd c,c.Colors,secT c.Period++[115]]:List (List UInt8)).length:Int) == 3)=true:=rfl
  rw[n2,n3]
  simp only[Bool.and_false,cond_false,cond_true,List.getD_cons_zero,List.getD_cons_succ]
  rw[hr,yar _ (by omega) hp2]
  have ec:({ Kind:=c.Kind,Group:=c.Group,Letter:=c.Letter,Colors:=c.Colors,Period:=c.Period:Character })=c:=rfl
  simp only[ec,hok,htext]
  simp
theorem yzg (a:List UInt8):zyc a=({ Kind:=0,Group:=[],Letter:=[],Colors:=[],Period:=0:Character },false)∨∃ c,zob c=true∧zfb c=a∧(∃ i,c.Colors=(za a 32).getD i default)∧zyc a=(c,true):=by
 unfold zyc
 generalize za a 32=w
 cases hA:(((w.length:Int) != 2) && ((w.length:Int) != 3))with
 | true=>left;rfl
 | false=>
  simp only[cond_false]
  cases((w.length:Int) == 3)with
  | true=>
   simp only[cond_true]
   generalize hc:({ Kind:=((zh (w.getD 0 default)).1).Kind,Group:=((zh (w.getD 0 default)).1).Group,Letter:=((zh (w.getD 0 default)).1).Letter,Colors:=(w.getD 1 default),Period:=(zfc (w.getD 2 default)).1:Character })=c
   cases hv:zob c with
   | false=>left;simp
   | true=>
    by_cases ht:zfb c=a
    ·cases hq:((zh (w.getD 0 default)).2 && (zfc (w.getD 2 default)).2)with
     | true=>right;exact⟨c,hv,ht,⟨1,by rw[← hc]⟩,by simp[ht]⟩
     | false=>left;simp
    ·left
     have:(zfb c != a)=true:=by simpa using ht
     rw[this];simp
  | false=>
   simp only[cond_false]
   generalize hc:({ Kind:=((zh (w.getD 0 default)).1).Kind,Group:=((zh (w.getD 0 default)).1).Group,Letter:=((zh (w.getD 0 default)).1).Letter,Colors:=(w.getD 1 default),Period:=((zh (w.getD 0 default)).1).Period:Character })=c
   cases hv:zob c with
   | false=>left;simp
   | true=>
    by_cases ht:zfb c=a
    ·cases hq:(zh (w.getD 0 default)).2 with
     | true=>right;exact⟨c,hv,ht,⟨1,by rw[← hc]⟩,by simp[ht]⟩
     | false=>left;simp
    ·left
     have:(zfb c != a)=true:=by simpa using ht
     rw[this];simp
theorem yns (a:List UInt8) (ha:a.length≤1048576):zsc a=zyc a:=by
 rcases y3g a with h|⟨c,hv,ht,hr⟩
 ·rcases yzg a with g|⟨c,hv,ht,⟨i,hci⟩,hr⟩
  ·rw[h,g]
  ·have hl:c.Colors.length<9223372036854775808:=by
    rw[hci,yoj a 32 (by omega) |> (fun e=>(e:za a 32=yn 32 a))]
    rw[List.getD_eq_getElem?_getD]
    cases hg:(yn 32 a)[i]? with
    | none=>show(0:Nat)<_;omega
    | some x=>have:=(y5 32 a).2 x (List.mem_of_getElem? hg);simp only[Option.getD_some];omega
   rw[← ypf c hl]at hv
   have hT:=yck c hv
   rw[hT]at ht
   rw[hr, ← ht,ygy c hv hl]
 ·have hT:=y2j c hv
  rw[hT]at ht
  have hl:c.Colors.length<9223372036854775808:=by
   have:c.Colors.length≤(chrT c).length:=by unfold chrT;simp only[List.length_append,List.length_cons];omega
   rw[ht]at this;omega
  rw[hr, ← ht,yry c hv hl (by rw[ht];exact ha)]
end Go.Ab



namespace Go.Ab
open Go Go.Proofs
def y3r (a0:(List Int)) (a1:Int) (i1:Nat) (s1:Int×List Int):Except (Int×(List Int)) (Int×List Int):=
 .ok (IntKind.wrap .i64 (s1.1+1),s1.2.set i1 s1.1)
def zn (a0:(List Int)) (a1:Int):Int×(List Int):=
 (match yd (y3r a0 a1) (a0.length-0) 0 (a1,a0)with|.error e=>e|.ok s1=>(s1.1,s1.2))
namespace N121
theorem DD:DOk Tryz.prog (Go.Ab.DD []):=ye _
theorem den (a0:(List Int)) (a1:Int)  : DenM Tryz.prog 121 [ownL 2 1 yt a0,.int .i64 a1] (.int .i64 ((zn a0 a1).1)) [(ownL 2 1 yt ((zn a0 a1).2)),.any]:=by
 generalize hR:zn a0 a1=r
 unfold zn at hR
 refine dj (gb:=[true,false]) Tryz.func121 Tryz.ntmps121 Tryz.results121 ?_
 intro c hL hc hk
 obtain⟨hL0,hL1,_⟩:=hL
 have hw0:a0.length<9223372036854775808:=Nat.lt_succ_of_le (yac hL0).1
 clear hL0 hL1
 simp only[adEL,adE,adRL,adR,ownL,encL,sv,List.nil_append,List.append_nil,List.cons_append,List.length_cons,List.length_nil,pars,Nat.zero_add,Nat.reduceAdd]at hk ⊢
 iterate 2 refine rS ?_
 refine AWP.block ?_
 generalize hz1:yd (y3r a0 a1) (a0.length-0) 0 (a1,a0)=z1 at hR
 refine AWP.range (y3r a0 a1) (fun i1 s1=>⟨[(0,.ref 0 1 0 s1.2.length),(1,.int .i64 s1.1),(5,.int .i64 (i1:Int))],[.arr 2 1 s1.2.length (fun j=>yt (s1.2.getD j default))]⟩) (fun i1 s1=>s1.2.length=a0.length) (a0.length) 0 (a1,a0) [0] hz1 ot wt sm ?_
 clear hz1
 intro i1 s1 hi1 hW1 hz1
 refine rS ?_
 refine AWP.cond rfl (fun hb => ?_) (fun hb => ?_)
 ·have hlt1:i1<a0.length:=ot
  rw[yh hlt1]at hz1;simp only[y3r]at hz1
  iterate 3 refine rS ?_
  exact⟨_,[0],hlt1,wt,hz1,sm⟩
 ·obtain rfl:i1=a0.length:=ot
  rw[yg (Nat.le_refl _)]at hz1;subst hz1;dsimp only at hR
  refine AWP.exit ?_;refine yb ?_
  refine rS ?_
  refine AWP.ret ?_
  subst hR
  exact es
end N121
def D_zn : List AV → Option (AV × List AV × List Prop)
 | [x0,x1]=>some (.int .i64 ((zn (rdL y0b x0) (rdI x1)).1),[(ownL 2 1 yt ((zn (rdL y0b x0) (rdI x1)).2)),.any],[wO 2 1 yt y0b x0,wI .i64 x1])
 | _=>none
theorem yx4:OkM Tryz.prog 121 D_zn:=by unfold D_zn;exact dm N121.den
end Go.Ab

namespace Go.Ab
open Go Go.Proofs
def ypk (a0:(List Int)) (a1:Int) (i1:Nat) (s1:Int):Except (Int) (Int):=
 (bif ((a0.getD i1 default) != s1)then .error (-1)else .ok (IntKind.wrap .i64 (s1+1)))
def zpb (a0:(List Int)) (a1:Int):Int:=
 (match yd (ypk a0 a1) (a0.length-0) 0 a1 with|.error e=>e|.ok s1=>s1)
namespace N161
theorem DD:DOk Tryz.prog (Go.Ab.DD []):=ye _
theorem den (a0:(List Int)) (a1:Int)  : Den Tryz.prog 161 [encL 1 yt a0,.int .i64 a1] (.int .i64 (zpb a0 a1)):=by
 generalize hR:zpb a0 a1=r
 unfold zpb at hR
 refine di Tryz.func161 Tryz.ntmps161 Tryz.results161 ?_
 intro c hL hc hk
 obtain⟨hL0,hL1,_⟩:=hL
 have hw0:a0.length<9223372036854775808:=Nat.lt_succ_of_le (yf hL0).1
 clear hL0 hL1
 simp only[pars,Nat.zero_add]
 iterate 2 refine rS ?_
 refine AWP.block ?_
 generalize hz1:yd (ypk a0 a1) (a0.length-0) 0 a1=z1 at hR
 refine AWP.range (ypk a0 a1) (fun i1 s1=>⟨[(0,encL 1 yt a0),(1,.int .i64 s1),(5,.int .i64 (i1:Int))],[]⟩) (fun i1 s1=>True) (a0.length) 0 a1 [] hz1 ot wt sm ?_
 clear hz1
 intro i1 s1 hi1 hW1 hz1
 refine rS ?_
 refine AWP.cond rfl (fun hb => ?_) (fun hb => ?_)
 ·have hlt1:i1<a0.length:=ot
  rw[yh hlt1]at hz1;simp only[ypk]at hz1
  refine rS ?_
  refine AWP.cond rfl (fun hb => ?_) (fun hb => ?_)
  ·simp only[hb,cond_true]at hz1
   refine rS ?_
   refine AWP.ret ?_
   subst hz1
   dsimp only at hR
   subst hR
   exact es
  ·simp only[hb,cond_false]at hz1
   iterate 2 refine rS ?_
   exact⟨_,[],hlt1,wt,hz1,sm⟩
 ·obtain rfl:i1=a0.length:=ot
  rw[yg (Nat.le_refl _)]at hz1;subst hz1;dsimp only at hR
  refine AWP.exit ?_;refine yb ?_
  refine rS ?_
  refine AWP.ret ?_
  subst hR
  exact es
end N161
def D_zpb : DF
 | [x0,x1]=>some (.int .i64 (zpb (rdL y0b x0) (rdI x1)),false,[wL 1 yt y0b x0,wI .i64 x1])
 | _=>none
theorem y70:OkD Tryz.prog 161 D_zpb:=by unfold D_zpb;exact dk N161.den
end Go.Ab

namespace Go.Ab
open Go Go.Proofs
def yif (v:Int):Int:=v
theorem yhj (a:List Int) (k:Int):(zn a k).2.length=a.length:=by
 unfold zn
 obtain⟨t,h1,h2⟩:=yu (b:=y3r a k) (fun _ s=>s.2.length=a.length) (k:=a.length-0) (i:=0) (s:=(k,a)) rfl (by
  intro j u _ _ h
  exact⟨_,rfl,by simpa using h⟩)
 rw[h1]
 exact h2
theorem yru (a:List Int) (k:Int):subL (zn a k).2 0 a.length=(zn a k).2:=by
 rw[← yhj a k];exact yyf _
theorem yr6 (a:List Int) (k:Int) (h0:0≤k) (h1:k+1 * a.length<4611686018427387904):zn a k=(k+1 * a.length,(List.range a.length).map (fun j:Nat=>yif (k+1 * j))):=by
 unfold zn
 obtain⟨t,q1,q2,q3,q4⟩:=yu (b:=y3r a k) (fun i s=>s.1=k+1 * i∧s.2.length=a.length∧∀ j,j<i→s.2.getD j default=yif (k+1 * j)) (k:=a.length-0) (i:=0) (s:=(k,a)) ⟨by simp,rfl,by intro j hj;omega⟩ (by
  intro j u _ hj ⟨h2,h3,h4⟩
  have w1:∀ m:Int,0≤m→m<4611686018427387904→IntKind.wrap .i64 (m+1)=m+1:=by intro m _ _;rw[IntKind.wrap_i64];omega
  have w0:∀ m:Int,0≤m→m<4611686018427387904→IntKind.wrap .i64 m=m:=by intro m _ _;rw[IntKind.wrap_i64];omega
  refine⟨_,rfl,?_,?_,?_⟩
  ·simp only[h2,IntKind.wrap_i64];omega
  ·simpa using h3
  ·intro q hq
   simp only
   rw[yzd]
   by_cases h:q=j
   ·subst h
    rw[if_pos ⟨rfl,by omega⟩,h2]
    simp only[yif]
    all_goals (try rw[Int.mk.injEq])
    all_goals (and_intros<;>first|rfl|trivial|(simp only[IntKind.wrap_i64];omega)|(congr 1;(simp only[IntKind.wrap_i64];omega)))
   ·rw[if_neg (fun hh=>h hh.1)]
    exact h4 q (by omega))
 rw[q1]
 simp only[Nat.zero_add,Nat.sub_zero]at q2 q4
 simp only[q2]
 congr 1
 apply ydj
 ·simpa using q3
 ·intro i hi
  rw[q4 i (by omega)]
  simp[List.getD_eq_getElem?_getD]
  rw[List.getElem?_range (by omega)]
  rfl
theorem zn_k (a:List Int) (k:Int) (h0:0≤k) (h1:k≤1152921504606846976) (hl:a.length<1099511627776):(zn a k).1=k+1 * a.length:=by
 rw[yr6 a k h0 (by omega)]
theorem yk0 (a:List Int) (k:Int) (h0:0≤k) (hk:k≤1152921504606846976) (h1:a.length<1099511627776):zpb (zn a k).2 k=(zn a k).1∧¬ (zn a k).1<0:=by
 rw[yr6 a k h0 (by omega)]
 refine⟨?_,by simp only;omega⟩
 simp only
 unfold zpb
 obtain⟨t,q1,q2⟩:=yu (b:=ypk ((List.range a.length).map (fun j:Nat=>yif (k+1 * j))) k) (fun i s=>s=k+1 * (i:Int)) (k:=((List.range a.length).map (fun j:Nat=>yif (k+1 * j))).length-0) (i:=0) (s:=k) (by simp) (by
  intro j u _ hj h2
  have hj2:j<a.length:=by simpa using hj
  have hg:((List.range a.length).map (fun j:Nat=>yif (k+1 * j))).getD j default=yif (k+1 * j):=by
   simp[List.getD_eq_getElem?_getD,hj2]
  subst h2
  refine⟨k+1 * ((j+1:Nat):Int),?_,rfl⟩
  have e1:∀ m:Int,0≤m→m<4611686018427387904→(m+9223372036854775808) % 18446744073709551616-9223372036854775808=m:=by intro m _ _;omega
  simp only[ypk]
  simp only[hg]
  simp only[yif,IntKind.wrap_i64]
  (repeat rw[e1 _ (by omega) (by omega)])
  simp only[Int.add_assoc,Int.reduceAdd,bne_self_eq_false,cond_false,Except.ok.injEq]
  omega)
 rw[q1]
 simp only[q2]
 simp
end Go.Ab
