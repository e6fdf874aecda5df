/- A part of a proof: walks of functions and lemmas of our own. No conditions. -/
import Derived.Test.YtopoomikfjodkaaGreatDoorRAl
import Derived.Test.YtopoomikfjodkaaGreatDoorRBj
import Derived.Test.YtopoomikfjodkaaGreatDoorRBk
import Derived.Test.YtopoomikfjodkaaGreatDoorRAv
import Derived.Test.YtopoomikfjodkaaGreatDoorRBl
import Derived.Test.YtopoomikfjodkaaGreatDoorRAq
import Derived.Test.YtopoomikfjodkaaGreatDoorRBd
import Derived.Test.YtopoomikfjodkaaGreatDoorRBm
import Derived.Test.YtopoomikfjodkaaGreatDoorRBe
import Derived.Test.YtopoomikfjodkaaGreatDoorRAw
import Derived.Test.YtopoomikfjodkaaGreatDoorRBc
import Derived.Test.YtopoomikfjodkaaGreatDoorRAx
import Derived.Test.YtopoomikfjodkaaGreatDoorRBi
import Derived.Test.YtopoomikfjodkaaGreatDoorRBn
set_option linter.unusedSectionVars false
set_option linter.unusedVariables false
set_option linter.unusedSimpArgs false
set_option maxHeartbeats 1000000
namespace Go.Ab
open Go Go.Proofs
def zsc (a0:Aid):(List UInt8):=
 (bif (!(zcg a0))then[]else(bif (ztf a0)then(zpb [(zl a0.Number),a0.Name,(zah a0.At),(zl a0.Height),(zjc a0.Mark),(zad a0.Light),(zxd a0.Sectors),(zl a0.Intensity)] [47])else(zpb [(zl a0.Number),a0.Name,(zah a0.At),(zl a0.Height),(zjc a0.Mark),[45],(zxd a0.Sectors),(zl a0.Intensity)] [47])))
namespace N32
theorem DD:DOk Tryz.prog (Go.Ab.DD [(104,dP D_zcg),(105,dP D_ztf),(106,dP D_zad),(107,dP D_zl),(108,dP D_zah),(109,dP D_zxd),(16,dP D_zjc),(83,dP D_zpb)]):=ya yvy.e <| ya yby.e <| ya ynp.e <| ya yxe.e <| ya y67.e <| ya ymw.e <| ya yjl.e <| ya yah.e <| yc _
theorem dn:type_of% (And.intro @D_zcg.eq_1 <| And.intro @D_ztf.eq_1 <| And.intro @D_zad.eq_1 <| And.intro @D_zl.eq_1 <| And.intro @D_zah.eq_1 <| And.intro @D_zxd.eq_1 <| And.intro @D_zjc.eq_1 <| @D_zpb.eq_1):=by and_intros<;>intros<;>rfl
theorem gr {p:Prop} (h:p:=by(grind [ycc]);first|done|fail):p:=h
theorem o0 {p:Prop} (h:p:=by(first|(have h9:=ydx hb0 (by assumption);have hr:=yfg h9;obtain⟨⟨e1,l1⟩,⟨e2,l2⟩,⟨e3,l3⟩,⟨e4,l4⟩,hch,⟨e6,l6⟩,⟨e7,l7⟩,l8⟩:=yrab h9 (Nat.lt_of_lt_of_le hb0.2.2.1.2.2 (by decide));obtain⟨e5,l5⟩:=hch (by rw[← hlt h9];assumption);rw[← e5]at l5;rw[← e1]at l1;rw[← e2]at l2;rw[← e3]at l3;rw[← e4]at l4;rw[← e6]at l6;rw[← e7]at l7;(repeat' with_reducible apply And.intro)<;>(first|omega|exact hb0.2.1|exact hb0.2.2.2.1|exact hb0.2.2.2.2|exact hb0.2.2.1|exact hr.2.2.2.1|exact hr.2.2.2.2.2.2.2.2.1|(refine Nat.le_trans (ynf _ _) ?_;simp only[jl,List.length_cons,List.length_nil];omega)))|(have h9:=ydx hb0 (by assumption);have hr:=yfg h9;obtain⟨⟨e1,l1⟩,⟨e2,l2⟩,⟨e3,l3⟩,⟨e4,l4⟩,hch,⟨e6,l6⟩,⟨e7,l7⟩,l8⟩:=yrab h9 (Nat.lt_of_lt_of_le hb0.2.2.1.2.2 (by decide));skip;rw[← e1]at l1;rw[← e2]at l2;rw[← e3]at l3;rw[← e4]at l4;rw[← e6]at l6;rw[← e7]at l7;(repeat' with_reducible apply And.intro)<;>(first|omega|exact hb0.2.1|exact hb0.2.2.2.1|exact hb0.2.2.2.2|exact hb0.2.2.1|exact hr.2.2.2.1|exact hr.2.2.2.2.2.2.2.2.1|(refine Nat.le_trans (ynf _ _) ?_;simp only[jl,List.length_cons,List.length_nil];omega))));first|done|fail):p:=h
theorem lx {p:Prop} (h:p:=by(exact lxx);first|done|fail):p:=h
set_option maxHeartbeats 4000000 in
set_option maxRecDepth 20000 in
theorem den (a0:Aid) (hb0:bdAid a0):Den Tryz.prog 32 [.agg (eAid a0)] (.str (zsc a0)):=by
 generalize hR:zsc a0=r
 unfold zsc at hR
 refine di Tryz.func32 Tryz.ntmps32 Tryz.results32 ?_
 intro c hL hc hk
 obtain⟨hL0,_⟩:=hL
 have hw0:bwAid a0:=yxb a0 hL0
 clear hL0
 simp only[pars,Nat.zero_add]
 have hlt:=fun h=>yn9 (a:=a0) h (Nat.lt_of_lt_of_le hb0.2.2.1.2.2 (by decide))
 iterate 2 refine rS ?_
 refine AWP.cond rfl (fun hb => ?_) (fun hb => ?_)
 ·replace hR:=ct hR
  refine rS ?_
  refine AWP.ret ?_
  subst hR
  exact es
 ·replace hR:=cf hR
  iterate 2 refine rS ?_
  refine AWP.cond rfl (fun hb => ?_) (fun hb => ?_)
  ·replace hR:=ct hR
   refine rS ?_
   refine rD 21 ?_
   refine AWP.ret ?_
   subst hR
   exact es
  ·replace hR:=cf hR
   refine rD 21 ?_
   refine AWP.ret ?_
   subst hR
   exact es
end N32
def D_zsc : DF
 | [x0]=>some (.str (zsc (rdG dAid x0)),false,[wG eAid dAid x0,bdAid (rdG dAid x0)])
 | _=>none
theorem y3x:OkD Tryz.prog 32 D_zsc:=by unfold D_zsc;exact dk N32.den
end Go.Ab

namespace Go.Ab
open Go Go.Proofs
def zni (a0:Aid):(List UInt8):=
 (bif (zei a0)then((((((((((((((zk a0.Number)++[47])++a0.Name)++[47])++(zji a0.At))++[47])++(zk a0.Height))++[47])++(zii a0.Mark))++[47])++(zub a0.Light))++[47])++(zlh a0.Sectors))++[47])++(zk a0.Intensity)else((((((((((((((zk a0.Number)++[47])++a0.Name)++[47])++(zji a0.At))++[47])++(zk a0.Height))++[47])++(zii a0.Mark))++[47])++[45])++[47])++(zlh a0.Sectors))++[47])++(zk a0.Intensity))
end Go.Ab

namespace Go.Ab
open Go Go.Proofs
theorem yhdb (a b c d e f g h:List UInt8) (s:List UInt8):Lib.join [a,b,c,d,e,f,g,h] s=a++(s++(b++(s++(c++(s++(d++(s++(e++(s++(f++(s++(g++(s++h))))))))))))):=by
 simp[Lib.join_cons,Lib.joinTail]
theorem yhp {a:Aid} (h:zcc a=true) (hl:a.Light.Colors.length<9223372036854775808):zsc a=zni a∧(zni a).length≤300:=by
 have hr:=yfg h
 have hs:=(yyh hr.2.2.2.2.2.2.2.2.1).1
 obtain⟨⟨e1,l1⟩,⟨e2,l2⟩,⟨e3,l3⟩,⟨e4,l4⟩,hch,⟨e6,l6⟩,⟨e7,l7⟩,l8⟩:=yrab h hl
 have e:∀ a b c d e f g h:List UInt8,zpb [a,b,c,d,e,f,g,h] [47]=a++([47]++(b++([47]++(c++([47]++(d++([47]++(e++([47]++(f++([47]++(g++([47]++h))))))))))))):=fun a b c d e f g h=>yhdb a b c d e f g h [47]
 unfold zsc zni
 rw[y3d a hl (by omega),h,yn9 h hl]
 simp only[Bool.not_true,cond_false]
 cases ht:zei a with
 | true=>
  obtain⟨e5,l5⟩:=hch ht
  simp only[cond_true]
  rw[e,e1,e2,e3,e4,e5,e6,e7]
  refine⟨by simp only[List.append_assoc],?_⟩
  simp only[List.length_append,List.length_cons,List.length_nil]
  omega
 | false=>
  simp only[cond_false]
  rw[e,e1,e2,e3,e4,e6,e7]
  refine⟨by simp only[List.append_assoc],?_⟩
  simp only[List.length_append,List.length_cons,List.length_nil]
  omega
theorem y1u (a:Aid) (hb:bdAid a):(zsc a).length≤300:=by
 have hl:a.Light.Colors.length<9223372036854775808:=Nat.lt_of_lt_of_le hb.2.2.1.2.2 (by decide)
 have hs:a.Sectors.length<9223372036854775807:=Nat.lt_of_lt_of_le hb.2.2.2.1 (by decide)
 cases h:zcc a with
 | true=>rw[(yhp h hl).1];exact(yhp h hl).2
 | false=>
  unfold zsc
  rw[y3d a hl hs,h]
  simp
end Go.Ab

namespace Go.Ab
open Go Go.Proofs
def parB (s:List UInt8×List UInt8×Int):Except (Sum (Character×Bool) (List UInt8×List UInt8×Int)) (List UInt8×List UInt8×Int):=
 (bif decide (s.2.2<(s.1.length:Int))then(bif ((((s.1.getD ((s.2.2).toNat) 0).toNat:Int) == 40) && (((s.1.getD ((IntKind.wrap .i64 ((s.1.length:Int)-1)).toNat) 0).toNat:Int) == 41))then .error (.inr (s.1.take ((s.2.2).toNat),(s.1.take ((IntKind.wrap .i64 ((s.1.length:Int)-1)).toNat)).drop ((IntKind.wrap .i64 (s.2.2+1)).toNat),s.2.2))else .ok (s.1,s.2.1,IntKind.wrap .i64 (s.2.2+1)))else .error (.inr (s.1,s.2.1,s.2.2)))
theorem yci (p X:List UInt8) (h40:(40:UInt8)∉p) (hl:(p++40::(X++[41])).length≤1048576):∀ (k i n:Nat),i+k=p.length→k<n →
  y3 parB n (p++40::(X++[41]),[],(i:Int))=.error (.inr (p,X,(p.length:Int)))
 | k,i,0,_,h=>by omega
 | 0,i,n+1,h,_=>by
  have hi:i=p.length:=by omega
  subst hi
  simp only[List.length_append,List.length_cons,List.length_nil]at hl
  have d1:decide (((p.length:Nat):Int)<((p++40::(X++[41])).length:Int))=true:=decide_eq_true (by simp only[List.length_append,List.length_cons,List.length_nil];omega)
  have w1:IntKind.wrap .i64 (((p++40::(X++[41])).length:Int)-1)=((p.length+1+X.length:Nat):Int):=by
   simp only[List.length_append,List.length_cons,List.length_nil];rw[IntKind.wrap_i64];omega
  have w2:IntKind.wrap .i64 ((p.length:Int)+1)=((p.length+1:Nat):Int):=by rw[IntKind.wrap_i64];omega
  have g1:(p++40::(X++[41])).getD p.length 0=40:=by
   rw[List.getD_eq_getElem?_getD,List.getElem?_append_right (Nat.le_refl _)];simp
  have g2:(p++40::(X++[41])).getD (p.length+1+X.length) 0=41:=by
   rw[List.getD_eq_getElem?_getD,List.getElem?_append_right (by omega),show p.length+1+X.length-p.length=X.length+1 by omega,List.getElem?_cons_succ,List.getElem?_append_right (Nat.le_refl _)];simp
  simp only[y3,parB]
  rw[d1,w1,w2,Int.toNat_natCast,Int.toNat_natCast,Int.toNat_natCast,g1,g2]
  have t1:(p++40::(X++[41])).take p.length=p:=List.take_left' rfl
  have t2:((p++40::(X++[41])).take (p.length+1+X.length)).drop (p.length+1)=X:=by
   have:p++40::(X++[41])=(p++[40])++(X++[41]):=by simp
   rw[this,List.take_append,List.drop_append]
   simp
  rw[t1,t2]
  rfl
 | k+1,i,n+1,h,hn=>by
  simp only[List.length_append,List.length_cons,List.length_nil]at hl
  have d1:decide ((i:Int)<((p++40::(X++[41])).length:Int))=true:=decide_eq_true (by simp only[List.length_append,List.length_cons,List.length_nil];omega)
  have w2:IntKind.wrap .i64 ((i:Int)+1)=((i+1:Nat):Int):=by rw[IntKind.wrap_i64];omega
  have hi:i<p.length:=by omega
  have g1:(((((p++40::(X++[41])).getD i 0).toNat:Int)) == 40)=false:=by
   rw[List.getD_eq_getElem?_getD,List.getElem?_append_left hi,List.getElem?_eq_getElem hi,Option.getD_some,beq_eq_false_iff_ne]
   intro he
   have:p[i]=40:=UInt8.toNat_inj.1 (by show _=40;omega)
   exact h40 (this ▸ List.getElem_mem hi)
  have:=yci p X h40 (by simp only[List.length_append,List.length_cons,List.length_nil];exact hl) k (i+1) n (by omega) (by omega)
  simp only[y3,parB]
  rw[d1,Int.toNat_natCast,g1,w2]
  simp only[Bool.false_and,cond_true,cond_false]
  exact this
theorem yjy (p:List UInt8) (h40:(40:UInt8)∉p) (hl:p.length≤1048576):∀ (k i n:Nat),i+k=p.length→k<n →
  y3 parB n (p,[],(i:Int))=.error (.inr (p,[],(p.length:Int)))
 | k,i,0,_,h=>by omega
 | 0,i,n+1,h,_=>by
  have hi:i=p.length:=by omega
  subst hi
  simp only[y3,parB]
  rw[decide_eq_false (by omega)]
  rfl
 | k+1,i,n+1,h,hn=>by
  have hi:i<p.length:=by omega
  have d1:decide ((i:Int)<(p.length:Int))=true:=decide_eq_true (by omega)
  have w2:IntKind.wrap .i64 ((i:Int)+1)=((i+1:Nat):Int):=by rw[IntKind.wrap_i64];omega
  have g1:((((p.getD i 0).toNat:Int)) == 40)=false:=by
   rw[List.getD_eq_getElem?_getD,List.getElem?_eq_getElem hi,Option.getD_some,beq_eq_false_iff_ne]
   intro he
   have:p[i]=40:=UInt8.toNat_inj.1 (by show _=40;omega)
   exact h40 (this ▸ List.getElem_mem hi)
  have:=yjy p h40 hl k (i+1) n (by omega) (by omega)
  simp only[y3,parB]
  rw[d1,Int.toNat_natCast,g1,w2]
  simp only[Bool.false_and,cond_true,cond_false]
  exact this
theorem yqp (k:Int) (hk:1≤k∧k≤8) (b:Nat→Int→Except (Character×Bool) Int) (hb:∀ i s,b i s=(bif (((zo ).getD i default) == kt k)then .ok (i:Int)else .ok s)) :
  ye b (((zo ).length)-1) 1 0=.ok k:=by
 have e:b=fun i s=>(bif (((zo ).getD i default) == kt k)then .ok (i:Int)else .ok s):=funext fun i=>funext fun s=>hb i s
 rw[e]
 rcases(show k=1∨k=2∨k=3∨k=4∨k=5∨k=6∨k=7∨k=8 by omega)with h|h|h|h|h|h|h|h<;>subst h<;>rfl
theorem y6cb {ρ : Type} (g : List Int) (h2 : ∀ v ∈ g, 1 ≤ v ∧ v ≤ 9) (r : Nat → List Int → ρ) (b : Nat → List Int → Except ρ (List Int))
  (hb:∀ i s,b i s=(bif (!(zf ((g.map Lib.itoa).getD i default)).2)then .error (r i s)else .ok (s++([(zf ((g.map Lib.itoa).getD i default)).1]:List Int)))) :
  ye b ((g.map Lib.itoa).length-0) 0 []=.ok g:=by
 refine ycbb g h2 r b (fun i s => ?_)
 rw[hb]
 have e:zf ((g.map Lib.itoa).getD i default)=zj ((g.map Lib.itoa).getD i default):=by
  have hlen:((g.map Lib.itoa).getD i default).length≤1048576:=by
   rw[List.getD_eq_getElem?_getD,List.getElem?_map]
   cases hg:g[i]? with
   | none=>show(0:Nat)≤_;omega
   | some x=>
    have:=h2 x (List.mem_of_getElem? hg)
    have:=ycd x (by omega) (by omega)
    simp only[Option.map_some,Option.getD_some];omega
  exact(ygt _ hlen).symm
 rw[e]
end Go.Ab

namespace Go.Ab
open Go Go.Proofs
def yhm (a0:(List UInt8)) (s1:Int):Except (Sum ((Int×Bool)) (Int)) (Int):=
 (bif decide (s1≤600)then(bif ((zwc s1) == a0)then .error (.inl (s1,true))else .ok (IntKind.wrap .i64 (s1+1)))else .error (.inr s1))
def zjd (a0:(List UInt8)):(Int×Bool):=
 (match y3 (yhm a0) (((601-(1:Int)).toNat)+1) 1 with|.error (.inl e)=>e|.error (.inr s1)=>(0,false)|.ok _=>default)
namespace N299
theorem DD:DOk Tryz.prog (Go.Ab.DD [(280,dP D_zwc)]):=ya ycq.e <| yc _
theorem dn:type_of% (@D_zwc.eq_1):=by and_intros<;>intros<;>rfl
theorem den (a0:(List UInt8)) (hb0:a0.length<1099511627776):Den Tryz.prog 299 [.str a0] (.tup [.int .i64 ((zjd a0).1),.bool ((zjd a0).2)]):=by
 generalize hR:zjd a0=r
 unfold zjd at hR
 refine di Tryz.func299 Tryz.ntmps299 Tryz.results299 ?_
 intro c hL hc hk
 obtain⟨hL0,_⟩:=hL
 have hw0:a0.length<9223372036854775808:=Nat.lt_succ_of_le hL0
 clear hL0
 simp only[pars,Nat.zero_add]
 iterate 2 refine rS ?_
 refine AWP.block ?_
 generalize hz1:y3 (yhm a0) (((601-(1:Int)).toNat)+1) 1=z1 at hR
 refine AWP.whileW (yhm a0) (fun s1=>⟨[(0,.str a0),(4,.int .i64 s1)],[]⟩) (fun s1=>1≤s1∧s1≤601) (fun s1=>(601-s1).toNat) (((601-(1:Int)).toNat)+1) 1 [] hz1 m0 wt sm ?_
 clear hz1
 intro s1 k1 hW1 hm1 hz1
 simp only[yhm]at hz1
 refine rS ?_
 refine AWP.cond rfl (fun hb => ?_) (fun hb => ?_)
 ·simp only[hb,cond_true]at hz1
  refine rS ?_
  refine AWP.cond rfl (fun hb => ?_) (fun hb => ?_)
  ·simp only[hb,cond_true]at hz1
   refine rS ?_
   refine AWP.ret ?_
   subst hz1
   dsimp only at hR
   subst hR
   exact es
  ·simp only[hb,cond_false]at hz1
   refine rS ?_
   exact⟨_,[],ms,wt,hz1,sm⟩
 ·simp only[hb,cond_false]at hz1
  refine AWP.exit ?_
  refine yb ?_
  subst hz1;dsimp only at hR
  refine rS ?_
  refine AWP.ret ?_
  subst hR
  exact es
end N299
def D_zjd : DF
 | [x0]=>some (.tup [.int .i64 ((zjd (rdS x0)).1),.bool ((zjd (rdS x0)).2)],false,[wS x0,(rdS x0).length<1099511627776])
 | _=>none
theorem y56:OkD Tryz.prog 299 D_zjd:=by unfold D_zjd;exact dk N299.den
end Go.Ab

namespace Go.Ab
open Go Go.Proofs
theorem ypv (b : Nat → List Int → Except (Character × Bool) (List Int)) (f : List Int → Character × Bool) (hb : ∀ i s, s.length ≤ 1048577 → (∃ x, b i s = .ok (s ++ [x])) ∨ ∃ e, b i s = .error e ∧ CBd e)
  (hf:∀ s,s.length≤1048577→CBd (f s)):∀ (k i:Nat) (s:List Int),s.length≤i→i+k≤1048577→CBd (match ye b k i s with|.error e=>e|.ok s=>f s)
 | 0,i,s,hs,hk=>by simp only[ye];exact hf s (by omega)
 | k+1,i,s,hs,hk=>by
  simp only[ye]
  rcases hb i s (by omega)with⟨x,hx⟩|⟨e,he,hc⟩
  ·rw[hx]
   exact ypv b f hb hf k (i+1) (s++[x]) (by simp only[List.length_append,List.length_singleton];omega) (by omega)
  ·rw[he];exact hc
theorem y0x (b:Nat→Int→Except (Character×Bool) Int) (hb:∀ i s,∃ t,b i s=.ok t) (f:Int→Character×Bool) (hf:∀ k,CBd (f k)) (n i:Nat) (s:Int):CBd (match ye b n i s with|.error e=>e|.ok s=>f s):=by
 cases h:ye b n i s with
 | error e=>
  obtain⟨j,t,_,_,h3⟩:=ykf h
  obtain⟨u,hu⟩:=hb j t
  rw[hu]at h3;cases h3
 | ok t=>exact hf t
theorem yl0 (a:List UInt8) (ha:a.length≤1048576):CBd (zi a):=by
  have hdef:CBd (default:Character×Bool):=⟨by show(0:Nat)≤_;omega,by show(0:Nat)≤_;omega,by show(0:Nat)≤_;omega⟩
  have hw:∀ (b:List UInt8×List UInt8×Int→Except (Sum (Character×Bool) (List UInt8×List UInt8×Int)) (List UInt8×List UInt8×Int)) (n:Nat) (s:List UInt8×List UInt8×Int) (f:List UInt8×List UInt8×Int→Character×Bool),
      (∀ s,s.1.length≤1048576∧s.2.1.length≤1048576→match b s with|.error (.inl e)=>False|.error (.inr t)=>t.2.1.length≤1048576|.ok t=>t.1.length≤1048576∧t.2.1.length≤1048576)→(s.1.length≤1048576∧s.2.1.length≤1048576)→(∀ s,s.2.1.length≤1048576→CBd (f s)) →
      CBd (match y3 b n s with|.error (.inl e)=>e|.error (.inr s)=>f s|.ok _=>default):=by
    intro b n s f hb hs hf
    have h:=ykm (body:=b) (I:=fun s=>s.1.length≤1048576∧s.2.1.length≤1048576) (Q:=fun r=>match r with|.inl e=>False|.inr t=>t.2.1.length≤1048576) (fun s hI=>by
      have:=hb s hI
      cases hbs:b s with
      | error r => rw [hbs] at this; cases r with
        | inl e=>exact this
        | inr t=>exact this
      | ok t=>rw[hbs]at this;exact this) n s hs
    cases hl:y3 b n s with
    | error r=>
      rw[hl]at h
      cases r with
      | inl e=>exact h.elim
      | inr t=>exact hf t h
    | ok t=>exact hdef
  have hpar:∀ s:List UInt8×List UInt8×Int,s.1.length≤1048576∧s.2.1.length≤1048576→match ysu a s with|.error (.inl e)=>False|.error (.inr t)=>t.2.1.length≤1048576|.ok t=>t.1.length≤1048576∧t.2.1.length≤1048576:=by
    intro s hs
    unfold ysu
    cases decide (s.2.2<(s.1.length:Int))with
    | false=>exact hs.2
    | true=>
      simp only[cond_true]
      cases((((s.1.getD ((s.2.2).toNat) 0).toNat:Int) == 40) && (((s.1.getD ((IntKind.wrap .i64 ((s.1.length:Int)-1)).toNat) 0).toNat:Int) == 41))with
      | true=>simp only[cond_true,List.length_drop,List.length_take];omega
      | false=>exact hs
  have hsp:∀ s:List UInt8,s.length≤1048576→(za s 43).length≤1048577:=fun s h=>y4 s h
  unfold zi
  cases(decide (4<(a.length:Int)) && (((a.take a.length).drop ((IntKind.wrap .i64 ((a.length:Int)-4)).toNat)) == [43,76,70,108]))with
  | true=>
    simp only[cond_true]
    refine hw _ _ _ _ hpar ⟨by simp only[List.length_take];omega,by simp⟩ (fun s hs => ?_)
    refine y0x _ (fun i t => ?_) _ (fun k => ?_) _ _ _
    · unfold ywp
      cases(((zo ).getD i default) == s.1)with
      | true=>exact⟨_,rfl⟩
      | false=>exact⟨_,rfl⟩
    · cases(k == 8)with
      | true=>exact⟨by simp,by simp only[cond_true,List.length_append,List.length_singleton];omega,by simp⟩
      | false=>
        simp only[cond_false]
        cases(s.2.1 == [])with
        | true=>exact⟨by simp,by simp,by simp⟩
        | false=>
          simp only[cond_false]
          refine ypv _ (fun t=>({ Kind:=k,Group:=t,Letter:=[76],Colors:=[],Period:=0:Character },_)) (fun i t ht => ?_) (fun t ht=>⟨ht,by simp,by simp⟩) _ 0 [] (by simp) (by have:=hsp _ hs;omega)
          unfold ypn
          cases(!((zf ((za s.2.1 43).getD i default)).2))with
          | true=>exact .inr ⟨_,rfl,ht,by simp,by simp⟩
          | false=>exact .inl ⟨_,rfl⟩
  | false=>
    simp only[cond_false]
    refine hw _ _ _ _ hpar ⟨by simp only;omega,by simp⟩ (fun s hs => ?_)
    refine y0x _ (fun i t => ?_) _ (fun k => ?_) _ _ _
    · unfold yzm
      cases(((zo ).getD i default) == s.1)with
      | true=>exact⟨_,rfl⟩
      | false=>exact⟨_,rfl⟩
    · cases(k == 8)with
      | true=>exact⟨by simp,by simp only[cond_true,List.length_append,List.length_nil];omega,by simp⟩
      | false=>
        simp only[cond_false]
        cases(s.2.1 == [])with
        | true=>exact⟨by simp,by simp,by simp⟩
        | false=>
          simp only[cond_false]
          refine ypv _ (fun t=>({ Kind:=k,Group:=t,Letter:=[],Colors:=[],Period:=0:Character },_)) (fun i t ht => ?_) (fun t ht=>⟨ht,by simp,by simp⟩) _ 0 [] (by simp) (by have:=hsp _ hs;omega)
          unfold ysn
          cases(!((zf ((za s.2.1 43).getD i default)).2))with
          | true=>exact .inr ⟨_,rfl,ht,by simp,by simp⟩
          | false=>exact .inl ⟨_,rfl⟩
theorem yjv (a:List UInt8) (h:a.length≤1048576) (i:Nat):((za a 32).getD i default).length≤1048576:=by
 rw[show za a 32=yh 32 a from ywk a 32 (by omega),List.getD_eq_getElem?_getD]
 cases hg:(yh 32 a)[i]? with
 | none=>show(0:Nat)≤1048576;omega
 | some x=>have:=(yx 32 a).2 x (List.mem_of_getElem? hg);simp only[Option.getD_some];omega
theorem ydcb (a:List UInt8) (h:a.length≤1048576) (k p:Int):bdCharacter { Kind:=k,Group:=(zi ((za a 32).getD 0 default)).1.Group,Letter:=(zi ((za a 32).getD 0 default)).1.Letter,Colors:=(za a 32).getD 1 default,Period:=p }:=by
 obtain⟨h1,h2,_⟩:=yl0 _ (yjv a h 0)
 have h3:=yjv a h 1
 exact⟨by show List.length _<_;simp only;omega,by show List.length _<_;simp only;omega,by show List.length _<_;simp only;omega⟩
end Go.Ab

namespace Go.Ab
open Go Go.Proofs
def zje (a0:(List UInt8)):(Character×Bool):=
 (bif ((((za a0 32).length:Int) != 2) && (((za a0 32).length:Int) != 3))then({ Kind:=0,Group:=[],Letter:=[],Colors:=[],Period:=0:Character },false)else(bif (((za a0 32).length:Int) == 3)then(bif (((!((zi ((za a0 32).getD 0 default)).2 && (zjd ((za a0 32).getD 2 default)).2)) || (!(znc ({ Kind:=((zi ((za a0 32).getD 0 default)).1).Kind,Group:=((zi ((za a0 32).getD 0 default)).1).Group,Letter:=((zi ((za a0 32).getD 0 default)).1).Letter,Colors:=((za a0 32).getD 1 default),Period:=(zjd ((za a0 32).getD 2 default)).1:Character })))) || ((zub ({ Kind:=((zi ((za a0 32).getD 0 default)).1).Kind,Group:=((zi ((za a0 32).getD 0 default)).1).Group,Letter:=((zi ((za a0 32).getD 0 default)).1).Letter,Colors:=((za a0 32).getD 1 default),Period:=(zjd ((za a0 32).getD 2 default)).1:Character })) != a0))then({ Kind:=0,Group:=[],Letter:=[],Colors:=[],Period:=0:Character },false)else({ Kind:=((zi ((za a0 32).getD 0 default)).1).Kind,Group:=((zi ((za a0 32).getD 0 default)).1).Group,Letter:=((zi ((za a0 32).getD 0 default)).1).Letter,Colors:=((za a0 32).getD 1 default),Period:=(zjd ((za a0 32).getD 2 default)).1:Character },true))else(bif (((!((zi ((za a0 32).getD 0 default)).2)) || (!(znc ({ Kind:=((zi ((za a0 32).getD 0 default)).1).Kind,Group:=((zi ((za a0 32).getD 0 default)).1).Group,Letter:=((zi ((za a0 32).getD 0 default)).1).Letter,Colors:=((za a0 32).getD 1 default),Period:=((zi ((za a0 32).getD 0 default)).1).Period:Character })))) || ((zub ({ Kind:=((zi ((za a0 32).getD 0 default)).1).Kind,Group:=((zi ((za a0 32).getD 0 default)).1).Group,Letter:=((zi ((za a0 32).getD 0 default)).1).Letter,Colors:=((za a0 32).getD 1 default),Period:=((zi ((za a0 32).getD 0 default)).1).Period:Character })) != a0))then({ Kind:=0,Group:=[],Letter:=[],Colors:=[],Period:=0:Character },false)else({ Kind:=((zi ((za a0 32).getD 0 default)).1).Kind,Group:=((zi ((za a0 32).getD 0 default)).1).Group,Letter:=((zi ((za a0 32).getD 0 default)).1).Letter,Colors:=((za a0 32).getD 1 default),Period:=((zi ((za a0 32).getD 0 default)).1).Period:Character },true))))
namespace N233
theorem DD:DOk Tryz.prog (Go.Ab.DD [(165,dP D_za),(199,dP D_znc),(203,dP D_zub),(298,dP D_zi),(299,dP D_zjd)]):=ya yvh.e <| ya yhw.e <| ya yj5.e <| ya y4ab.e <| ya y56.e <| yc _
theorem dn:type_of% (And.intro @D_za.eq_1 <| And.intro @D_znc.eq_1 <| And.intro @D_zub.eq_1 <| And.intro @D_zi.eq_1 <| @D_zjd.eq_1):=by and_intros<;>intros<;>rfl
theorem gr {p:Prop} (h:p:=by(grind [y4,yfc]);first|done|fail):p:=h
theorem o0 {p:Prop} (h:p:=by(first|(have hl9:2≤(za a0 32).length:=by(have q := ‹((((za a0 32).length:Int) != 2) && (((za a0 32).length:Int) != 3))=false›;simp at q;omega);have e0:=hel 0;have e1:=hel 1;have e2:=hel 2;and_intros<;>first|omega|(have hb3:=hb;simp at hb3;omega))|(refine⟨fun _=>⟨Nat.le_refl _,hcb _ _⟩,fun q => ?_⟩;have q2:=q;simp only[Bool.not_eq_true',Bool.or_eq_false_iff,Bool.not_eq_false']at q2;have r:=ye1 _ (Nat.lt_of_le_of_lt (hel 1) (by omega)) q2.2;exact⟨Nat.le_refl _,hcb _ _,r.1,r.2.1,r.2.2.1,r.2.2.2.1,r.2.2.2.2.1,r.2.2.2.2.2⟩)|(have hl9:2≤(za a0 32).length:=by(have q := ‹((((za a0 32).length:Int) != 2) && (((za a0 32).length:Int) != 3))=false›;simp at q;omega);have e0:=hel 0;have e1:=hel 1;omega));first|done|fail):p:=h
set_option maxHeartbeats 1000000 in
set_option maxRecDepth 20000 in
theorem den (a0:(List UInt8)) (hb0:a0.length<1099511627776) (hp0:a0.length≤1048576):Den Tryz.prog 233 [.str a0] (.tup [.agg (y8 ((zje a0).1)),.bool ((zje a0).2)]):=by
 generalize hR:zje a0=r
 unfold zje at hR
 refine di Tryz.func233 Tryz.ntmps233 Tryz.results233 ?_
 intro c hL hc hk
 obtain⟨hL0,_⟩:=hL
 have hw0:a0.length<9223372036854775808:=Nat.lt_succ_of_le hL0
 clear hL0
 simp only[pars,Nat.zero_add]
 have hel:=yjv a0 hp0
 have hcb:=ydcb a0 hp0
 iterate 3 refine rS ?_
 refine AWP.cond rfl (fun hb => ?_) (fun hb => ?_)
 ·replace hR:=ct hR
  refine rS ?_
  refine AWP.ret ?_
  subst hR
  exact es
 ·replace hR:=cf hR
  iterate 3 refine rS ?_
  refine AWP.cond rfl (fun hb => ?_) (fun hb => ?_)
  ·replace hR:=ct hR
   iterate 4 refine rS ?_
   refine AWP.cond rfl (fun hb => ?_) (fun hb => ?_)
   ·replace hR:=ct hR
    refine rS ?_
    refine AWP.ret ?_
    subst hR
    exact es
   ·replace hR:=cf hR
    refine rS ?_
    refine AWP.ret ?_
    subst hR
    exact es
  ·replace hR:=cf hR
   refine rS ?_
   refine AWP.cond rfl (fun hb => ?_) (fun hb => ?_)
   ·replace hR:=ct hR
    refine rS ?_
    refine AWP.ret ?_
    subst hR
    exact es
   ·replace hR:=cf hR
    refine rS ?_
    refine AWP.ret ?_
    subst hR
    exact es
end N233
def D_zje : DF
 | [x0]=>some (.tup [.agg (y8 ((zje (rdS x0)).1)),.bool ((zje (rdS x0)).2)],false,[wS x0,(rdS x0).length<1099511627776,(rdS x0).length≤1048576])
 | _=>none
theorem yx7:OkD Tryz.prog 233 D_zje:=by unfold D_zje;exact dk N233.den
end Go.Ab

namespace Go.Ab
open Go Go.Proofs
theorem yidb (a:List UInt8):ysu a=parB:=rfl
theorem y5ab (a:List UInt8):y22 a=parB:=rfl
def lfl (a:List UInt8):Bool:=(decide (4<(a.length:Int)) && (((a.take a.length).drop ((IntKind.wrap .i64 ((a.length:Int)-4)).toNat)) == [43,76,70,108]))
theorem ybq (a:List UInt8):(decide (4<(a.length:Int)) && (((a.take a.length).drop ((IntKind.wrap .i64 ((a.length:Int)-4)).toNat)) == [43,76,70,108]))=lfl a:=rfl
theorem yw9 (X:List UInt8) (hX:X≠[]) (hl:X.length≤1048576):lfl (X++[43,76,70,108])=true∧(X++[43,76,70,108]).take ((IntKind.wrap .i64 (((X++[43,76,70,108]).length:Int)-4)).toNat)=X:=by
 have hp:0<X.length:=List.length_pos_iff.2 hX
 have hw:(IntKind.wrap .i64 (((X++[43,76,70,108]).length:Int)-4)).toNat=X.length:=by
  simp only[List.length_append,List.length_cons,List.length_nil];rw[IntKind.wrap_i64];omega
 unfold lfl
 rw[hw,List.take_length,List.drop_left' rfl,List.take_left' rfl]
 refine⟨?_,rfl⟩
 rw[decide_eq_true (by simp only[List.length_append,List.length_cons,List.length_nil];omega)]
 rfl
theorem yp9 (X:List UInt8) (hl:X.length≤1048576):lfl (X++[41])=false:=by
 unfold lfl
 by_cases h4:4<(((X++[41]).length:Int))
 ·rw[decide_eq_true h4,List.take_length,Bool.true_and,beq_eq_false_iff_ne]
  intro h
  have h2:(X++[41])=((X++[41]).take ((IntKind.wrap .i64 (((X++[41]).length:Int)-4)).toNat)++[43,76,70])++[108]:=by
   conv=>lhs;rw[← List.take_append_drop ((IntKind.wrap .i64 (((X++[41]).length:Int)-4)).toNat) (X++[41]),h]
   simp
  have:=congrArg List.getLast? h2
  rw[List.getLast?_append,List.getLast?_append]at this
  simp at this
 ·rw[decide_eq_false h4];rfl
theorem yzbb (k:Int) (h:1≤k∧k≤8):lfl (kt k)=false:=by
 rcases(show k=1∨k=2∨k=3∨k=4∨k=5∨k=6∨k=7∨k=8 by omega)with h|h|h|h|h|h|h|h<;>subst h<;>rfl
theorem yb9 (k:Int) (h:1≤k∧k≤8):(kt k).length≤3∧kt k≠[]:=by
 rcases(show k=1∨k=2∨k=3∨k=4∨k=5∨k=6∨k=7∨k=8 by omega)with h|h|h|h|h|h|h|h<;>subst h<;>exact⟨by decide,by decide⟩
theorem y2r (g:List Int) (h1:g.length≤4) (h2:∀ v∈g,1≤v∧v≤9):(Lib.join (g.map Lib.itoa) [43]).length≤100:=by
 have:=yqi [43] (g.map Lib.itoa) 20 (fun x hx=>by
  obtain⟨z,hz,rfl⟩:=List.mem_map.1 hx
  have:=h2 z hz
  exact ycd z (by omega) (by omega))
 simp only[List.length_map,List.length_singleton]at this
 omega
theorem yq3 (c:Character) (h:zqb c=true):(yve c).length≤200:=by
 have hk:=yie c h
 obtain⟨g1,g2⟩:=yhe c h
 have:=(yb9 c.Kind hk).1
 have hj:=y2r _ g1 g2
 unfold yve
 by_cases h8:c.Kind=8
 ·rw[if_pos h8]
  have:=(ywo c h h8).2.1
  have:(kt 8).length=2:=rfl
  simp only[List.length_append,List.length_cons,List.length_nil];omega
 ·rw[if_neg h8]
  have hg:(grpT c.Group).length≤102:=by
   unfold grpT
   split
   ·simp
   ·simp only[List.length_append,List.length_cons,List.length_nil];omega
  have hL:(if c.Letter=[]then([]:List UInt8)else[43,76,70,108]).length≤4:=by split<;>simp
  rw[List.length_append,List.length_append];omega
theorem yx3 (c:Character) (h:zqb c=true):zi (yve c)=({ Kind:=c.Kind,Group:=c.Group,Letter:=c.Letter,Colors:=[],Period:=0:Character },true):=by
 have hk:=yie c h
 obtain⟨g1,g2⟩:=yhe c h
 have h40:=(y9ab c.Kind hk).1
 have hkl:=yb9 c.Kind hk
 have hjl:=y2r _ g1 g2
 have hkp:decide (0<c.Kind)=true:=decide_eq_true (by omega)
 have hlen:=yq3 c h
 unfold yve at hlen ⊢
 by_cases h8:c.Kind=8
 ·obtain⟨f1,f2⟩:=ywo c h h8
  rw[if_pos h8]at hlen ⊢
  rw[f1,h8]
  have eH:kt 8++40::(c.Letter++[41])=(kt 8++40::c.Letter)++[41]:=by simp
  have n1:lfl (kt 8++40::(c.Letter++[41]))=false:=by
   rw[eH];exact yp9 _ (by simp only[List.length_append,List.length_cons,List.length_nil]at hlen ⊢;omega)
  have hw:=yci (kt 8) c.Letter (by decide) (by omega) 2 0 ((((kt 8++40::(c.Letter++[41])).length:Int)-0).toNat+1) rfl (by simp only[List.length_append,List.length_cons,List.length_nil];omega)
  have hks:∀ s:List UInt8×Int,ye (yzm (kt 8++40::(c.Letter++[41])) (kt 8,s)) (((zo ).length)-1) 1 0=.ok 8:=fun s=>yqp 8 (by omega) _ (fun i t=>rfl)
  unfold zi
  rw[ybq,n1,y5ab]
  simp only[cond_false]
  rw[show((kt 8++40::(c.Letter++[41]),([]:List UInt8),(0:Int)))=(kt 8++40::(c.Letter++[41]),[],((0:Nat):Int))from rfl,hw]
  simp only[hks]
  rfl
 ·have e8:(c.Kind == 8)=false:=by rw[beq_eq_false_iff_ne];exact h8
  rw[if_neg h8]at hlen ⊢
  by_cases hL:c.Letter=[]
  ·rw[if_pos hL,List.append_nil]at hlen ⊢
   rw[hL]
   by_cases hg:c.Group=[]
   ·have eg:grpT c.Group=[]:=by rw[hg];rfl
    rw[eg,List.append_nil,hg]
    have hw:=yjy (kt c.Kind) h40 (by omega) (kt c.Kind).length 0 ((((kt c.Kind).length:Int)-0).toNat+1) (by omega) (by omega)
    have hks:∀ s:List UInt8×Int,ye (yzm (kt c.Kind) (kt c.Kind,s)) (((zo ).length)-1) 1 0=.ok c.Kind:=fun s=>yqp c.Kind hk _ (fun i t=>rfl)
    unfold zi
    rw[ybq,yzbb _ hk,y5ab]
    simp only[cond_false]
    rw[show((kt c.Kind,([]:List UInt8),(0:Int)))=(kt c.Kind,[],((0:Nat):Int))from rfl,hw]
    simp only[hks,e8,cond_false]
    rw[hkp];rfl
   ·have eg:grpT c.Group=40::(Lib.join (c.Group.map Lib.itoa) [43]++[41]):=by unfold grpT;rw[if_neg hg]
    rw[eg]at hlen ⊢
    have hsp:za (Lib.join (c.Group.map Lib.itoa) [43]) 43=c.Group.map Lib.itoa:=by
     rw[show za (Lib.join (c.Group.map Lib.itoa) [43]) 43=yh 43 (Lib.join (c.Group.map Lib.itoa) [43])from ywk _ 43 (by omega)]
     exact y0e _ hg g2
    have hJ0:(Lib.join (c.Group.map Lib.itoa) [43] == [])=false:=by
     rw[beq_eq_false_iff_ne]
     intro h0
     have:=y0e _ hg g2
     rw[h0]at this
     cases hgg:c.Group with
     | nil=>exact hg hgg
     | cons x r=>
      rw[hgg]at this
      simp only[yh,List.map_cons,List.cons.injEq]at this
      exact(y9d x).2 this.1.symm
    generalize hJ:Lib.join (c.Group.map Lib.itoa) [43]=J at *
    have eH:kt c.Kind++40::(J++[41])=(kt c.Kind++40::J)++[41]:=by simp
    have n1:lfl (kt c.Kind++40::(J++[41]))=false:=by
     rw[eH];exact yp9 _ (by simp only[List.length_append,List.length_cons,List.length_nil]at hlen ⊢;omega)
    have hw:=yci (kt c.Kind) J h40 (by omega) (kt c.Kind).length 0 ((((kt c.Kind++40::(J++[41])).length:Int)-0).toNat+1) (by omega) (by simp only[List.length_append,List.length_cons,List.length_nil];omega)
    have hks:∀ s:List UInt8×Int,ye (yzm (kt c.Kind++40::(J++[41])) (kt c.Kind,s)) (((zo ).length)-1) 1 0=.ok c.Kind:=fun s=>yqp c.Kind hk _ (fun i t=>rfl)
    have hgs:∀ (p:List UInt8) (q k:Int),ye (ysn (kt c.Kind++40::(J++[41])) (p,J,q) k) ((c.Group.map Lib.itoa).length-0) 0 []=.ok c.Group:=fun p q k=>y6cb c.Group g2 (fun i t=>({ Kind:=k,Group:=t,Letter:=[],Colors:=[],Period:=0:Character },false)) _ (fun i t=>by unfold ysn;simp only;rw[hsp])
    unfold zi
    rw[ybq,n1,y5ab]
    simp only[cond_false]
    rw[show((kt c.Kind++40::(J++[41]),([]:List UInt8),(0:Int)))=(kt c.Kind++40::(J++[41]),[],((0:Nat):Int))from rfl,hw]
    simp only[hks,e8,cond_false,hJ0,hsp,hgs,hkp]
  ·obtain⟨l1,l2⟩:=y82 c h h8 hL
   rw[if_neg hL]at hlen ⊢
   have hg:c.Group≠[]:=by rw[l2];simp
   have eg:grpT c.Group=40::(Lib.join (c.Group.map Lib.itoa) [43]++[41]):=by unfold grpT;rw[if_neg hg]
   rw[eg]at hlen ⊢
   have hsp:za (Lib.join (c.Group.map Lib.itoa) [43]) 43=c.Group.map Lib.itoa:=by
    rw[show za (Lib.join (c.Group.map Lib.itoa) [43]) 43=yh 43 (Lib.join (c.Group.map Lib.itoa) [43])from ywk _ 43 (by omega)]
    exact y0e _ hg g2
   have hJ0:(Lib.join (c.Group.map Lib.itoa) [43] == [])=false:=by
    rw[beq_eq_false_iff_ne]
    intro h0
    have:=y0e _ hg g2
    rw[h0,l2]at this
    simp only[yh,List.map_cons,List.cons.injEq]at this
    exact(y9d 6).2 this.1.symm
   generalize hJ:Lib.join (c.Group.map Lib.itoa) [43]=J at *
   have eH:kt c.Kind++(40::(J++[41])++[43,76,70,108])=(kt c.Kind++40::(J++[41]))++[43,76,70,108]:=by simp
   rw[eH]at hlen ⊢
   rw[l1]
   have hl2:(kt c.Kind++40::(J++[41])).length≤1048576:=by rw[List.length_append]at hlen;omega
   obtain⟨y1,y2⟩:=yw9 (kt c.Kind++40::(J++[41])) (by simp) hl2
   have hw:=yci (kt c.Kind) J h40 hl2 (kt c.Kind).length 0 (((((kt c.Kind++40::(J++[41]))++[43,76,70,108]).length:Int)-0).toNat+1) (by omega) (by simp only[List.length_append,List.length_cons,List.length_nil];omega)
   have hks:∀ s:List UInt8×Int,ye (ywp ((kt c.Kind++40::(J++[41]))++[43,76,70,108]) (kt c.Kind,s)) (((zo ).length)-1) 1 0=.ok c.Kind:=fun s=>yqp c.Kind hk _ (fun i t=>rfl)
   have hgs:∀ (p:List UInt8) (q k:Int),ye (ypn ((kt c.Kind++40::(J++[41]))++[43,76,70,108]) (p,J,q) k) ((c.Group.map Lib.itoa).length-0) 0 []=.ok c.Group:=fun p q k=>y6cb c.Group g2 (fun i t=>({ Kind:=k,Group:=t,Letter:=[76],Colors:=[],Period:=0:Character },false)) _ (fun i t=>by unfold ypn;simp only;rw[hsp])
   unfold zi
   rw[ybq,y1,y2,yidb]
   simp only[cond_true]
   rw[show((kt c.Kind++40::(J++[41]),([]:List UInt8),(0:Int)))=(kt c.Kind++40::(J++[41]),[],((0:Nat):Int))from rfl,hw]
   simp only[hks,e8,cond_false,hJ0,hsp,hgs,hkp]
end Go.Ab

namespace Go.Ab
open Go Go.Proofs
theorem yc5 {n m:Int} (h1:0<n) (h2:n≤600) (h3:0<m) (h4:m≤600) (h:secT n=secT m):n=m:=by
 have e1:=yyp n h1 h2
 rw[h,yyp m h3 h4]at e1
 exact(congrArg Prod.fst e1).symm
theorem ymy (p : Int) (h1 : 0 < p) (h2 : p ≤ 600) : ∀ (k n : Nat) (i : Int), 1 ≤ i → i + k = p → k < n → y3 (yhm (secT p ++ [115])) n i = .error (.inl (p, true))
 | k,0,i,_,_,h=>by omega
 | 0,n+1,i,hi,he,_=>by
  have e:i=p:=by omega
  subst e
  simp only[y3,yhm]
  rw[decide_eq_true h2,ykq _ (by omega) h2]
  simp
 | k+1,n+1,i,hi,he,hn=>by
  have hne:(zwc i == secT p++[115])=false:=by
   rw[beq_eq_false_iff_ne,ykq _ (by omega) (by omega)]
   intro h
   have:=yc5 (by omega) (by omega) h1 h2 (List.append_cancel_right h)
   omega
  have hw:IntKind.wrap .i64 (i+1)=i+1:=by rw[IntKind.wrap_i64];omega
  have:=ymy p h1 h2 k n (i+1) (by omega) (by omega) (by omega)
  simp only[y3,yhm]
  rw[decide_eq_true (show i≤600 by omega),hne,hw]
  simp only[cond_true,cond_false]
  exact this
theorem ymu (p:Int) (h1:0<p) (h2:p≤600):zjd (secT p++[115])=(p,true):=by
 unfold zjd
 rw[ymy p h1 h2 (p-1).toNat _ 1 (by omega) (by omega) (by omega)]
theorem ydab (p:Int) (h1:0<p) (h2:p≤600):(32:UInt8)∉secT p++[115]:=by
 intro hm
 rcases List.mem_append.1 hm with hm|hm
 ·unfold secT at hm
  split at hm
  ·exact yuf (by omega) 32 (by decide) hm
  ·rcases List.mem_append.1 hm with hm|hm
   ·exact yuf (by omega) 32 (by decide) hm
   ·rcases List.mem_cons.1 hm with hm|hm
    ·exact absurd hm (by decide)
    ·exact yuf (by omega) 32 (by decide) hm
 ·rw[List.mem_singleton]at hm;exact absurd hm (by decide)
theorem y61 (c:Character) (h:zab c=true) (hl:c.Colors.length<9223372036854775808) (ha:(chrT c).length≤1048576):zje (chrT c)=(c,true):=by
 have hf:=yic c h
 have hr:=yx3 c hf
 have hp:=ybe c h
 have hp2:=(yjd c h).2.2
 have hcol:=ydr _ (ysk c h hl)
 have hok:znc c=true:=by rw[← ywg c hl];exact h
 have htext:=y4m c h
 have hsp:za (chrT c) 32=yh 32 (chrT c):=ywk _ 32 (by omega)
 unfold zje
 by_cases h0:c.Period=0
 ·have e1:za (chrT c) 32=[yve c,c.Colors]:=by
   rw[hsp];unfold chrT
   rw[h0,show perT 0=[]from rfl,List.append_nil,ybb 32 _ _ (ynv c hf),ypb 32 _ hcol]
  rw[e1]
  have ec:({ Kind:=c.Kind,Group:=c.Group,Letter:=c.Letter,Colors:=c.Colors,Period:=0:Character })=c:=by rw[← h0]
  have n2:((([yve c,c.Colors]:List (List UInt8)).length:Int) != 2)=false:=rfl
  have n3:((([yve c,c.Colors]:List (List UInt8)).length:Int) == 3)=false:=rfl
  rw[n2,n3]
  simp only[Bool.false_and,cond_false,List.getD_cons_zero,List.getD_cons_succ]
  rw[hr]
  simp only[ec,hok,htext]
  simp
 ·have e2:perT c.Period=32::(secT c.Period++[115]):=by unfold perT;rw[if_neg h0]
  have e1:za (chrT c) 32=[yve c,c.Colors,secT c.Period++[115]]:=by
   rw[hsp];unfold chrT
   rw[e2,ybb 32 _ _ (ynv c hf),ybb 32 _ _ hcol,ypb 32 _ (ydab _ (by omega) hp2)]
  rw[e1]
  have n2:((([yve c,c.Colors,secT c.Period++[115]]:List (List UInt8)).length:Int) != 3)=false:=rfl
  have n3:((([yve c,c.Colors,secT c.Period++[115]]:List (List UInt8)).length:Int) == 3)=true:=rfl
  rw[n2,n3]
  simp only[Bool.and_false,cond_false,cond_true,List.getD_cons_zero,List.getD_cons_succ]
  rw[hr,ymu _ (by omega) hp2]
  have ec:({ Kind:=c.Kind,Group:=c.Group,Letter:=c.Letter,Colors:=c.Colors,Period:=c.Period:Character })=c:=rfl
  simp only[ec,hok,htext]
  simp
theorem yki (a:List UInt8):zje a=({ Kind:=0,Group:=[],Letter:=[],Colors:=[],Period:=0:Character },false)∨∃ c,znc c=true∧zub c=a∧(∃ i,c.Colors=(za a 32).getD i default)∧zje a=(c,true):=by
 unfold zje
 generalize za a 32=w
 cases hA:(((w.length:Int) != 2) && ((w.length:Int) != 3))with
 | true=>left;rfl
 | false=>
  simp only[cond_false]
  cases((w.length:Int) == 3)with
  | true=>
   simp only[cond_true]
   generalize hc:({ Kind:=((zi (w.getD 0 default)).1).Kind,Group:=((zi (w.getD 0 default)).1).Group,Letter:=((zi (w.getD 0 default)).1).Letter,Colors:=(w.getD 1 default),Period:=(zjd (w.getD 2 default)).1:Character })=c
   cases hv:znc c with
   | false=>left;simp
   | true=>
    by_cases ht:zub c=a
    ·cases hq:((zi (w.getD 0 default)).2 && (zjd (w.getD 2 default)).2)with
     | true=>right;exact⟨c,hv,ht,⟨1,by rw[← hc]⟩,by simp[ht]⟩
     | false=>left;simp
    ·left
     have:(zub c != a)=true:=by simpa using ht
     rw[this];simp
  | false=>
   simp only[cond_false]
   generalize hc:({ Kind:=((zi (w.getD 0 default)).1).Kind,Group:=((zi (w.getD 0 default)).1).Group,Letter:=((zi (w.getD 0 default)).1).Letter,Colors:=(w.getD 1 default),Period:=((zi (w.getD 0 default)).1).Period:Character })=c
   cases hv:znc c with
   | false=>left;simp
   | true=>
    by_cases ht:zub c=a
    ·cases hq:(zi (w.getD 0 default)).2 with
     | true=>right;exact⟨c,hv,ht,⟨1,by rw[← hc]⟩,by simp[ht]⟩
     | false=>left;simp
    ·left
     have:(zub c != a)=true:=by simpa using ht
     rw[this];simp
theorem yiu (a:List UInt8) (ha:a.length≤1048576):zbd a=zje a:=by
 rcases yui a with h|⟨c,hv,ht,hr⟩
 ·rcases yki a with g|⟨c,hv,ht,⟨i,hci⟩,hr⟩
  ·rw[h,g]
  ·have hl:c.Colors.length<9223372036854775808:=by
    rw[hci,ywk a 32 (by omega) |> (fun e=>(e:za a 32=yh 32 a))]
    rw[List.getD_eq_getElem?_getD]
    cases hg:(yh 32 a)[i]? with
    | none=>show(0:Nat)<_;omega
    | some x=>have:=(yx 32 a).2 x (List.mem_of_getElem? hg);simp only[Option.getD_some];omega
   rw[← ywg c hl]at hv
   have hT:=y4m c hv
   rw[hT]at ht
   rw[hr, ← ht,yd2 c hv hl]
 ·have hT:=ypl c hv
  rw[hT]at ht
  have hl:c.Colors.length<9223372036854775808:=by
   have:c.Colors.length≤(chrT c).length:=by unfold chrT;simp only[List.length_append,List.length_cons];omega
   rw[ht]at this;omega
  rw[hr, ← ht,y61 c hv hl (by rw[ht];exact ha)]
end Go.Ab


namespace Go.Ab
open Go Go.Proofs
def y4n (a0:(List Int)) (a1:(List Int)) (i1:Nat) (s1:Unit):Except (Bool) (Unit):=
 (bif ((a0.getD i1 default) != (a1.getD i1 default))then .error false else .ok ())
def zye (a0:(List Int)) (a1:(List Int)):Bool:=
 (bif ((a0.length:Int) != (a1.length:Int))then false else(match ye (y4n a0 a1) (a0.length-0) 0 ()with|.error e=>e|.ok s1=>true))
namespace N220
theorem DD:DOk Tryz.prog (Go.Ab.DD []):=yc _
theorem den (a0:(List Int)) (a1:(List Int))  : Den Tryz.prog 220 [encL 1 yr a0,encL 1 yr a1] (.bool (zye a0 a1)):=by
 generalize hR:zye a0 a1=r
 unfold zye at hR
 refine di Tryz.func220 Tryz.ntmps220 Tryz.results220 ?_
 intro c hL hc hk
 obtain⟨hL0,hL1,_⟩:=hL
 have hw0:a0.length<9223372036854775808:=Nat.lt_succ_of_le (yf hL0).1
 have hw1:a1.length<9223372036854775808:=Nat.lt_succ_of_le (yf hL1).1
 clear hL0 hL1
 simp only[pars,Nat.zero_add]
 iterate 2 refine rS ?_
 refine AWP.cond rfl (fun hb => ?_) (fun hb => ?_)
 ·replace hR:=ct hR
  refine rS ?_
  refine AWP.ret ?_
  subst hR
  exact es
 ·replace hR:=cf hR
  refine rS ?_
  refine AWP.block ?_
  generalize hz1:ye (y4n a0 a1) (a0.length-0) 0 ()=z1 at hR
  refine AWP.range (y4n a0 a1) (fun i1 s1=>⟨[(0,encL 1 yr a0),(1,encL 1 yr a1),(5,.int .i64 (i1:Int))],[]⟩) (fun i1 s1=>True) (a0.length) 0 () [] hz1 ot wt sm ?_
  clear hz1
  intro i1 s1 hi1 hW1 hz1
  refine rS ?_
  refine AWP.cond rfl (fun hb => ?_) (fun hb => ?_)
  ·have hlt1:i1<a0.length:=ot
   rw[yj hlt1]at hz1;simp only[y4n]at hz1
   refine rD 8 ?_
   refine AWP.cond rfl (fun hb => ?_) (fun hb => ?_)
   ·simp only[hb,cond_true]at hz1
    refine rS ?_
    refine AWP.ret ?_
    subst hz1
    dsimp only at hR
    subst hR
    exact es
   ·simp only[hb,cond_false]at hz1
    refine rS ?_
    exact⟨_,[],hlt1,wt,hz1,sm⟩
  ·obtain rfl:i1=a0.length:=ot
   rw[yi (Nat.le_refl _)]at hz1;subst hz1;dsimp only at hR
   refine AWP.exit ?_;refine yb ?_
   refine rS ?_
   refine AWP.ret ?_
   subst hR
   exact es
end N220
def D_zye : DF
 | [x0,x1]=>some (.bool (zye (rdL ywb x0) (rdL ywb x1)),false,[wL 1 yr ywb x0,wL 1 yr ywb x1])
 | _=>none
theorem yg8:OkD Tryz.prog 220 D_zye:=by unfold D_zye;exact dk N220.den
end Go.Ab

namespace Go.Ab
open Go Go.Proofs
def zbh (a0:Character) (a1:Character):Bool:=
 (bif (a0.Kind != a1.Kind)then false else(bif (!(zye a0.Group a1.Group))then false else(bif (a0.Letter != a1.Letter)then false else(bif (a0.Colors != a1.Colors)then false else(bif (a0.Period != a1.Period)then false else true)))))
namespace N112
theorem DD:DOk Tryz.prog (Go.Ab.DD [(220,dP D_zye)]):=ya yg8.e <| yc _
theorem dn:type_of% (@D_zye.eq_1):=by and_intros<;>intros<;>rfl
theorem den (a0:Character) (a1:Character)  : Den Tryz.prog 112 [.agg (yg a0),.agg (yg a1)] (.bool (zbh a0 a1)):=by
 generalize hR:zbh a0 a1=r
 unfold zbh at hR
 refine di Tryz.func112 Tryz.ntmps112 Tryz.results112 ?_
 intro c hL hc hk
 obtain⟨hL0,hL1,_⟩:=hL
 have hw0:bwCharacter a0:=yn a0 hL0
 have hw1:bwCharacter a1:=yn a1 hL1
 clear hL0 hL1
 simp only[pars,Nat.zero_add]
 iterate 2 refine rS ?_
 refine AWP.cond rfl (fun hb => ?_) (fun hb => ?_)
 ·replace hR:=ct hR
  refine rS ?_
  refine AWP.ret ?_
  subst hR
  exact es
 ·replace hR:=cf hR
  refine rS ?_
  refine AWP.cond rfl (fun hb => ?_) (fun hb => ?_)
  ·replace hR:=ct hR
   refine rS ?_
   refine AWP.ret ?_
   subst hR
   exact es
  ·replace hR:=cf hR
   refine rS ?_
   refine AWP.cond rfl (fun hb => ?_) (fun hb => ?_)
   ·replace hR:=ct hR
    refine rS ?_
    refine AWP.ret ?_
    subst hR
    exact es
   ·replace hR:=cf hR
    refine rS ?_
    refine AWP.cond rfl (fun hb => ?_) (fun hb => ?_)
    ·replace hR:=ct hR
     refine rS ?_
     refine AWP.ret ?_
     subst hR
     exact es
    ·replace hR:=cf hR
     refine rS ?_
     refine AWP.cond rfl (fun hb => ?_) (fun hb => ?_)
     ·replace hR:=ct hR
      refine rS ?_
      refine AWP.ret ?_
      subst hR
      exact es
     ·replace hR:=cf hR
      refine rS ?_
      refine AWP.ret ?_
      subst hR
      exact es
end N112
def D_zbh : DF
 | [x0,x1]=>some (.bool (zbh (rdG yd x0) (rdG yd x1)),false,[wG yg yd x0,wG yg yd x1])
 | _=>none
theorem yk4:OkD Tryz.prog 112 D_zbh:=by unfold D_zbh;exact dk N112.den
end Go.Ab


namespace Go.Ab
open Go Go.Proofs
def zqd (a0:(List UInt8)):(Aid×Bool):=
 (bif (((zb a0 [47]).length:Int) != 8)then({ Number:=0,Name:=[],At:={ X:=0,Y:=0:Point },Height:=0,Mark:={ Kind:=0,Colors:=[],Shape:=[],Topmark:=[]:Mark },Light:={ Kind:=0,Group:=[],Letter:=[],Colors:=[],Period:=0:Character },Sectors:=[],Intensity:=0:Aid },false)else(bif (((zb a0 [47]).getD 5 default) == [45])then(bif ((!(((zj ((zb a0 [47]).getD 0 default)).2) == true && (((zhf ((zb a0 [47]).getD 2 default)).2) == true && (((zj ((zb a0 [47]).getD 3 default)).2) == true && (((zzb ((zb a0 [47]).getD 4 default)).2) == true && (true == true && (((zac ((zb a0 [47]).getD 6 default)).2) == true && ((zj ((zb a0 [47]).getD 7 default)).2) == true))))))) || ((zsc ({ Number:=(zj ((zb a0 [47]).getD 0 default)).1,Name:=((zb a0 [47]).getD 1 default),At:=(zhf ((zb a0 [47]).getD 2 default)).1,Height:=(zj ((zb a0 [47]).getD 3 default)).1,Mark:=(zzb ((zb a0 [47]).getD 4 default)).1,Light:=(zbd ((zb a0 [47]).getD 5 default)).1,Sectors:=(zac ((zb a0 [47]).getD 6 default)).1,Intensity:=(zj ((zb a0 [47]).getD 7 default)).1:Aid })) != a0))then({ Number:=0,Name:=[],At:={ X:=0,Y:=0:Point },Height:=0,Mark:={ Kind:=0,Colors:=[],Shape:=[],Topmark:=[]:Mark },Light:={ Kind:=0,Group:=[],Letter:=[],Colors:=[],Period:=0:Character },Sectors:=[],Intensity:=0:Aid },false)else({ Number:=(zj ((zb a0 [47]).getD 0 default)).1,Name:=((zb a0 [47]).getD 1 default),At:=(zhf ((zb a0 [47]).getD 2 default)).1,Height:=(zj ((zb a0 [47]).getD 3 default)).1,Mark:=(zzb ((zb a0 [47]).getD 4 default)).1,Light:=(zbd ((zb a0 [47]).getD 5 default)).1,Sectors:=(zac ((zb a0 [47]).getD 6 default)).1,Intensity:=(zj ((zb a0 [47]).getD 7 default)).1:Aid },true))else(bif ((!(((zj ((zb a0 [47]).getD 0 default)).2) == true && (((zhf ((zb a0 [47]).getD 2 default)).2) == true && (((zj ((zb a0 [47]).getD 3 default)).2) == true && (((zzb ((zb a0 [47]).getD 4 default)).2) == true && (((zbd ((zb a0 [47]).getD 5 default)).2) == true && (((zac ((zb a0 [47]).getD 6 default)).2) == true && ((zj ((zb a0 [47]).getD 7 default)).2) == true))))))) || ((zsc ({ Number:=(zj ((zb a0 [47]).getD 0 default)).1,Name:=((zb a0 [47]).getD 1 default),At:=(zhf ((zb a0 [47]).getD 2 default)).1,Height:=(zj ((zb a0 [47]).getD 3 default)).1,Mark:=(zzb ((zb a0 [47]).getD 4 default)).1,Light:=(zbd ((zb a0 [47]).getD 5 default)).1,Sectors:=(zac ((zb a0 [47]).getD 6 default)).1,Intensity:=(zj ((zb a0 [47]).getD 7 default)).1:Aid })) != a0))then({ Number:=0,Name:=[],At:={ X:=0,Y:=0:Point },Height:=0,Mark:={ Kind:=0,Colors:=[],Shape:=[],Topmark:=[]:Mark },Light:={ Kind:=0,Group:=[],Letter:=[],Colors:=[],Period:=0:Character },Sectors:=[],Intensity:=0:Aid },false)else({ Number:=(zj ((zb a0 [47]).getD 0 default)).1,Name:=((zb a0 [47]).getD 1 default),At:=(zhf ((zb a0 [47]).getD 2 default)).1,Height:=(zj ((zb a0 [47]).getD 3 default)).1,Mark:=(zzb ((zb a0 [47]).getD 4 default)).1,Light:=(zbd ((zb a0 [47]).getD 5 default)).1,Sectors:=(zac ((zb a0 [47]).getD 6 default)).1,Intensity:=(zj ((zb a0 [47]).getD 7 default)).1:Aid },true))))
namespace N54
theorem DD:DOk Tryz.prog (Go.Ab.DD [(135,dP D_zb),(136,dP D_zj),(137,dP D_zhf),(138,dP D_zac),(15,dP D_zzb),(32,dP D_zsc),(89,dP D_zbd)]):=ya y3j.e <| ya yxh.e <| ya yg6.e <| ya y14.e <| ya ydp.e <| ya y3x.e <| ya yjx.e <| yc _
theorem dn:type_of% (And.intro @D_zb.eq_1 <| And.intro @D_zj.eq_1 <| And.intro @D_zhf.eq_1 <| And.intro @D_zac.eq_1 <| And.intro @D_zzb.eq_1 <| And.intro @D_zsc.eq_1 <| @D_zbd.eq_1):=by and_intros<;>intros<;>rfl
set_option maxHeartbeats 4000000 in
set_option maxRecDepth 20000 in
theorem den (a0:(List UInt8)) (hb0:a0.length<1099511627776) (hp0:a0.length≤1048576):Den Tryz.prog 54 [.str a0] (.tup [.agg (yfh ((zqd a0).1)),.bool ((zqd a0).2)]):=by
 generalize hR:zqd a0=r
 unfold zqd at hR
 refine di Tryz.func54 Tryz.ntmps54 Tryz.results54 ?_
 intro c hL hc hk
 obtain⟨hL0,_⟩:=hL
 have hw0:a0.length<9223372036854775808:=Nat.lt_succ_of_le hL0
 clear hL0
 simp only[pars,Nat.zero_add]
 have e1:=fun i=>y1p a0 47 i
 have s0_:=e1 0
 have s1_:=e1 1
 have s2_:=e1 2
 have s3_:=e1 3
 have s4_:=e1 4
 have s5_:=e1 5
 have s6_:=e1 6
 have s7_:=e1 7
 have b4:=yocb ((zb a0 [47]).getD 4 default) (by omega)
 have b5:=yxab ((zb a0 [47]).getD 5 default)
 have b6:=ygdb ((zb a0 [47]).getD 6 default) (by omega)
 have b61:=b6.1
 have b62:=b6.2
 iterate 3 refine rS ?_
 refine AWP.cond rfl (fun hb => ?_) (fun hb => ?_)
 ·replace hR:=ct hR
  refine rS ?_
  refine AWP.ret ?_
  subst hR
  exact es
 ·replace hR:=cf hR
  iterate 10 refine rS ?_
  refine AWP.cond rfl (fun hb => ?_) (fun hb => ?_)
  ·replace hR:=ct hR
   iterate 2 refine rS ?_
   refine AWP.cond rfl (fun hb => ?_) (fun hb => ?_)
   ·replace hR:=ct hR
    refine rS ?_
    refine AWP.ret ?_
    subst hR
    exact es
   ·replace hR:=cf hR
    refine rS ?_
    refine AWP.ret ?_
    subst hR
    exact es
  ·replace hR:=cf hR
   refine rS ?_
   refine AWP.cond rfl (fun hb => ?_) (fun hb => ?_)
   ·replace hR:=ct hR
    refine rS ?_
    refine AWP.ret ?_
    subst hR
    exact es
   ·replace hR:=cf hR
    refine rS ?_
    refine AWP.ret ?_
    subst hR
    exact es
end N54
def D_zqd : DF
 | [x0]=>some (.tup [.agg (yfh ((zqd (rdS x0)).1)),.bool ((zqd (rdS x0)).2)],false,[wS x0,(rdS x0).length<1099511627776,(rdS x0).length≤1048576])
 | _=>none
theorem ycw:OkD Tryz.prog 54 D_zqd:=by unfold D_zqd;exact dk N54.den
end Go.Ab

namespace Go.Ab
open Go Go.Proofs
theorem yt9 (w:List UInt8) (hw:w.length≤1048576):bdMark (zid w).1:=by rw[← yyt w hw];exact yocb w hw
theorem y18 (w:List UInt8) (hw:w.length≤1048576):(zlb w).1.length<1099511627776∧∀ v∈(zlb w).1,bdSector v:=by rw[← y4s w hw];exact ygdb w hw
theorem yq9 (w:List UInt8) (hw:w.length≤1048576):bdCharacter (zje w).1:=by rw[← yiu w hw];exact yxab w
end Go.Ab
