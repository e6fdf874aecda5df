/- A part of a proof: walks of functions and lemmas of our own. No conditions. -/
import Derived.Test.YtopoomikfjodkaaGreatDoorUAr
import Derived.Test.YtopoomikfjodkaaGreatDoorUAt
import Derived.Test.YtopoomikfjodkaaGreatDoorUAx
import Derived.Test.YtopoomikfjodkaaGreatDoorUAu
import Derived.Test.YtopoomikfjodkaaGreatDoorUAs
import Derived.Test.YtopoomikfjodkaaGreatDoorUAl
import Derived.Test.YtopoomikfjodkaaGreatDoorUAw
import Derived.Test.YtopoomikfjodkaaGreatDoorUAz
import Derived.Test.YtopoomikfjodkaaGreatDoorUAq
import Derived.Test.YtopoomikfjodkaaGreatDoorUAv
import Derived.Test.YtopoomikfjodkaaGreatDoorUAi
import Derived.Test.YtopoomikfjodkaaGreatDoorUAo
set_option linter.unusedSectionVars false
set_option linter.unusedVariables false
set_option linter.unusedSimpArgs false
set_option maxHeartbeats 1000000
namespace Go.Ab
open Go Go.Proofs
theorem y5q (b : Nat → List Int → Except (Character × Bool) (List Int)) (f : List Int → Character × Bool) (hb : ∀ i s, s.length ≤ 1048577 → (∃ x, b i s = .ok (s ++ [x])) ∨ ∃ e, b i s = .error e ∧ CBd e)
  (hf:∀ s,s.length≤1048577→CBd (f s)):∀ (k i:Nat) (s:List Int),s.length≤i→i+k≤1048577→CBd (match yd b k i s with|.error e=>e|.ok s=>f s)
 | 0,i,s,hs,hk=>by simp only[yd];exact hf s (by omega)
 | k+1,i,s,hs,hk=>by
  simp only[yd]
  rcases hb i s (by omega)with⟨x,hx⟩|⟨e,he,hc⟩
  ·rw[hx]
   exact y5q b f hb hf k (i+1) (s++[x]) (by simp only[List.length_append,List.length_singleton];omega) (by omega)
  ·rw[he];exact hc
theorem y6r (b:Nat→Int→Except (Character×Bool) Int) (hb:∀ i s,∃ t,b i s=.ok t) (f:Int→Character×Bool) (hf:∀ k,CBd (f k)) (n i:Nat) (s:Int):CBd (match yd b n i s with|.error e=>e|.ok s=>f s):=by
 cases h:yd b n i s with
 | error e=>
  obtain⟨j,t,_,_,h3⟩:=y6d h
  obtain⟨u,hu⟩:=hb j t
  rw[hu]at h3;cases h3
 | ok t=>exact hf t
theorem y7t (a:List UInt8) (ha:a.length≤1048576):CBd (zf a):=by
  have hdef:CBd (default:Character×Bool):=⟨by show(0:Nat)≤_;omega,by show(0:Nat)≤_;omega,by show(0:Nat)≤_;omega⟩
  have hw:∀ (b:List UInt8×List UInt8×Int→Except (Sum (Character×Bool) (List UInt8×List UInt8×Int)) (List UInt8×List UInt8×Int)) (n:Nat) (s:List UInt8×List UInt8×Int) (f:List UInt8×List UInt8×Int→Character×Bool),
      (∀ s,s.1.length≤1048576∧s.2.1.length≤1048576→match b s with|.error (.inl e)=>False|.error (.inr t)=>t.2.1.length≤1048576|.ok t=>t.1.length≤1048576∧t.2.1.length≤1048576)→(s.1.length≤1048576∧s.2.1.length≤1048576)→(∀ s,s.2.1.length≤1048576→CBd (f s)) →
      CBd (match y6 b n s with|.error (.inl e)=>e|.error (.inr s)=>f s|.ok _=>default):=by
    intro b n s f hb hs hf
    have h:=ypj (body:=b) (I:=fun s=>s.1.length≤1048576∧s.2.1.length≤1048576) (Q:=fun r=>match r with|.inl e=>False|.inr t=>t.2.1.length≤1048576) (fun s hI=>by
      have:=hb s hI
      cases hbs:b s with
      | error r => rw [hbs] at this; cases r with
        | inl e=>exact this
        | inr t=>exact this
      | ok t=>rw[hbs]at this;exact this) n s hs
    cases hl:y6 b n s with
    | error r=>
      rw[hl]at h
      cases r with
      | inl e=>exact h.elim
      | inr t=>exact hf t h
    | ok t=>exact hdef
  have hpar:∀ s:List UInt8×List UInt8×Int,s.1.length≤1048576∧s.2.1.length≤1048576→match yeq a s with|.error (.inl e)=>False|.error (.inr t)=>t.2.1.length≤1048576|.ok t=>t.1.length≤1048576∧t.2.1.length≤1048576:=by
    intro s hs
    unfold yeq
    cases decide (s.2.2<(s.1.length:Int))with
    | false=>exact hs.2
    | true=>
      simp only[cond_true]
      cases((((s.1.getD ((s.2.2).toNat) 0).toNat:Int) == 40) && (((s.1.getD ((IntKind.wrap .i64 ((s.1.length:Int)-1)).toNat) 0).toNat:Int) == 41))with
      | true=>simp only[cond_true,List.length_drop,List.length_take];omega
      | false=>exact hs
  have hsp:∀ s:List UInt8,s.length≤1048576→(za s 43).length≤1048577:=fun s h=>yw s h
  unfold zf
  cases(decide (4<(a.length:Int)) && (((a.take a.length).drop ((IntKind.wrap .i64 ((a.length:Int)-4)).toNat)) == [43,76,70,108]))with
  | true=>
    simp only[cond_true]
    refine hw _ _ _ _ hpar ⟨by simp only[List.length_take];omega,by simp⟩ (fun s hs => ?_)
    refine y6r _ (fun i t => ?_) _ (fun k => ?_) _ _ _
    · unfold yul
      cases(((zm ).getD i default) == s.1)with
      | true=>exact⟨_,rfl⟩
      | false=>exact⟨_,rfl⟩
    · cases(k == 8)with
      | true=>exact⟨by simp,by simp only[cond_true,List.length_append,List.length_singleton];omega,by simp⟩
      | false=>
        simp only[cond_false]
        cases(s.2.1 == [])with
        | true=>exact⟨by simp,by simp,by simp⟩
        | false=>
          simp only[cond_false]
          refine y5q _ (fun t=>({ Kind:=k,Group:=t,Letter:=[76],Colors:=[],Period:=0:Character },_)) (fun i t ht => ?_) (fun t ht=>⟨ht,by simp,by simp⟩) _ 0 [] (by simp) (by have:=hsp _ hs;omega)
          unfold ygk
          cases(!((zg ((za s.2.1 43).getD i default)).2))with
          | true=>exact .inr ⟨_,rfl,ht,by simp,by simp⟩
          | false=>exact .inl ⟨_,rfl⟩
  | false=>
    simp only[cond_false]
    refine hw _ _ _ _ hpar ⟨by simp only;omega,by simp⟩ (fun s hs => ?_)
    refine y6r _ (fun i t => ?_) _ (fun k => ?_) _ _ _
    · unfold y0j
      cases(((zm ).getD i default) == s.1)with
      | true=>exact⟨_,rfl⟩
      | false=>exact⟨_,rfl⟩
    · cases(k == 8)with
      | true=>exact⟨by simp,by simp only[cond_true,List.length_append,List.length_nil];omega,by simp⟩
      | false=>
        simp only[cond_false]
        cases(s.2.1 == [])with
        | true=>exact⟨by simp,by simp,by simp⟩
        | false=>
          simp only[cond_false]
          refine y5q _ (fun t=>({ Kind:=k,Group:=t,Letter:=[],Colors:=[],Period:=0:Character },_)) (fun i t ht => ?_) (fun t ht=>⟨ht,by simp,by simp⟩) _ 0 [] (by simp) (by have:=hsp _ hs;omega)
          unfold yjk
          cases(!((zg ((za s.2.1 43).getD i default)).2))with
          | true=>exact .inr ⟨_,rfl,ht,by simp,by simp⟩
          | false=>exact .inl ⟨_,rfl⟩
theorem y1q (a:List UInt8) (h:a.length≤1048576) (i:Nat):((za a 32).getD i default).length≤1048576:=by
 rw[show za a 32=yl 32 a from y4j a 32 (by omega),List.getD_eq_getElem?_getD]
 cases hg:(yl 32 a)[i]? with
 | none=>show(0:Nat)≤1048576;omega
 | some x=>have:=(y3 32 a).2 x (List.mem_of_getElem? hg);simp only[Option.getD_some];omega
theorem yo4 (a:List UInt8) (h:a.length≤1048576) (k p:Int):bdCharacter { Kind:=k,Group:=(zf ((za a 32).getD 0 default)).1.Group,Letter:=(zf ((za a 32).getD 0 default)).1.Letter,Colors:=(za a 32).getD 1 default,Period:=p }:=by
 obtain⟨h1,h2,_⟩:=y7t _ (y1q a h 0)
 have h3:=y1q a h 1
 exact⟨by show List.length _<_;simp only;omega,by show List.length _<_;simp only;omega,by show List.length _<_;simp only;omega⟩
end Go.Ab

namespace Go.Ab
open Go Go.Proofs
def zqc (a0:(List UInt8)):(Character×Bool):=
 (bif ((((za a0 32).length:Int) != 2) && (((za a0 32).length:Int) != 3))then({ Kind:=0,Group:=[],Letter:=[],Colors:=[],Period:=0:Character },false)else(bif (((za a0 32).length:Int) == 3)then(bif (((!((zf ((za a0 32).getD 0 default)).2 && (zyb ((za a0 32).getD 2 default)).2)) || (!(zlb ({ Kind:=((zf ((za a0 32).getD 0 default)).1).Kind,Group:=((zf ((za a0 32).getD 0 default)).1).Group,Letter:=((zf ((za a0 32).getD 0 default)).1).Letter,Colors:=((za a0 32).getD 1 default),Period:=(zyb ((za a0 32).getD 2 default)).1:Character })))) || ((zcb ({ Kind:=((zf ((za a0 32).getD 0 default)).1).Kind,Group:=((zf ((za a0 32).getD 0 default)).1).Group,Letter:=((zf ((za a0 32).getD 0 default)).1).Letter,Colors:=((za a0 32).getD 1 default),Period:=(zyb ((za a0 32).getD 2 default)).1:Character })) != a0))then({ Kind:=0,Group:=[],Letter:=[],Colors:=[],Period:=0:Character },false)else({ Kind:=((zf ((za a0 32).getD 0 default)).1).Kind,Group:=((zf ((za a0 32).getD 0 default)).1).Group,Letter:=((zf ((za a0 32).getD 0 default)).1).Letter,Colors:=((za a0 32).getD 1 default),Period:=(zyb ((za a0 32).getD 2 default)).1:Character },true))else(bif (((!((zf ((za a0 32).getD 0 default)).2)) || (!(zlb ({ Kind:=((zf ((za a0 32).getD 0 default)).1).Kind,Group:=((zf ((za a0 32).getD 0 default)).1).Group,Letter:=((zf ((za a0 32).getD 0 default)).1).Letter,Colors:=((za a0 32).getD 1 default),Period:=((zf ((za a0 32).getD 0 default)).1).Period:Character })))) || ((zcb ({ Kind:=((zf ((za a0 32).getD 0 default)).1).Kind,Group:=((zf ((za a0 32).getD 0 default)).1).Group,Letter:=((zf ((za a0 32).getD 0 default)).1).Letter,Colors:=((za a0 32).getD 1 default),Period:=((zf ((za a0 32).getD 0 default)).1).Period:Character })) != a0))then({ Kind:=0,Group:=[],Letter:=[],Colors:=[],Period:=0:Character },false)else({ Kind:=((zf ((za a0 32).getD 0 default)).1).Kind,Group:=((zf ((za a0 32).getD 0 default)).1).Group,Letter:=((zf ((za a0 32).getD 0 default)).1).Letter,Colors:=((za a0 32).getD 1 default),Period:=((zf ((za a0 32).getD 0 default)).1).Period:Character },true))))
namespace N233
theorem DD:DOk Tryz.prog (Go.Ab.DD [(165,dP D_za),(199,dP D_zlb),(203,dP D_zcb),(298,dP D_zf),(299,dP D_zyb)]):=ya y9g.e <| ya ywr.e <| ya yn0.e <| ya yj3.e <| ya y90.e <| ye _
theorem dn:type_of% (And.intro @D_za.eq_1 <| And.intro @D_zlb.eq_1 <| And.intro @D_zcb.eq_1 <| And.intro @D_zf.eq_1 <| @D_zyb.eq_1):=by and_intros<;>intros<;>rfl
theorem gr {p:Prop} (h:p:=by(grind [yw,y6b]);first|done|fail):p:=h
theorem o0 {p:Prop} (h:p:=by(first|(have hl9:2≤(za a0 32).length:=by(have q := ‹((((za a0 32).length:Int) != 2) && (((za a0 32).length:Int) != 3))=false›;simp at q;omega);have e0:=hel 0;have e1:=hel 1;have e2:=hel 2;and_intros<;>first|omega|(have hb3:=hb;simp at hb3;omega))|(refine⟨fun _=>⟨Nat.le_refl _,hcb _ _⟩,fun q => ?_⟩;have q2:=q;simp only[Bool.not_eq_true',Bool.or_eq_false_iff,Bool.not_eq_false']at q2;have r:=yvw _ (Nat.lt_of_le_of_lt (hel 1) (by omega)) q2.2;exact⟨Nat.le_refl _,hcb _ _,r.1,r.2.1,r.2.2.1,r.2.2.2.1,r.2.2.2.2.1,r.2.2.2.2.2⟩)|(have hl9:2≤(za a0 32).length:=by(have q := ‹((((za a0 32).length:Int) != 2) && (((za a0 32).length:Int) != 3))=false›;simp at q;omega);have e0:=hel 0;have e1:=hel 1;omega));first|done|fail):p:=h
set_option maxHeartbeats 1000000 in
set_option maxRecDepth 20000 in
theorem den (a0:(List UInt8)) (hb0:a0.length<1099511627776) (hp0:a0.length≤1048576):Den Tryz.prog 233 [.str a0] (.tup [.agg (y8 ((zqc a0).1)),.bool ((zqc a0).2)]):=by
 generalize hR:zqc a0=r
 unfold zqc at hR
 refine di Tryz.func233 Tryz.ntmps233 Tryz.results233 ?_
 intro c hL hc hk
 obtain⟨hL0,_⟩:=hL
 have hw0:a0.length<9223372036854775808:=Nat.lt_succ_of_le hL0
 clear hL0
 simp only[pars,Nat.zero_add]
 have hel:=y1q a0 hp0
 have hcb:=yo4 a0 hp0
 iterate 3 refine rS ?_
 refine AWP.cond rfl (fun hb => ?_) (fun hb => ?_)
 ·replace hR:=ct hR
  refine rS ?_
  refine AWP.ret ?_
  subst hR
  exact es
 ·replace hR:=cf hR
  iterate 3 refine rS ?_
  refine AWP.cond rfl (fun hb => ?_) (fun hb => ?_)
  ·replace hR:=ct hR
   iterate 4 refine rS ?_
   refine AWP.cond rfl (fun hb => ?_) (fun hb => ?_)
   ·replace hR:=ct hR
    refine rS ?_
    refine AWP.ret ?_
    subst hR
    exact es
   ·replace hR:=cf hR
    refine rS ?_
    refine AWP.ret ?_
    subst hR
    exact es
  ·replace hR:=cf hR
   refine rS ?_
   refine AWP.cond rfl (fun hb => ?_) (fun hb => ?_)
   ·replace hR:=ct hR
    refine rS ?_
    refine AWP.ret ?_
    subst hR
    exact es
   ·replace hR:=cf hR
    refine rS ?_
    refine AWP.ret ?_
    subst hR
    exact es
end N233
def D_zqc : DF
 | [x0]=>some (.tup [.agg (y8 ((zqc (rdS x0)).1)),.bool ((zqc (rdS x0)).2)],false,[wS x0,(rdS x0).length<1099511627776,(rdS x0).length≤1048576])
 | _=>none
theorem y3x:OkD Tryz.prog 233 D_zqc:=by unfold D_zqc;exact dk N233.den
end Go.Ab

namespace Go.Ab
open Go Go.Proofs
theorem ya5 (a:List UInt8):yeq a=parB:=rfl
theorem yt2 (a:List UInt8):yqv a=parB:=rfl
def lfl (a:List UInt8):Bool:=(decide (4<(a.length:Int)) && (((a.take a.length).drop ((IntKind.wrap .i64 ((a.length:Int)-4)).toNat)) == [43,76,70,108]))
theorem yql (a:List UInt8):(decide (4<(a.length:Int)) && (((a.take a.length).drop ((IntKind.wrap .i64 ((a.length:Int)-4)).toNat)) == [43,76,70,108]))=lfl a:=rfl
theorem ym3 (X:List UInt8) (hX:X≠[]) (hl:X.length≤1048576):lfl (X++[43,76,70,108])=true∧(X++[43,76,70,108]).take ((IntKind.wrap .i64 (((X++[43,76,70,108]).length:Int)-4)).toNat)=X:=by
 have hp:0<X.length:=List.length_pos_iff.2 hX
 have hw:(IntKind.wrap .i64 (((X++[43,76,70,108]).length:Int)-4)).toNat=X.length:=by
  simp only[List.length_append,List.length_cons,List.length_nil];rw[IntKind.wrap_i64];omega
 unfold lfl
 rw[hw,List.take_length,List.drop_left' rfl,List.take_left' rfl]
 refine⟨?_,rfl⟩
 rw[decide_eq_true (by simp only[List.length_append,List.length_cons,List.length_nil];omega)]
 rfl
theorem yd1 (X:List UInt8) (hl:X.length≤1048576):lfl (X++[41])=false:=by
 unfold lfl
 by_cases h4:4<(((X++[41]).length:Int))
 ·rw[decide_eq_true h4,List.take_length,Bool.true_and,beq_eq_false_iff_ne]
  intro h
  have h2:(X++[41])=((X++[41]).take ((IntKind.wrap .i64 (((X++[41]).length:Int)-4)).toNat)++[43,76,70])++[108]:=by
   conv=>lhs;rw[← List.take_append_drop ((IntKind.wrap .i64 (((X++[41]).length:Int)-4)).toNat) (X++[41]),h]
   simp
  have:=congrArg List.getLast? h2
  rw[List.getLast?_append,List.getLast?_append]at this
  simp at this
 ·rw[decide_eq_false h4];rfl
theorem y13 (k:Int) (h:1≤k∧k≤8):lfl (kt k)=false:=by
 rcases(show k=1∨k=2∨k=3∨k=4∨k=5∨k=6∨k=7∨k=8 by omega)with h|h|h|h|h|h|h|h<;>subst h<;>rfl
theorem yy1 (k:Int) (h:1≤k∧k≤8):(kt k).length≤3∧kt k≠[]:=by
 rcases(show k=1∨k=2∨k=3∨k=4∨k=5∨k=6∨k=7∨k=8 by omega)with h|h|h|h|h|h|h|h<;>subst h<;>exact⟨by decide,by decide⟩
theorem y3m (g:List Int) (h1:g.length≤4) (h2:∀ v∈g,1≤v∧v≤9):(Lib.join (g.map Lib.itoa) [43]).length≤100:=by
 have:=ybg [43] (g.map Lib.itoa) 20 (fun x hx=>by
  obtain⟨z,hz,rfl⟩:=List.mem_map.1 hx
  have:=h2 z hz
  exact ypd z (by omega) (by omega))
 simp only[List.length_map,List.length_singleton]at this
 omega
theorem y4u (c:Character) (h:zbb c=true):(yjd c).length≤200:=by
 have hk:=ybd c h
 obtain⟨g1,g2⟩:=y9c c h
 have:=(yy1 c.Kind hk).1
 have hj:=y3m _ g1 g2
 unfold yjd
 by_cases h8:c.Kind=8
 ·rw[if_pos h8]
  have:=(y1k c h h8).2.1
  have:(kt 8).length=2:=rfl
  simp only[List.length_append,List.length_cons,List.length_nil];omega
 ·rw[if_neg h8]
  have hg:(grpT c.Group).length≤102:=by
   unfold grpT
   split
   ·simp
   ·simp only[List.length_append,List.length_cons,List.length_nil];omega
  have hL:(if c.Letter=[]then([]:List UInt8)else[43,76,70,108]).length≤4:=by split<;>simp
  rw[List.length_append,List.length_append];omega
theorem yzv (c:Character) (h:zbb c=true):zf (yjd c)=({ Kind:=c.Kind,Group:=c.Group,Letter:=c.Letter,Colors:=[],Period:=0:Character },true):=by
 have hk:=ybd c h
 obtain⟨g1,g2⟩:=y9c c h
 have h40:=(yq3 c.Kind hk).1
 have hkl:=yy1 c.Kind hk
 have hjl:=y3m _ g1 g2
 have hkp:decide (0<c.Kind)=true:=decide_eq_true (by omega)
 have hlen:=y4u c h
 unfold yjd at hlen ⊢
 by_cases h8:c.Kind=8
 ·obtain⟨f1,f2⟩:=y1k c h h8
  rw[if_pos h8]at hlen ⊢
  rw[f1,h8]
  have eH:kt 8++40::(c.Letter++[41])=(kt 8++40::c.Letter)++[41]:=by simp
  have n1:lfl (kt 8++40::(c.Letter++[41]))=false:=by
   rw[eH];exact yd1 _ (by simp only[List.length_append,List.length_cons,List.length_nil]at hlen ⊢;omega)
  have hw:=yfg (kt 8) c.Letter (by decide) (by omega) 2 0 ((((kt 8++40::(c.Letter++[41])).length:Int)-0).toNat+1) rfl (by simp only[List.length_append,List.length_cons,List.length_nil];omega)
  have hks:∀ s:List UInt8×Int,yd (y0j (kt 8++40::(c.Letter++[41])) (kt 8,s)) (((zm ).length)-1) 1 0=.ok 8:=fun s=>ydm 8 (by omega) _ (fun i t=>rfl)
  unfold zf
  rw[yql,n1,yt2]
  simp only[cond_false]
  rw[show((kt 8++40::(c.Letter++[41]),([]:List UInt8),(0:Int)))=(kt 8++40::(c.Letter++[41]),[],((0:Nat):Int))from rfl,hw]
  simp only[hks]
  rfl
 ·have e8:(c.Kind == 8)=false:=by rw[beq_eq_false_iff_ne];exact h8
  rw[if_neg h8]at hlen ⊢
  by_cases hL:c.Letter=[]
  ·rw[if_pos hL,List.append_nil]at hlen ⊢
   rw[hL]
   by_cases hg:c.Group=[]
   ·have eg:grpT c.Group=[]:=by rw[hg];rfl
    rw[eg,List.append_nil,hg]
    have hw:=yrt (kt c.Kind) h40 (by omega) (kt c.Kind).length 0 ((((kt c.Kind).length:Int)-0).toNat+1) (by omega) (by omega)
    have hks:∀ s:List UInt8×Int,yd (y0j (kt c.Kind) (kt c.Kind,s)) (((zm ).length)-1) 1 0=.ok c.Kind:=fun s=>ydm c.Kind hk _ (fun i t=>rfl)
    unfold zf
    rw[yql,y13 _ hk,yt2]
    simp only[cond_false]
    rw[show((kt c.Kind,([]:List UInt8),(0:Int)))=(kt c.Kind,[],((0:Nat):Int))from rfl,hw]
    simp only[hks,e8,cond_false]
    rw[hkp];rfl
   ·have eg:grpT c.Group=40::(Lib.join (c.Group.map Lib.itoa) [43]++[41]):=by unfold grpT;rw[if_neg hg]
    rw[eg]at hlen ⊢
    have hsp:za (Lib.join (c.Group.map Lib.itoa) [43]) 43=c.Group.map Lib.itoa:=by
     rw[show za (Lib.join (c.Group.map Lib.itoa) [43]) 43=yl 43 (Lib.join (c.Group.map Lib.itoa) [43])from y4j _ 43 (by omega)]
     exact yud _ hg g2
    have hJ0:(Lib.join (c.Group.map Lib.itoa) [43] == [])=false:=by
     rw[beq_eq_false_iff_ne]
     intro h0
     have:=yud _ hg g2
     rw[h0]at this
     cases hgg:c.Group with
     | nil=>exact hg hgg
     | cons x r=>
      rw[hgg]at this
      simp only[yl,List.map_cons,List.cons.injEq]at this
      exact(y1j x).2 this.1.symm
    generalize hJ:Lib.join (c.Group.map Lib.itoa) [43]=J at *
    have eH:kt c.Kind++40::(J++[41])=(kt c.Kind++40::J)++[41]:=by simp
    have n1:lfl (kt c.Kind++40::(J++[41]))=false:=by
     rw[eH];exact yd1 _ (by simp only[List.length_append,List.length_cons,List.length_nil]at hlen ⊢;omega)
    have hw:=yfg (kt c.Kind) J h40 (by omega) (kt c.Kind).length 0 ((((kt c.Kind++40::(J++[41])).length:Int)-0).toNat+1) (by omega) (by simp only[List.length_append,List.length_cons,List.length_nil];omega)
    have hks:∀ s:List UInt8×Int,yd (y0j (kt c.Kind++40::(J++[41])) (kt c.Kind,s)) (((zm ).length)-1) 1 0=.ok c.Kind:=fun s=>ydm c.Kind hk _ (fun i t=>rfl)
    have hgs:∀ (p:List UInt8) (q k:Int),yd (yjk (kt c.Kind++40::(J++[41])) (p,J,q) k) ((c.Group.map Lib.itoa).length-0) 0 []=.ok c.Group:=fun p q k=>y73 c.Group g2 (fun i t=>({ Kind:=k,Group:=t,Letter:=[],Colors:=[],Period:=0:Character },false)) _ (fun i t=>by unfold yjk;simp only;rw[hsp])
    unfold zf
    rw[yql,n1,yt2]
    simp only[cond_false]
    rw[show((kt c.Kind++40::(J++[41]),([]:List UInt8),(0:Int)))=(kt c.Kind++40::(J++[41]),[],((0:Nat):Int))from rfl,hw]
    simp only[hks,e8,cond_false,hJ0,hsp,hgs,hkp]
  ·obtain⟨l1,l2⟩:=yow c h h8 hL
   rw[if_neg hL]at hlen ⊢
   have hg:c.Group≠[]:=by rw[l2];simp
   have eg:grpT c.Group=40::(Lib.join (c.Group.map Lib.itoa) [43]++[41]):=by unfold grpT;rw[if_neg hg]
   rw[eg]at hlen ⊢
   have hsp:za (Lib.join (c.Group.map Lib.itoa) [43]) 43=c.Group.map Lib.itoa:=by
    rw[show za (Lib.join (c.Group.map Lib.itoa) [43]) 43=yl 43 (Lib.join (c.Group.map Lib.itoa) [43])from y4j _ 43 (by omega)]
    exact yud _ hg g2
   have hJ0:(Lib.join (c.Group.map Lib.itoa) [43] == [])=false:=by
    rw[beq_eq_false_iff_ne]
    intro h0
    have:=yud _ hg g2
    rw[h0,l2]at this
    simp only[yl,List.map_cons,List.cons.injEq]at this
    exact(y1j 6).2 this.1.symm
   generalize hJ:Lib.join (c.Group.map Lib.itoa) [43]=J at *
   have eH:kt c.Kind++(40::(J++[41])++[43,76,70,108])=(kt c.Kind++40::(J++[41]))++[43,76,70,108]:=by simp
   rw[eH]at hlen ⊢
   rw[l1]
   have hl2:(kt c.Kind++40::(J++[41])).length≤1048576:=by rw[List.length_append]at hlen;omega
   obtain⟨y1,y2⟩:=ym3 (kt c.Kind++40::(J++[41])) (by simp) hl2
   have hw:=yfg (kt c.Kind) J h40 hl2 (kt c.Kind).length 0 (((((kt c.Kind++40::(J++[41]))++[43,76,70,108]).length:Int)-0).toNat+1) (by omega) (by simp only[List.length_append,List.length_cons,List.length_nil];omega)
   have hks:∀ s:List UInt8×Int,yd (yul ((kt c.Kind++40::(J++[41]))++[43,76,70,108]) (kt c.Kind,s)) (((zm ).length)-1) 1 0=.ok c.Kind:=fun s=>ydm c.Kind hk _ (fun i t=>rfl)
   have hgs:∀ (p:List UInt8) (q k:Int),yd (ygk ((kt c.Kind++40::(J++[41]))++[43,76,70,108]) (p,J,q) k) ((c.Group.map Lib.itoa).length-0) 0 []=.ok c.Group:=fun p q k=>y73 c.Group g2 (fun i t=>({ Kind:=k,Group:=t,Letter:=[76],Colors:=[],Period:=0:Character },false)) _ (fun i t=>by unfold ygk;simp only;rw[hsp])
   unfold zf
   rw[yql,y1,y2,ya5]
   simp only[cond_true]
   rw[show((kt c.Kind++40::(J++[41]),([]:List UInt8),(0:Int)))=(kt c.Kind++40::(J++[41]),[],((0:Nat):Int))from rfl,hw]
   simp only[hks,e8,cond_false,hJ0,hsp,hgs,hkp]
end Go.Ab

namespace Go.Ab
open Go Go.Proofs
theorem ykz {n m:Int} (h1:0<n) (h2:n≤600) (h3:0<m) (h4:m≤600) (h:secT n=secT m):n=m:=by
 have e1:=yxm n h1 h2
 rw[h,yxm m h3 h4]at e1
 exact(congrArg Prod.fst e1).symm
theorem yft (p : Int) (h1 : 0 < p) (h2 : p ≤ 600) : ∀ (k n : Nat) (i : Int), 1 ≤ i → i + k = p → k < n → y6 (y8j (secT p ++ [115])) n i = .error (.inl (p, true))
 | k,0,i,_,_,h=>by omega
 | 0,n+1,i,hi,he,_=>by
  have e:i=p:=by omega
  subst e
  simp only[y6,y8j]
  rw[decide_eq_true h2,yvl _ (by omega) h2]
  simp
 | k+1,n+1,i,hi,he,hn=>by
  have hne:(zqb i == secT p++[115])=false:=by
   rw[beq_eq_false_iff_ne,yvl _ (by omega) (by omega)]
   intro h
   have:=ykz (by omega) (by omega) h1 h2 (List.append_cancel_right h)
   omega
  have hw:IntKind.wrap .i64 (i+1)=i+1:=by rw[IntKind.wrap_i64];omega
  have:=yft p h1 h2 k n (i+1) (by omega) (by omega) (by omega)
  simp only[y6,y8j]
  rw[decide_eq_true (show i≤600 by omega),hne,hw]
  simp only[cond_true,cond_false]
  exact this
theorem ykq (p:Int) (h1:0<p) (h2:p≤600):zyb (secT p++[115])=(p,true):=by
 unfold zyb
 rw[yft p h1 h2 (p-1).toNat _ 1 (by omega) (by omega) (by omega)]
theorem yc3 (p:Int) (h1:0<p) (h2:p≤600):(32:UInt8)∉secT p++[115]:=by
 intro hm
 rcases List.mem_append.1 hm with hm|hm
 ·unfold secT at hm
  split at hm
  ·exact y2d (by omega) 32 (by decide) hm
  ·rcases List.mem_append.1 hm with hm|hm
   ·exact y2d (by omega) 32 (by decide) hm
   ·rcases List.mem_cons.1 hm with hm|hm
    ·exact absurd hm (by decide)
    ·exact y2d (by omega) 32 (by decide) hm
 ·rw[List.mem_singleton]at hm;exact absurd hm (by decide)
theorem yix (c:Character) (h:zw c=true) (hl:c.Colors.length<9223372036854775808) (ha:(chrT c).length≤1048576):zqc (chrT c)=(c,true):=by
 have hf:=yxb c h
 have hr:=yzv c hf
 have hp:=y4c c h
 have hp2:=(ync c h).2.2
 have hcol:=yip _ (yxh c h hl)
 have hok:zlb c=true:=by rw[← y6e c hl];exact h
 have htext:=yaj c h
 have hsp:za (chrT c) 32=yl 32 (chrT c):=y4j _ 32 (by omega)
 unfold zqc
 by_cases h0:c.Period=0
 ·have e1:za (chrT c) 32=[yjd c,c.Colors]:=by
   rw[hsp];unfold chrT
   rw[h0,show perT 0=[]from rfl,List.append_nil,ykb 32 _ _ (y2p c hf),ylb 32 _ hcol]
  rw[e1]
  have ec:({ Kind:=c.Kind,Group:=c.Group,Letter:=c.Letter,Colors:=c.Colors,Period:=0:Character })=c:=by rw[← h0]
  have n2:((([yjd c,c.Colors]:List (List UInt8)).length:Int) != 2)=false:=rfl
  have n3:((([yjd c,c.Colors]:List (List UInt8)).length:Int) == 3)=false:=rfl
  rw[n2,n3]
  simp only[Bool.false_and,cond_false,List.getD_cons_zero,List.getD_cons_succ]
  rw[hr]
  simp only[ec,hok,htext]
  simp
 ·have e2:perT c.Period=32::(secT c.Period++[115]):=by unfold perT;rw[if_neg h0]
  have e1:za (chrT c) 32=[yjd c,c.Colors,secT c.Period++[115]]:=by
   rw[hsp];unfold chrT
   rw[e2,ykb 32 _ _ (y2p c hf),ykb 32 _ _ hcol,ylb 32 _ (yc3 _ (by omega) hp2)]
  rw[e1]
  have n2:((([yjd c,c.Colors,secT c.Period++[115]]:List (List UInt8)).length:Int) != 3)=false:=rfl
  have n3:((([yjd c,c.Colors,secT c.Period++[115]]:List (List UInt8)).length:Int) == 3)=true:=rfl
  rw[n2,n3]
  simp only[Bool.and_false,cond_false,cond_true,List.getD_cons_zero,List.getD_cons_succ]
  rw[hr,ykq _ (by omega) hp2]
  have ec:({ Kind:=c.Kind,Group:=c.Group,Letter:=c.Letter,Colors:=c.Colors,Period:=c.Period:Character })=c:=rfl
  simp only[ec,hok,htext]
  simp
theorem ydg (a:List UInt8):zqc a=({ Kind:=0,Group:=[],Letter:=[],Colors:=[],Period:=0:Character },false)∨∃ c,zlb c=true∧zcb c=a∧(∃ i,c.Colors=(za a 32).getD i default)∧zqc a=(c,true):=by
 unfold zqc
 generalize za a 32=w
 cases hA:(((w.length:Int) != 2) && ((w.length:Int) != 3))with
 | true=>left;rfl
 | false=>
  simp only[cond_false]
  cases((w.length:Int) == 3)with
  | true=>
   simp only[cond_true]
   generalize hc:({ Kind:=((zf (w.getD 0 default)).1).Kind,Group:=((zf (w.getD 0 default)).1).Group,Letter:=((zf (w.getD 0 default)).1).Letter,Colors:=(w.getD 1 default),Period:=(zyb (w.getD 2 default)).1:Character })=c
   cases hv:zlb c with
   | false=>left;simp
   | true=>
    by_cases ht:zcb c=a
    ·cases hq:((zf (w.getD 0 default)).2 && (zyb (w.getD 2 default)).2)with
     | true=>right;exact⟨c,hv,ht,⟨1,by rw[← hc]⟩,by simp[ht]⟩
     | false=>left;simp
    ·left
     have:(zcb c != a)=true:=by simpa using ht
     rw[this];simp
  | false=>
   simp only[cond_false]
   generalize hc:({ Kind:=((zf (w.getD 0 default)).1).Kind,Group:=((zf (w.getD 0 default)).1).Group,Letter:=((zf (w.getD 0 default)).1).Letter,Colors:=(w.getD 1 default),Period:=((zf (w.getD 0 default)).1).Period:Character })=c
   cases hv:zlb c with
   | false=>left;simp
   | true=>
    by_cases ht:zcb c=a
    ·cases hq:(zf (w.getD 0 default)).2 with
     | true=>right;exact⟨c,hv,ht,⟨1,by rw[← hc]⟩,by simp[ht]⟩
     | false=>left;simp
    ·left
     have:(zcb c != a)=true:=by simpa using ht
     rw[this];simp
theorem yfr (a:List UInt8) (ha:a.length≤1048576):zlc a=zqc a:=by
 rcases ypg a with h|⟨c,hv,ht,hr⟩
 ·rcases ydg a with g|⟨c,hv,ht,⟨i,hci⟩,hr⟩
  ·rw[h,g]
  ·have hl:c.Colors.length<9223372036854775808:=by
    rw[hci,y4j a 32 (by omega) |> (fun e=>(e:za a 32=yl 32 a))]
    rw[List.getD_eq_getElem?_getD]
    cases hg:(yl 32 a)[i]? with
    | none=>show(0:Nat)<_;omega
    | some x=>have:=(y3 32 a).2 x (List.mem_of_getElem? hg);simp only[Option.getD_some];omega
   rw[← y6e c hl]at hv
   have hT:=yaj c hv
   rw[hT]at ht
   rw[hr, ← ht,yjw c hv hl]
 ·have hT:=ycj c hv
  rw[hT]at ht
  have hl:c.Colors.length<9223372036854775808:=by
   have:c.Colors.length≤(chrT c).length:=by unfold chrT;simp only[List.length_append,List.length_cons];omega
   rw[ht]at this;omega
  rw[hr, ← ht,yix c hv hl (by rw[ht];exact ha)]
end Go.Ab


namespace Go.Ab
open Go Go.Proofs
def y4q (a0:(List Int)) (a1:Int) (i1:Nat) (s1:Int×List Int):Except (Int×(List Int)) (Int×List Int):=
 .ok (IntKind.wrap .i64 (s1.1+1),s1.2.set i1 s1.1)
def zp (a0:(List Int)) (a1:Int):Int×(List Int):=
 (match yd (y4q a0 a1) (a0.length-0) 0 (a1,a0)with|.error e=>e|.ok s1=>(s1.1,s1.2))
namespace N121
theorem DD:DOk Tryz.prog (Go.Ab.DD []):=ye _
theorem den (a0:(List Int)) (a1:Int)  : DenM Tryz.prog 121 [ownL 2 1 yq a0,.int .i64 a1] (.int .i64 ((zp a0 a1).1)) [(ownL 2 1 yq ((zp a0 a1).2)),.any]:=by
 generalize hR:zp a0 a1=r
 unfold zp at hR
 refine dj (gb:=[true,false]) Tryz.func121 Tryz.ntmps121 Tryz.results121 ?_
 intro c hL hc hk
 obtain⟨hL0,hL1,_⟩:=hL
 have hw0:a0.length<9223372036854775808:=Nat.lt_succ_of_le (y2c hL0).1
 clear hL0 hL1
 simp only[adEL,adE,adRL,adR,ownL,encL,sv,List.nil_append,List.append_nil,List.cons_append,List.length_cons,List.length_nil,pars,Nat.zero_add,Nat.reduceAdd]at hk ⊢
 iterate 2 refine rS ?_
 refine AWP.block ?_
 generalize hz1:yd (y4q a0 a1) (a0.length-0) 0 (a1,a0)=z1 at hR
 refine AWP.range (y4q a0 a1) (fun i1 s1=>⟨[(0,.ref 0 1 0 s1.2.length),(1,.int .i64 s1.1),(5,.int .i64 (i1:Int))],[.arr 2 1 s1.2.length (fun j=>yq (s1.2.getD j default))]⟩) (fun i1 s1=>s1.2.length=a0.length) (a0.length) 0 (a1,a0) [0] hz1 ot wt sm ?_
 clear hz1
 intro i1 s1 hi1 hW1 hz1
 refine rS ?_
 refine AWP.cond rfl (fun hb => ?_) (fun hb => ?_)
 ·have hlt1:i1<a0.length:=ot
  rw[yh hlt1]at hz1;simp only[y4q]at hz1
  iterate 3 refine rS ?_
  exact⟨_,[0],hlt1,wt,hz1,sm⟩
 ·obtain rfl:i1=a0.length:=ot
  rw[yg (Nat.le_refl _)]at hz1;subst hz1;dsimp only at hR
  refine AWP.exit ?_;refine yb ?_
  refine rS ?_
  refine AWP.ret ?_
  subst hR
  exact es
end N121
def D_zp : List AV → Option (AV × List AV × List Prop)
 | [x0,x1]=>some (.int .i64 ((zp (rdL ywb x0) (rdI x1)).1),[(ownL 2 1 yq ((zp (rdL ywb x0) (rdI x1)).2)),.any],[wO 2 1 yq ywb x0,wI .i64 x1])
 | _=>none
theorem yo3:OkM Tryz.prog 121 D_zp:=by unfold D_zp;exact dm N121.den
end Go.Ab

namespace Go.Ab
open Go Go.Proofs
def ynj (a0:(List Int)) (a1:Int) (i1:Nat) (s1:Int):Except (Int) (Int):=
 (bif ((a0.getD i1 default) != s1)then .error (-1)else .ok (IntKind.wrap .i64 (s1+1)))
def zac (a0:(List Int)) (a1:Int):Int:=
 (match yd (ynj a0 a1) (a0.length-0) 0 a1 with|.error e=>e|.ok s1=>s1)
namespace N161
theorem DD:DOk Tryz.prog (Go.Ab.DD []):=ye _
theorem den (a0:(List Int)) (a1:Int)  : Den Tryz.prog 161 [encL 1 yq a0,.int .i64 a1] (.int .i64 (zac a0 a1)):=by
 generalize hR:zac a0 a1=r
 unfold zac at hR
 refine di Tryz.func161 Tryz.ntmps161 Tryz.results161 ?_
 intro c hL hc hk
 obtain⟨hL0,hL1,_⟩:=hL
 have hw0:a0.length<9223372036854775808:=Nat.lt_succ_of_le (ym hL0).1
 clear hL0 hL1
 simp only[pars,Nat.zero_add]
 iterate 2 refine rS ?_
 refine AWP.block ?_
 generalize hz1:yd (ynj a0 a1) (a0.length-0) 0 a1=z1 at hR
 refine AWP.range (ynj a0 a1) (fun i1 s1=>⟨[(0,encL 1 yq a0),(1,.int .i64 s1),(5,.int .i64 (i1:Int))],[]⟩) (fun i1 s1=>True) (a0.length) 0 a1 [] hz1 ot wt sm ?_
 clear hz1
 intro i1 s1 hi1 hW1 hz1
 refine rS ?_
 refine AWP.cond rfl (fun hb => ?_) (fun hb => ?_)
 ·have hlt1:i1<a0.length:=ot
  rw[yh hlt1]at hz1;simp only[ynj]at hz1
  refine rS ?_
  refine AWP.cond rfl (fun hb => ?_) (fun hb => ?_)
  ·simp only[hb,cond_true]at hz1
   refine rS ?_
   refine AWP.ret ?_
   subst hz1
   dsimp only at hR
   subst hR
   exact es
  ·simp only[hb,cond_false]at hz1
   iterate 2 refine rS ?_
   exact⟨_,[],hlt1,wt,hz1,sm⟩
 ·obtain rfl:i1=a0.length:=ot
  rw[yg (Nat.le_refl _)]at hz1;subst hz1;dsimp only at hR
  refine AWP.exit ?_;refine yb ?_
  refine rS ?_
  refine AWP.ret ?_
  subst hR
  exact es
end N161
def D_zac : DF
 | [x0,x1]=>some (.int .i64 (zac (rdL ywb x0) (rdI x1)),false,[wL 1 yq ywb x0,wI .i64 x1])
 | _=>none
theorem ybz:OkD Tryz.prog 161 D_zac:=by unfold D_zac;exact dk N161.den
end Go.Ab

namespace Go.Ab
open Go Go.Proofs
def yte (v:Int):Int:=v
theorem yzh (a:List Int) (k:Int):(zp a k).2.length=a.length:=by
 unfold zp
 obtain⟨t,h1,h2⟩:=y5 (b:=y4q a k) (fun _ s=>s.2.length=a.length) (k:=a.length-0) (i:=0) (s:=(k,a)) rfl (by
  intro j u _ _ h
  exact⟨_,rfl,by simpa using h⟩)
 rw[h1]
 exact h2
theorem yrs (a:List Int) (k:Int):subL (zp a k).2 0 a.length=(zp a k).2:=by
 rw[← yzh a k];exact ybe _
theorem yy4 (a:List Int) (k:Int) (h0:0≤k) (h1:k+1 * a.length<4611686018427387904):zp a k=(k+1 * a.length,(List.range a.length).map (fun j:Nat=>yte (k+1 * j))):=by
 unfold zp
 obtain⟨t,q1,q2,q3,q4⟩:=y5 (b:=y4q a k) (fun i s=>s.1=k+1 * i∧s.2.length=a.length∧∀ j,j<i→s.2.getD j default=yte (k+1 * j)) (k:=a.length-0) (i:=0) (s:=(k,a)) ⟨by simp,rfl,by intro j hj;omega⟩ (by
  intro j u _ hj ⟨h2,h3,h4⟩
  have w1:∀ m:Int,0≤m→m<4611686018427387904→IntKind.wrap .i64 (m+1)=m+1:=by intro m _ _;rw[IntKind.wrap_i64];omega
  have w0:∀ m:Int,0≤m→m<4611686018427387904→IntKind.wrap .i64 m=m:=by intro m _ _;rw[IntKind.wrap_i64];omega
  refine⟨_,rfl,?_,?_,?_⟩
  ·simp only[h2,IntKind.wrap_i64];omega
  ·simpa using h3
  ·intro q hq
   simp only
   rw[yop]
   by_cases h:q=j
   ·subst h
    rw[if_pos ⟨rfl,by omega⟩,h2]
    simp only[yte]
    all_goals (try rw[Int.mk.injEq])
    all_goals (and_intros<;>first|rfl|trivial|(simp only[IntKind.wrap_i64];omega)|(congr 1;(simp only[IntKind.wrap_i64];omega)))
   ·rw[if_neg (fun hh=>h hh.1)]
    exact h4 q (by omega))
 rw[q1]
 simp only[Nat.zero_add,Nat.sub_zero]at q2 q4
 simp only[q2]
 congr 1
 apply ylt
 ·simpa using q3
 ·intro i hi
  rw[q4 i (by omega)]
  simp[List.getD_eq_getElem?_getD]
  rw[List.getElem?_range (by omega)]
  rfl
theorem zp_k (a:List Int) (k:Int) (h0:0≤k) (h1:k≤1152921504606846976) (hl:a.length<1099511627776):(zp a k).1=k+1 * a.length:=by
 rw[yy4 a k h0 (by omega)]
theorem y10 (a:List Int) (k:Int) (h0:0≤k) (hk:k≤1152921504606846976) (h1:a.length<1099511627776):zac (zp a k).2 k=(zp a k).1∧¬ (zp a k).1<0:=by
 rw[yy4 a k h0 (by omega)]
 refine⟨?_,by simp only;omega⟩
 simp only
 unfold zac
 obtain⟨t,q1,q2⟩:=y5 (b:=ynj ((List.range a.length).map (fun j:Nat=>yte (k+1 * j))) k) (fun i s=>s=k+1 * (i:Int)) (k:=((List.range a.length).map (fun j:Nat=>yte (k+1 * j))).length-0) (i:=0) (s:=k) (by simp) (by
  intro j u _ hj h2
  have hj2:j<a.length:=by simpa using hj
  have hg:((List.range a.length).map (fun j:Nat=>yte (k+1 * j))).getD j default=yte (k+1 * j):=by
   simp[List.getD_eq_getElem?_getD,hj2]
  subst h2
  refine⟨k+1 * ((j+1:Nat):Int),?_,rfl⟩
  have e1:∀ m:Int,0≤m→m<4611686018427387904→(m+9223372036854775808) % 18446744073709551616-9223372036854775808=m:=by intro m _ _;omega
  simp only[ynj]
  simp only[hg]
  simp only[yte,IntKind.wrap_i64]
  (repeat rw[e1 _ (by omega) (by omega)])
  simp only[Int.add_assoc,Int.reduceAdd,bne_self_eq_false,cond_false,Except.ok.injEq]
  omega)
 rw[q1]
 simp only[q2]
 simp
end Go.Ab

namespace Go.Ab
open Go Go.Proofs
def zv (a0:Character) (a1:Int):Int×Character:=
 (((zp a0.Group a1).1),{ a0 with Group:=(zp a0.Group a1).2 })
namespace N139
theorem DD:DOk Tryz.prog (Go.Ab.DD [(121,dM [true,false] D_zp)]):=ya yo3.e <| ye _
theorem dn:type_of% (And.intro @D_zp.eq_1 <| @yrs):=And.intro @D_zp.eq_1 <| @yrs
theorem ol:type_of% (@yzh):=@yzh
theorem gr {p:Prop} (h:p:=by(grind [yzh]);first|done|fail):p:=h
theorem o1 {p:Prop} (h:p:=by(first|exact mrg);first|done|fail):p:=h
theorem den (a0:Character) (a1:Int) (hp0:a1≤9223372036854775807):DenM Tryz.prog 139 [.agg (y8 a0),.int .i64 a1] (.int .i64 ((zv a0 a1).1)) [(.agg [.any,(ownL 2 1 yq (((zv a0 a1).2).Group)),.any,.any,.any]),.any]:=by
 generalize hR:zv a0 a1=r
 unfold zv at hR
 refine dj (gb:=[true,false]) Tryz.func139 Tryz.ntmps139 Tryz.results139 ?_
 intro c hL hc hk
 obtain⟨hL0,hL1,_⟩:=hL
 have hw0:bwCharacter a0:=yxj a0 hL0
 clear hL0 hL1
 simp only[adEL,adE,adRL,adR,ownL,encL,sv,List.nil_append,List.append_nil,List.cons_append,List.length_cons,List.length_nil,pars,Nat.zero_add,Nat.reduceAdd]at hk ⊢
 iterate 3 refine rS ?_
 refine AWP.ret ?_
 subst hR
 exact es
end N139
def D_zv : List AV → Option (AV × List AV × List Prop)
 | [x0,x1]=>some (.int .i64 ((zv (rdG yc x0) (rdI x1)).1),[(.agg [.any,(ownL 2 1 yq (((zv (rdG yc x0) (rdI x1)).2).Group)),.any,.any,.any]),.any],[wGO y8 yc x0,wI .i64 x1,(rdI x1)≤9223372036854775807])
 | _=>none
theorem yh2:OkM Tryz.prog 139 D_zv:=by unfold D_zv;exact dm N139.den
end Go.Ab

namespace Go.Ab
open Go Go.Proofs
def znd (a0:Character) (a1:Int):Int:=
 (bif decide ((zac a0.Group a1)<0)then(-1)else(zac a0.Group a1))
namespace N140
theorem DD:DOk Tryz.prog (Go.Ab.DD [(161,dP D_zac)]):=ya ybz.e <| ye _
theorem dn:type_of% (And.intro @D_zac.eq_1 <| @yrs):=And.intro @D_zac.eq_1 <| @yrs
theorem ol:type_of% (@yzh):=@yzh
theorem gr {p:Prop} (h:p:=by(grind [yzh]);first|done|fail):p:=h
theorem o1 {p:Prop} (h:p:=by(first|exact mrg);first|done|fail):p:=h
theorem den (a0:Character) (a1:Int) (hp0:a1≤9223372036854775807):Den Tryz.prog 140 [.agg (yf a0),.int .i64 a1] (.int .i64 (znd a0 a1)):=by
 generalize hR:znd a0 a1=r
 unfold znd at hR
 refine di Tryz.func140 Tryz.ntmps140 Tryz.results140 ?_
 intro c hL hc hk
 obtain⟨hL0,hL1,_⟩:=hL
 have hw0:bwCharacter a0:=yn a0 hL0
 clear hL0 hL1
 simp only[pars,Nat.zero_add]
 iterate 3 refine rS ?_
 refine AWP.cond rfl (fun hb => ?_) (fun hb => ?_)
 ·replace hR:=ct hR
  refine rS ?_
  refine AWP.ret ?_
  subst hR
  exact es
 ·replace hR:=cf hR
  refine rS ?_
  refine AWP.ret ?_
  subst hR
  exact es
end N140
def D_znd : DF
 | [x0,x1]=>some (.int .i64 (znd (rdG yc x0) (rdI x1)),false,[wG yf yc x0,wI .i64 x1,(rdI x1)≤9223372036854775807])
 | _=>none
theorem yz0:OkD Tryz.prog 140 D_znd:=by unfold D_znd;exact dk N140.den
end Go.Ab

namespace Go.Ab
open Go Go.Proofs
theorem zv_k (a:Character) (k:Int) (h0:0≤k) (h1:k≤1073741824) (b1:a.Group.length<1099511627776):(zv a k).1=k+1 * a.Group.length:=by
 unfold zv
 simp only
 rw[zp_k _ _ (by omega) (by omega) b1]
theorem y6h (a:Character) (k:Int):(zv a k).2.Group.length=a.Group.length:=by
 unfold zv
 simp only[yzh]
theorem yyr (a:Character) (k:Int):subL (zv a k).2.Group 0 a.Group.length=(zv a k).2.Group:=by
 rw[← y6h a k];exact ybe _
theorem y3z (a:Character) (k:Int) (h0:0≤k) (h1:k≤1073741824) (b1:a.Group.length<1099511627776):znd (zv a k).2 k=(zv a k).1∧¬ (zv a k).1<0:=by
 have hk:=zv_k a k h0 h1 b1
 refine⟨?_,by omega⟩
 rw[hk]
 have e1:=y10 a.Group k h0 (by omega) b1
 have e3:=zp_k a.Group k h0 (by omega) b1
 unfold znd zv
 simp only[e1.1]
 rw[decide_eq_false e1.2]
 simp only[cond_false]
 omega
end Go.Ab

namespace Go.Ab
open Go Go.Proofs
def ymk (a0:(List Int)) (a1:(List Int)) (i1:Nat) (s1:Unit):Except (Bool) (Unit):=
 (bif ((a0.getD i1 default) != (a1.getD i1 default))then .error false else .ok ())
def zzc (a0:(List Int)) (a1:(List Int)):Bool:=
 (bif ((a0.length:Int) != (a1.length:Int))then false else(match yd (ymk a0 a1) (a0.length-0) 0 ()with|.error e=>e|.ok s1=>true))
namespace N220
theorem DD:DOk Tryz.prog (Go.Ab.DD []):=ye _
theorem den (a0:(List Int)) (a1:(List Int))  : Den Tryz.prog 220 [encL 1 yq a0,encL 1 yq a1] (.bool (zzc a0 a1)):=by
 generalize hR:zzc a0 a1=r
 unfold zzc at hR
 refine di Tryz.func220 Tryz.ntmps220 Tryz.results220 ?_
 intro c hL hc hk
 obtain⟨hL0,hL1,_⟩:=hL
 have hw0:a0.length<9223372036854775808:=Nat.lt_succ_of_le (ym hL0).1
 have hw1:a1.length<9223372036854775808:=Nat.lt_succ_of_le (ym hL1).1
 clear hL0 hL1
 simp only[pars,Nat.zero_add]
 iterate 2 refine rS ?_
 refine AWP.cond rfl (fun hb => ?_) (fun hb => ?_)
 ·replace hR:=ct hR
  refine rS ?_
  refine AWP.ret ?_
  subst hR
  exact es
 ·replace hR:=cf hR
  refine rS ?_
  refine AWP.block ?_
  generalize hz1:yd (ymk a0 a1) (a0.length-0) 0 ()=z1 at hR
  refine AWP.range (ymk a0 a1) (fun i1 s1=>⟨[(0,encL 1 yq a0),(1,encL 1 yq a1),(5,.int .i64 (i1:Int))],[]⟩) (fun i1 s1=>True) (a0.length) 0 () [] hz1 ot wt sm ?_
  clear hz1
  intro i1 s1 hi1 hW1 hz1
  refine rS ?_
  refine AWP.cond rfl (fun hb => ?_) (fun hb => ?_)
  ·have hlt1:i1<a0.length:=ot
   rw[yh hlt1]at hz1;simp only[ymk]at hz1
   refine rD 8 ?_
   refine AWP.cond rfl (fun hb => ?_) (fun hb => ?_)
   ·simp only[hb,cond_true]at hz1
    refine rS ?_
    refine AWP.ret ?_
    subst hz1
    dsimp only at hR
    subst hR
    exact es
   ·simp only[hb,cond_false]at hz1
    refine rS ?_
    exact⟨_,[],hlt1,wt,hz1,sm⟩
  ·obtain rfl:i1=a0.length:=ot
   rw[yg (Nat.le_refl _)]at hz1;subst hz1;dsimp only at hR
   refine AWP.exit ?_;refine yb ?_
   refine rS ?_
   refine AWP.ret ?_
   subst hR
   exact es
end N220
def D_zzc : DF
 | [x0,x1]=>some (.bool (zzc (rdL ywb x0) (rdL ywb x1)),false,[wL 1 yq ywb x0,wL 1 yq ywb x1])
 | _=>none
theorem yfz:OkD Tryz.prog 220 D_zzc:=by unfold D_zzc;exact dk N220.den
end Go.Ab

namespace Go.Ab
open Go Go.Proofs
def zoe (a0:Character) (a1:Character):Bool:=
 (bif (a0.Kind != a1.Kind)then false else(bif (!(zzc a0.Group a1.Group))then false else(bif (a0.Letter != a1.Letter)then false else(bif (a0.Colors != a1.Colors)then false else(bif (a0.Period != a1.Period)then false else true)))))
namespace N112
theorem DD:DOk Tryz.prog (Go.Ab.DD [(220,dP D_zzc)]):=ya yfz.e <| ye _
theorem dn:type_of% (@D_zzc.eq_1):=by and_intros<;>intros<;>rfl
theorem den (a0:Character) (a1:Character)  : Den Tryz.prog 112 [.agg (yf a0),.agg (yf a1)] (.bool (zoe a0 a1)):=by
 generalize hR:zoe a0 a1=r
 unfold zoe at hR
 refine di Tryz.func112 Tryz.ntmps112 Tryz.results112 ?_
 intro c hL hc hk
 obtain⟨hL0,hL1,_⟩:=hL
 have hw0:bwCharacter a0:=yn a0 hL0
 have hw1:bwCharacter a1:=yn a1 hL1
 clear hL0 hL1
 simp only[pars,Nat.zero_add]
 iterate 2 refine rS ?_
 refine AWP.cond rfl (fun hb => ?_) (fun hb => ?_)
 ·replace hR:=ct hR
  refine rS ?_
  refine AWP.ret ?_
  subst hR
  exact es
 ·replace hR:=cf hR
  refine rS ?_
  refine AWP.cond rfl (fun hb => ?_) (fun hb => ?_)
  ·replace hR:=ct hR
   refine rS ?_
   refine AWP.ret ?_
   subst hR
   exact es
  ·replace hR:=cf hR
   refine rS ?_
   refine AWP.cond rfl (fun hb => ?_) (fun hb => ?_)
   ·replace hR:=ct hR
    refine rS ?_
    refine AWP.ret ?_
    subst hR
    exact es
   ·replace hR:=cf hR
    refine rS ?_
    refine AWP.cond rfl (fun hb => ?_) (fun hb => ?_)
    ·replace hR:=ct hR
     refine rS ?_
     refine AWP.ret ?_
     subst hR
     exact es
    ·replace hR:=cf hR
     refine rS ?_
     refine AWP.cond rfl (fun hb => ?_) (fun hb => ?_)
     ·replace hR:=ct hR
      refine rS ?_
      refine AWP.ret ?_
      subst hR
      exact es
     ·replace hR:=cf hR
      refine rS ?_
      refine AWP.ret ?_
      subst hR
      exact es
end N112
def D_zoe : DF
 | [x0,x1]=>some (.bool (zoe (rdG yc x0) (rdG yc x1)),false,[wG yf yc x0,wG yf yc x1])
 | _=>none
theorem y80:OkD Tryz.prog 112 D_zoe:=by unfold D_zoe;exact dk N112.den
end Go.Ab


namespace Go.Ab
open Go Go.Proofs
def ymr (a0:Int) (s1:Int×List UInt8):Except (Sum ((List UInt8)) (Int×List UInt8)) (Int×List UInt8):=
 (bif decide (0<s1.1)then .ok (IntKind.wrap .i64 (s1.1.tdiv 10),(([IntKind.wrap .u8 (IntKind.wrap .i64 (48+(s1.1.tmod 10)))]:List Int).map fun z=>UInt8.ofNat z.toNat)++s1.2)else .error (.inr (s1.1,s1.2)))
def zfd (a0:Int):(List UInt8):=
 (bif decide (a0≤0)then[109,48]else(match y6 (ymr a0) (((a0).toNat)+1) (a0,[])with|.error (.inl e)=>e|.error (.inr s1)=>[109]++s1.2|.ok _=>default))
namespace N120
theorem DD:DOk Tryz.prog (Go.Ab.DD []):=ye _
theorem den (a0:Int) (hp0:a0≤9223372036854775807):Den Tryz.prog 120 [.int .i64 a0] (.str (zfd a0)):=by
 generalize hR:zfd a0=r
 unfold zfd at hR
 refine di Tryz.func120 Tryz.ntmps120 Tryz.results120 ?_
 intro c hL hc hk
 clear hL
 simp only[pars,Nat.zero_add]
 iterate 2 refine rS ?_
 refine AWP.cond rfl (fun hb => ?_) (fun hb => ?_)
 ·replace hR:=ct hR
  refine rS ?_
  refine AWP.ret ?_
  subst hR
  exact es
 ·replace hR:=cf hR
  refine rS ?_
  refine AWP.seq ?_
  refine AWP.block ?_
  generalize hz1:y6 (ymr a0) (((a0).toNat)+1) (a0,[])=z1 at hR
  refine AWP.whileW (ymr a0) (fun s1=>⟨[(0,.int .i64 s1.1),(3,.str s1.2)],[]⟩) (fun s1=>0≤s1.1∧s1.2.length≤19∧s1.1 * 10 ^ s1.2.length≤a0) (fun s1=>(s1.1).toNat) (((a0).toNat)+1) (a0,[]) [] hz1 m0 (by(refine⟨by have:=of_decide_eq_false hb;simp only;omega,by simp,by simp⟩)) sm ?_
  clear hz1
  intro s1 k1 hW1 hm1 hz1
  simp only[ymr]at hz1
  refine rS ?_
  refine AWP.cond rfl (fun hb => ?_) (fun hb => ?_)
  ·simp only[hb,cond_true]at hz1
   iterate 2 refine rS ?_
   exact⟨_,[],by(exact Nat.lt_of_lt_of_le (digd hW1 hb hp0) (Nat.le_of_lt_succ hm1)),by(exact digw rfl hW1 hb hp0),hz1,sm⟩
  ·simp only[hb,cond_false]at hz1
   refine AWP.exit ?_
   refine yb ?_
   subst hz1;dsimp only at hR
   refine rS ?_
   refine AWP.ret ?_
   subst hR
   exact es
end N120
def D_zfd : DF
 | [x0]=>some (.str (zfd (rdI x0)),false,[wI .i64 x0,(rdI x0)≤9223372036854775807])
 | _=>none
theorem ypr:OkD Tryz.prog 120 D_zfd:=by unfold D_zfd;exact dk N120.den
end Go.Ab

namespace Go.Ab
open Go Go.Proofs
def y0i (a0:(List Sector)) (a1:Int) (i1:Nat) (s1:Int×List Sector):Except (Int×(List Sector)) (Int×List Sector):=
 .ok (IntKind.wrap .i64 ((IntKind.wrap .i64 ((IntKind.wrap .i64 (s1.1+1))+1))+1),s1.2.set i1 ({ From:=s1.1,To:=IntKind.wrap .i64 (s1.1+1),Color:=(zfd (IntKind.wrap .i64 ((IntKind.wrap .i64 (s1.1+1))+1))):Sector }))
def zgb (a0:(List Sector)) (a1:Int):Int×(List Sector):=
 (match yd (y0i a0 a1) (a0.length-0) 0 (a1,a0)with|.error e=>e|.ok s1=>(s1.1,s1.2))
namespace N122
theorem DD:DOk Tryz.prog (Go.Ab.DD [(120,dP D_zfd)]):=ya ypr.e <| ye _
theorem dn:type_of% (@D_zfd.eq_1):=by and_intros<;>intros<;>rfl
theorem den (a0:(List Sector)) (a1:Int) (hp0:a1≤9223372036854775807):DenM Tryz.prog 122 [ownL 188 3 yj a0,.int .i64 a1] (.int .i64 ((zgb a0 a1).1)) [(ownL 188 3 yj ((zgb a0 a1).2)),.any]:=by
 generalize hR:zgb a0 a1=r
 unfold zgb at hR
 refine dj (gb:=[true,false]) Tryz.func122 Tryz.ntmps122 Tryz.results122 ?_
 intro c hL hc hk
 obtain⟨hL0,hL1,_⟩:=hL
 have hw0:a0.length<9223372036854775808:=Nat.lt_succ_of_le (y2c hL0).1
 have hw1:∀ v∈a0,bwSector v:=fun v hv=>yt v ((y2c hL0).2 v hv)
 clear hL0 hL1
 simp only[adEL,adE,adRL,adR,ownL,encL,sv,List.nil_append,List.append_nil,List.cons_append,List.length_cons,List.length_nil,pars,Nat.zero_add,Nat.reduceAdd]at hk ⊢
 iterate 2 refine rS ?_
 refine AWP.block ?_
 generalize hz1:yd (y0i a0 a1) (a0.length-0) 0 (a1,a0)=z1 at hR
 refine AWP.range (y0i a0 a1) (fun i1 s1=>⟨[(0,.ref 0 3 0 s1.2.length),(1,.int .i64 s1.1),(5,.int .i64 (i1:Int))],[.arr 188 3 s1.2.length (fun j=>yj (s1.2.getD j default))]⟩) (fun i1 s1=>s1.2.length=a0.length∧s1.1≤9223372036854775807) (a0.length) 0 (a1,a0) [0] hz1 ot wt sm ?_
 clear hz1
 intro i1 s1 hi1 hW1 hz1
 refine rS ?_
 refine AWP.cond rfl (fun hb => ?_) (fun hb => ?_)
 ·have hlt1:i1<a0.length:=ot
  rw[yh hlt1]at hz1;simp only[y0i]at hz1
  iterate 7 refine rS ?_
  exact⟨_,[0],hlt1,by(exact mrg),hz1,sm⟩
 ·obtain rfl:i1=a0.length:=ot
  rw[yg (Nat.le_refl _)]at hz1;subst hz1;dsimp only at hR
  refine AWP.exit ?_;refine yb ?_
  refine rS ?_
  refine AWP.ret ?_
  subst hR
  exact es
end N122
def D_zgb : List AV → Option (AV × List AV × List Prop)
 | [x0,x1]=>some (.int .i64 ((zgb (rdL yp x0) (rdI x1)).1),[(ownL 188 3 yj ((zgb (rdL yp x0) (rdI x1)).2)),.any],[wO 188 3 yj yp x0,wI .i64 x1,(rdI x1)≤9223372036854775807])
 | _=>none
theorem yzz:OkM Tryz.prog 122 D_zgb:=by unfold D_zgb;exact dm N122.den
end Go.Ab

namespace Go.Ab
open Go Go.Proofs
theorem ywl (a:List Int) (k:Int) (h:k≤9223372036854775807):(zp a k).1≤9223372036854775807:=by
 unfold zp
 obtain⟨t,h1,h2⟩:=y5 (b:=y4q a k) (fun _ s=>s.1≤9223372036854775807) (k:=a.length-0) (i:=0) (s:=(k,a)) h (by
  intro j u _ _ h
  exact⟨_,rfl,y3i _⟩)
 rw[h1]
 exact h2
theorem yld (a:List Sector) (k:Int) (h:k≤9223372036854775807):(zgb a k).1≤9223372036854775807:=by
 unfold zgb
 obtain⟨t,h1,h2⟩:=y5 (b:=y0i a k) (fun _ s=>s.1≤9223372036854775807) (k:=a.length-0) (i:=0) (s:=(k,a)) h (by
  intro j u _ _ h
  exact⟨_,rfl,y3i _⟩)
 rw[h1]
 exact h2
theorem ygb (a:List Sector) (k:Int):(zgb a k).2.length=a.length:=by
 unfold zgb
 obtain⟨t,h1,h2⟩:=y5 (b:=y0i a k) (fun _ s=>s.2.length=a.length) (k:=a.length-0) (i:=0) (s:=(k,a)) rfl (by
  intro j u _ _ h
  exact⟨_,rfl,by simpa using h⟩)
 rw[h1]
 exact h2
theorem yac (a:List Sector) (k:Int):subL (zgb a k).2 0 a.length=(zgb a k).2:=by
 rw[← ygb a k];exact ybe _
end Go.Ab

namespace Go.Ab
open Go Go.Proofs
def y9k (a0:(List Sector)) (a1:Int) (i1:Nat) (s1:Int):Except (Int) (Int):=
 (bif (((a0.getD i1 default).From) != s1)then .error (-1)else(bif (((a0.getD i1 default).To) != (IntKind.wrap .i64 (s1+1)))then .error (-1)else(bif (((a0.getD i1 default).Color) != (zfd (IntKind.wrap .i64 ((IntKind.wrap .i64 (s1+1))+1))))then .error (-1)else .ok (IntKind.wrap .i64 ((IntKind.wrap .i64 ((IntKind.wrap .i64 (s1+1))+1))+1)))))
def zad (a0:(List Sector)) (a1:Int):Int:=
 (match yd (y9k a0 a1) (a0.length-0) 0 a1 with|.error e=>e|.ok s1=>s1)
namespace N141
theorem DD:DOk Tryz.prog (Go.Ab.DD [(120,dP D_zfd)]):=ya ypr.e <| ye _
theorem dn:type_of% (@D_zfd.eq_1):=by and_intros<;>intros<;>rfl
theorem den (a0:(List Sector)) (a1:Int) (hp0:a1≤9223372036854775807):Den Tryz.prog 141 [encL 3 yj a0,.int .i64 a1] (.int .i64 (zad a0 a1)):=by
 generalize hR:zad a0 a1=r
 unfold zad at hR
 refine di Tryz.func141 Tryz.ntmps141 Tryz.results141 ?_
 intro c hL hc hk
 obtain⟨hL0,hL1,_⟩:=hL
 have hw0:a0.length<9223372036854775808:=Nat.lt_succ_of_le (ym hL0).1
 have hw1:∀ v∈a0,bwSector v:=fun v hv=>yt v ((ym hL0).2 v hv)
 clear hL0 hL1
 simp only[pars,Nat.zero_add]
 iterate 2 refine rS ?_
 refine AWP.block ?_
 generalize hz1:yd (y9k a0 a1) (a0.length-0) 0 a1=z1 at hR
 refine AWP.range (y9k a0 a1) (fun i1 s1=>⟨[(0,encL 3 yj a0),(1,.int .i64 s1),(5,.int .i64 (i1:Int))],[]⟩) (fun i1 s1=>s1≤9223372036854775807) (a0.length) 0 a1 [] hz1 ot wt sm ?_
 clear hz1
 intro i1 s1 hi1 hW1 hz1
 refine rS ?_
 refine AWP.cond rfl (fun hb => ?_) (fun hb => ?_)
 ·have hlt1:i1<a0.length:=ot
  rw[yh hlt1]at hz1;simp only[y9k]at hz1
  refine rS ?_
  refine AWP.cond rfl (fun hb => ?_) (fun hb => ?_)
  ·simp only[hb,cond_true]at hz1
   refine rS ?_
   refine AWP.ret ?_
   subst hz1
   dsimp only at hR
   subst hR
   exact es
  ·simp only[hb,cond_false]at hz1
   iterate 2 refine rS ?_
   refine AWP.cond rfl (fun hb => ?_) (fun hb => ?_)
   ·simp only[hb,cond_true]at hz1
    refine rS ?_
    refine AWP.ret ?_
    subst hz1
    dsimp only at hR
    subst hR
    exact es
   ·simp only[hb,cond_false]at hz1
    refine rS ?_
    refine rD 7 ?_
    refine AWP.cond rfl (fun hb => ?_) (fun hb => ?_)
    ·simp only[hb,cond_true]at hz1
     refine rS ?_
     refine AWP.ret ?_
     subst hz1
     dsimp only at hR
     subst hR
     exact es
    ·simp only[hb,cond_false]at hz1
     iterate 2 refine rS ?_
     exact⟨_,[],hlt1,by(exact mrg),hz1,sm⟩
 ·obtain rfl:i1=a0.length:=ot
  rw[yg (Nat.le_refl _)]at hz1;subst hz1;dsimp only at hR
  refine AWP.exit ?_;refine yb ?_
  refine rS ?_
  refine AWP.ret ?_
  subst hR
  exact es
end N141
def D_zad : DF
 | [x0,x1]=>some (.int .i64 (zad (rdL yp x0) (rdI x1)),false,[wL 3 yj yp x0,wI .i64 x1,(rdI x1)≤9223372036854775807])
 | _=>none
theorem yb0:OkD Tryz.prog 141 D_zad:=by unfold D_zad;exact dk N141.den
end Go.Ab

namespace Go.Ab
open Go Go.Proofs
theorem y7k {ρ σ : Type} {b : Nat → σ → Except ρ σ} (P : σ → Prop) (Q : ρ → Prop) (h : ∀ j u, P u → (∀ e, b j u = .error e → Q e) ∧ (∀ v, b j u = .ok v → P v)) : ∀ (k i : Nat) (s : σ), P s → (∀ e, yd b k i s = .error e → Q e) ∧ (∀ v, yd b k i s = .ok v → P v)
 | 0,i,s,hs=>⟨fun e he=>by simp[yd]at he,fun v hv=>by simp only[yd,Except.ok.injEq]at hv;subst hv;exact hs⟩
 | k+1,i,s,hs=>by
  have h0:=h i s hs
  simp only[yd]
  cases hb:b i s with
  | error r=>exact⟨fun e he=>by cases he;exact h0.1 _ hb,fun v hv=>by cases hv⟩
  | ok t=>exact y7k P Q h k (i+1) t (h0.2 _ hb)
theorem yc2 {b:Nat→Int→Except Int Int} (h:∀ j u,u≤9223372036854775807→(∀ e,b j u=.error e→e≤9223372036854775807)∧(∀ v,b j u=.ok v→v≤9223372036854775807)) (k i:Nat) (s:Int) (hs:s≤9223372036854775807) :
  (match yd b k i s with|.error e=>e|.ok v=>v)≤9223372036854775807:=by
 have:=y7k (fun x=>x≤9223372036854775807) (fun x=>x≤9223372036854775807) h k i s hs
 cases hl:yd b k i s with
 | error e=>exact this.1 _ hl
 | ok v=>exact this.2 _ hl
theorem ycm (a:List Int) (k:Int) (h:k≤9223372036854775807):zac a k≤9223372036854775807:=by
 unfold zac
 refine yc2 (fun j u hu => ?_) _ _ _ h
 simp only[ynj,Bool.cond_eq_ite]
 (repeat' split)<;>refine⟨fun e he => ?_,fun v hv => ?_⟩<;>first|(cases he<;>first|exact y3i _|decide)|(cases hv<;>first|exact y3i _|decide)
end Go.Ab
