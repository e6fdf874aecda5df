/- A part of a proof: walks of functions and lemmas of our own. No conditions. -/
import Derived.Test.YtopoomikfjodkaaGreatDoorVBg
import Derived.Test.YtopoomikfjodkaaGreatDoorVBh
import Derived.Test.YtopoomikfjodkaaGreatDoorVAt
import Derived.Test.YtopoomikfjodkaaGreatDoorVAp
import Derived.Test.YtopoomikfjodkaaGreatDoorVAs
import Derived.Test.YtopoomikfjodkaaGreatDoorVBf
import Derived.Test.YtopoomikfjodkaaGreatDoorVAy
import Derived.Test.YtopoomikfjodkaaGreatDoorVAz
import Derived.Test.YtopoomikfjodkaaGreatDoorVAl
import Derived.Test.YtopoomikfjodkaaGreatDoorVAi
set_option linter.unusedSectionVars false
set_option linter.unusedVariables false
set_option linter.unusedSimpArgs false
set_option maxHeartbeats 1000000
namespace Go.Ab
open Go Go.Proofs
theorem yz5 {p:Point} (h:zoc p=true):zof p=zre p∧(zre p).length≤13:=by
 have hr:=ydx h
 unfold zof zre
 rw[show zce p=zoc p from rfl,h,ycf _ (by omega) (by omega),ycf _ (by omega) (by omega)]
 refine⟨rfl,?_⟩
 have h1:=yge p.X 5 (by omega) (by show p.X<(1000000:Int);omega)
 have h2:=yge p.Y 5 (by omega) (by show p.Y<(1000000:Int);omega)
 simp only[List.length_append,List.length_cons,List.length_nil]
 omega
theorem yc3 (a b c d:List UInt8) (s:List UInt8):Lib.join [a,b,c,d] s=a++(s++(b++(s++(c++(s++d))))):=by
 simp[Lib.join_cons,Lib.joinTail]
theorem ymx {k:Int} (h:0≤k∧k≤9):zif k=zpc.getD k.toNat default:=ybs _ _ (by omega) (by show k<10;omega)
theorem y15 (m:Mark):zpf m=zle m:=by
 unfold zpf zle zug
 rw[yle,show zdd m=zjb m from rfl]
 cases h:zjb m with
 | false=>rfl
 | true=>
  simp only[Bool.not_true,cond_false]
  by_cases hk:m.Kind=0
  ·rw[show(m.Kind == 0)=true by simp[hk],cond_true,cond_true];rfl
  ·rw[show(m.Kind == 0)=false by simp[hk],cond_false,cond_false]
   have hr:=ydi (m:=m) h
   rw[ymx ⟨hr.1,hr.2.1⟩]
   have e:∀ a b c d:List UInt8,zr [a,b,c,d] [32]=a++([32]++(b++([32]++(c++([32]++d))))):=fun a b c d=>yc3 a b c d [32]
   rw[e,e]
   simp only[List.append_assoc]
theorem y04 (m:Mark):(zle m).length≤40:=by
 unfold zle zug
 cases h:zjb m with
 | false=>simp
 | true=>
  have hr:=ydi (m:=m) h
  simp only[Bool.not_true,cond_false]
  have hn:(zpc.getD m.Kind.toNat default).length≤7:=by
   rcases(show m.Kind=0∨m.Kind=1∨m.Kind=2∨m.Kind=3∨m.Kind=4∨m.Kind=5∨m.Kind=6∨m.Kind=7∨m.Kind=8∨m.Kind=9 by omega)with e|e|e|e|e|e|e|e|e|e<;>rw[e]<;>decide
  simp only[Bool.cond_eq_ite]
  repeat' split
  all_goals (try simp only[List.length_append,List.length_cons,List.length_nil])
  all_goals omega
def scT (s:Sector):List UInt8:=Lib.itoa s.From++(45::(Lib.itoa s.To++s.Color))
def scsT (a:List Sector):List UInt8:=if a=[]then[45]else Lib.join (a.map scT) [44]
theorem yl3 {a:List Sector} (h:zq a=true):zfd a=scsT a:=by
 have hr:=yof h
 unfold zfd scsT
 rw[ycc a (by omega),h]
 simp only[Bool.not_true,cond_false]
 by_cases ha:a=[]
 ·rw[ha];rfl
 ·have hp:0<a.length:=List.length_pos_iff.2 ha
  rw[if_neg ha,show((a.length:Int) == 0)=false by rw[beq_eq_false_iff_ne];omega,cond_false]
  have hl:=yqc (y5k a) (fun j=>[scT (a.getD j default)]) a.length 0 [] (fun j s _ _=>by
   unfold y5k scT
   simp[y1q])
  rw[y2j a default scT,List.nil_append]at hl
  rw[Nat.sub_zero,hl]
  rfl
theorem ygv {a:List Sector} (h:zq a=true):zwc a=scsT a:=by
 have hr:=yof h
 unfold zwc scsT
 by_cases ha:a=[]
 ·rw[ha];rfl
 ·have hp:0<a.length:=List.length_pos_iff.2 ha
  rw[if_neg ha,show((a.length:Int) == 0)=false by rw[beq_eq_false_iff_ne];omega,cond_false]
  have hl:=yqc (y6k a) (fun j=>(if j=0 then[]else[44])++scT (a.getD j default)) a.length 0 [] (fun j s _ _=>by
   have h9:=hr.2 j
   unfold y6k scT
   rw[ycf _ (by omega) (by omega),ycf _ (by omega) (by omega)]
   by_cases hj:j=0
   ·subst hj;simp
   ·rw[decide_eq_true (show(0:Int)<(j:Int)by omega),if_neg hj];simp)
  rw[Nat.sub_zero,hl,List.nil_append]
  simp only
  cases a with
  | nil=>exact absurd rfl ha
  | cons x r=>
   rw[List.length_cons,List.range'_succ,List.flatMap_cons,List.map_cons,Lib.join_cons, ← y3u 44 default scT x r]
   have:(List.range' (0+1) r.length).flatMap (fun j=>(if j=0 then[]else[44])++scT ((x::r).getD j default))=(List.range' 1 r.length).flatMap (fun j=>(44:UInt8)::scT ((x::r).getD j default)):=by
    rw[List.flatMap_def,List.flatMap_def]
    congr 1
    apply List.map_congr_left
    intro j hj
    rw[List.mem_range'_1]at hj
    rw[if_neg (by omega)];rfl
   rw[this]
   simp
theorem yt4 {a:List Sector} (h:zq a=true):(scsT a).length≤120:=by
 have hr:=yof h
 unfold scsT
 split
 ·simp
 ·have h1:=y9h [44] (a.map scT) 8 (fun x hx=>by
   obtain⟨s,hs,rfl⟩:=List.mem_map.1 hx
   obtain⟨i,hi,e⟩:=List.getElem_of_mem hs
   have h9:=hr.2 i
   have hg:a.getD i default=s:=by rw[List.getD_eq_getElem?_getD,List.getElem?_eq_getElem hi,e];rfl
   rw[hg]at h9
   have h1:=yge s.From 2 (by omega) (by show s.From<(1000:Int);omega)
   have h2:=yge s.To 2 (by omega) (by show s.To<(1000:Int);omega)
   unfold scT
   simp only[List.length_append,List.length_cons]
   omega)
  rw[List.length_map]at h1
  simp only[List.length_singleton]at h1
  have:a.length * (8+1)≤12 * 9:=Nat.mul_le_mul hr.1 (by omega)
  omega
theorem yan {ρ σ : Type} {b : Nat → σ → Except ρ σ} {e0 : ρ} (h : ∀ j s e, b j s = .error e → e = e0) : ∀ (n i : Nat) (s : σ) (e : ρ), yf b n i s = .error e → e = e0
 | 0,i,s,e,he=>by simp[yf]at he
 | n+1,i,s,e,he=>by
  simp only[yf]at he
  cases hb:b i s with
  | error e'=>
   rw[hb]at he
   have he:e'=e:=by simpa using he
   rw[← he];exact h _ _ _ hb
  | ok s'=>rw[hb]at he;exact yan h n (i+1) s' e he
theorem yut {c:Character} (h:zgb c=true):c.Colors.length≤3:=by
 unfold zgb at h
 cases h1:((!(zmb c.Colors)) || (!(zz c)))with
 | true=>rw[h1]at h;cases h
 | false=>
  rw[Bool.or_eq_false_iff]at h1
  have h2:zmb c.Colors=true:=by simpa using h1.1
  unfold zmb at h2
  have he:=yan (b:=ygg c.Colors) (e0:=false) (fun j s e h=>by
   unfold ygg at h
   rw[Bool.cond_eq_ite]at h
   split at h
   ·simpa using h.symm
   ·cases h) (c.Colors.length-0) 0 (-1)
  generalize yf (ygg c.Colors) (c.Colors.length-0) 0 (-1)=z at h2 he
  cases z with
  | error e=>have:=he e rfl;subst this;cases h2
  | ok s=>simp[zb]at h2;omega
theorem yk5 {c:Character} (h:zgb c=true):(chrT c).length≤40:=by
 have hf:=yzc c h
 have hv:=yne c h
 have hk:=yli c hf
 have hp:=yte c h
 have hc:=yut h
 have hK:(kt c.Kind).length≤3:=by
  rcases(show c.Kind=1∨c.Kind=2∨c.Kind=3∨c.Kind=4∨c.Kind=5∨c.Kind=6∨c.Kind=7∨c.Kind=8 by omega)with e|e|e|e|e|e|e|e<;>rw[e]<;>decide
 have hg:(grpT c.Group).length≤10:=by
  unfold grpT
  split
  ·simp
  ·have h1:=y9h [43] (c.Group.map Lib.itoa) 1 (fun x hx=>by
    obtain⟨s,hs,rfl⟩:=List.mem_map.1 hx
    have:=hv.2.1 s hs
    exact yge s 0 (by omega) (by show s<(10:Int);omega))
   rw[List.length_map,List.length_singleton]at h1
   simp only[List.length_append,List.length_cons,List.length_nil]
   omega
 have hs:(perT c.Period).length≤8:=by
  unfold perT secT
  split
  ·simp
  ·have h1:=yge (c.Period / 10) 1 (by omega) (by show c.Period / 10<(100:Int);omega)
   have h2:=yge (c.Period % 10) 0 (by omega) (by show c.Period % 10<(10:Int);omega)
   split<;>simp only[List.length_append,List.length_cons,List.length_nil]<;>omega
 have hh:(y0u c).length≤17:=by
  unfold y0u
  split
  ·rename_i h8
   have h9:=yy4 c hf h8
   have:(kt 8).length=2:=rfl
   simp only[List.length_append,List.length_cons,List.length_nil]
   omega
  ·split<;>simp only[List.length_append,List.length_cons,List.length_nil]<;>omega
 unfold chrT
 simp only[List.length_append,List.length_cons]
 omega
theorem y33 {c:Character} (h:zfe c=true) (hl:c.Colors.length<9223372036854775808):znf c=zxb c∧(zxb c).length≤40:=by
 rw[← ybi c hl]at h
 rw[yww c h,y8u c h]
 exact⟨rfl,yk5 h⟩
theorem ya1 {a:Aid} (h:zt a=true) (hl:a.Light.Colors.length<9223372036854775808) :
  (zd a.Number=za a.Number∧(za a.Number).length≤4)∧(zof a.At=zre a.At∧(zre a.At).length≤13)∧(zd a.Height=za a.Height∧(za a.Height).length≤4) ∧
  (zpf a.Mark=zle a.Mark∧(zle a.Mark).length≤40)∧(zwd a=true→znf a.Light=zxb a.Light∧(zxb a.Light).length≤40) ∧
  (zfd a.Sectors=zwc a.Sectors∧(zwc a.Sectors).length≤120)∧(zd a.Intensity=za a.Intensity∧(za a.Intensity).length≤9)∧a.Name.length≤10:=by
 obtain⟨n1,n2,nm,at1,h1,h2,mk,lt,sx,i1,i2⟩:=ykd h
 have dq:∀ (n:Int) (k:Nat),0≤n→n≤100000000→n<((10 ^ (k+1):Nat):Int)→zd n=za n∧(za n).length≤k+1:=fun n k a b c=>by
  rw[ycf n (by omega) (by omega)]
  exact⟨rfl,yge n k a c⟩
 refine⟨dq _ 3 (by omega) (by omega) (by show _<(10000:Int);omega),yz5 at1,dq _ 3 (by omega) (by omega) (by show _<(10000:Int);omega),⟨y15 _,y04 _⟩,fun hq=>y33 (lt hq) hl,⟨by rw[yl3 sx,ygv sx],by rw[ygv sx];exact yt4 sx⟩,dq _ 8 (by omega) (by omega) (by show _<(1000000000:Int);omega),ytz nm⟩
end Go.Ab

namespace Go.Ab
open Go Go.Proofs
def znb (a0:Aid):(List UInt8):=
 (bif (!(zed a0))then[]else(bif (zge a0)then(zr [(zd a0.Number),a0.Name,(zof a0.At),(zd a0.Height),(zpf a0.Mark),(znf a0.Light),(zfd a0.Sectors),(zd a0.Intensity)] [47])else(zr [(zd a0.Number),a0.Name,(zof a0.At),(zd a0.Height),(zpf a0.Mark),[45],(zfd a0.Sectors),(zd a0.Intensity)] [47])))
namespace N32
theorem DD:DOk Tryz.prog (Go.Ab.DD [(104,dP D_zed),(105,dP D_zge),(106,dP D_znf),(107,dP D_zd),(108,dP D_zof),(109,dP D_zfd),(16,dP D_zpf),(83,dP D_zr)]):=ya y1l.e <| ya yot.e <| ya yo0.e <| ya yjd.e <| ya yry.e <| ya yg1.e <| ya yt0.e <| ya yjh.e <| yd _
theorem dn:type_of% (And.intro @D_zed.eq_1 <| And.intro @D_zge.eq_1 <| And.intro @D_znf.eq_1 <| And.intro @D_zd.eq_1 <| And.intro @D_zof.eq_1 <| And.intro @D_zfd.eq_1 <| And.intro @D_zpf.eq_1 <| @D_zr.eq_1):=by and_intros<;>intros<;>rfl
theorem gr {p:Prop} (h:p:=by(grind [yvb]);first|done|fail):p:=h
theorem o0 {p:Prop} (h:p:=by(first|(have h9:=y6q hb0 (by assumption);have hr:=ykd h9;obtain⟨⟨e1,l1⟩,⟨e2,l2⟩,⟨e3,l3⟩,⟨e4,l4⟩,hch,⟨e6,l6⟩,⟨e7,l7⟩,l8⟩:=ya1 h9 (Nat.lt_of_lt_of_le hb0.2.2.1.2.2 (by decide));obtain⟨e5,l5⟩:=hch (by rw[← hlt h9];assumption);rw[← e5]at l5;rw[← e1]at l1;rw[← e2]at l2;rw[← e3]at l3;rw[← e4]at l4;rw[← e6]at l6;rw[← e7]at l7;(repeat' with_reducible apply And.intro)<;>(first|omega|exact hb0.2.1|exact hb0.2.2.2.1|exact hb0.2.2.2.2|exact hb0.2.2.1|exact hr.2.2.2.1|exact hr.2.2.2.2.2.2.2.2.1|(refine Nat.le_trans (ylc _ _) ?_;simp only[jl,List.length_cons,List.length_nil];omega)))|(have h9:=y6q hb0 (by assumption);have hr:=ykd h9;obtain⟨⟨e1,l1⟩,⟨e2,l2⟩,⟨e3,l3⟩,⟨e4,l4⟩,hch,⟨e6,l6⟩,⟨e7,l7⟩,l8⟩:=ya1 h9 (Nat.lt_of_lt_of_le hb0.2.2.1.2.2 (by decide));skip;rw[← e1]at l1;rw[← e2]at l2;rw[← e3]at l3;rw[← e4]at l4;rw[← e6]at l6;rw[← e7]at l7;(repeat' with_reducible apply And.intro)<;>(first|omega|exact hb0.2.1|exact hb0.2.2.2.1|exact hb0.2.2.2.2|exact hb0.2.2.1|exact hr.2.2.2.1|exact hr.2.2.2.2.2.2.2.2.1|(refine Nat.le_trans (ylc _ _) ?_;simp only[jl,List.length_cons,List.length_nil];omega))));first|done|fail):p:=h
theorem lx {p:Prop} (h:p:=by(exact lxx);first|done|fail):p:=h
set_option maxHeartbeats 4000000 in
set_option maxRecDepth 20000 in
theorem den (a0:Aid) (hb0:bdAid a0):Den Tryz.prog 32 [.agg (eAid a0)] (.str (znb a0)):=by
 generalize hR:znb a0=r
 unfold znb at hR
 refine di Tryz.func32 Tryz.ntmps32 Tryz.results32 ?_
 intro c hL hc hk
 obtain⟨hL0,_⟩:=hL
 have hw0:bwAid a0:=yy a0 hL0
 clear hL0
 simp only[pars,Nat.zero_add]
 have hlt:=fun h=>yh2 (a:=a0) h (Nat.lt_of_lt_of_le hb0.2.2.1.2.2 (by decide))
 iterate 2 refine rS ?_
 refine AWP.cond rfl (fun hb => ?_) (fun hb => ?_)
 ·replace hR:=ct hR
  refine rS ?_
  refine AWP.ret ?_
  subst hR
  exact es
 ·replace hR:=cf hR
  iterate 2 refine rS ?_
  refine AWP.cond rfl (fun hb => ?_) (fun hb => ?_)
  ·replace hR:=ct hR
   refine rS ?_
   refine rD 21 ?_
   refine AWP.ret ?_
   subst hR
   exact es
  ·replace hR:=cf hR
   refine rD 21 ?_
   refine AWP.ret ?_
   subst hR
   exact es
end N32
def D_znb : DF
 | [x0]=>some (.str (znb (rdG dAid x0)),false,[wG eAid dAid x0,bdAid (rdG dAid x0)])
 | _=>none
theorem yzg:OkD Tryz.prog 32 D_znb:=by unfold D_znb;exact dk N32.den
end Go.Ab

namespace Go.Ab
open Go Go.Proofs
def zw (a0:Aid):(List UInt8):=
 (bif (zwd a0)then((((((((((((((za a0.Number)++[47])++a0.Name)++[47])++(zre a0.At))++[47])++(za a0.Height))++[47])++(zle a0.Mark))++[47])++(zxb a0.Light))++[47])++(zwc a0.Sectors))++[47])++(za a0.Intensity)else((((((((((((((za a0.Number)++[47])++a0.Name)++[47])++(zre a0.At))++[47])++(za a0.Height))++[47])++(zle a0.Mark))++[47])++[45])++[47])++(zwc a0.Sectors))++[47])++(za a0.Intensity))
namespace N99
theorem DD:DOk Tryz.prog (Go.Ab.DD [(166,dP D_za),(202,dP D_zwd),(203,dP D_zxb),(204,dP D_zre),(205,dP D_zle),(206,dP D_zwc)]):=ya ytc.e <| ya yd1.e <| ya y9z.e <| ya yoy.e <| ya yvx.e <| ya ym1.e <| yd _
theorem dn:type_of% (And.intro @D_za.eq_1 <| And.intro @D_zwd.eq_1 <| And.intro @D_zxb.eq_1 <| And.intro @D_zre.eq_1 <| And.intro @D_zle.eq_1 <| @D_zwc.eq_1):=by and_intros<;>intros<;>rfl
theorem o0 {p:Prop} (h:p:=by(first|(obtain⟨c1,c2,c3,c4,c5,c6⟩:=hlt (by assumption);obtain⟨e5,l5⟩:=hch (by assumption);(repeat' with_reducible apply And.intro)<;>first|omega|with_reducible assumption|(simp only[List.length_append,List.length_cons,List.length_nil,List.length_singleton];omega))|((repeat' with_reducible apply And.intro)<;>first|omega|with_reducible assumption|(simp only[List.length_append,List.length_cons,List.length_nil,List.length_singleton];omega)));first|done|fail):p:=h
set_option maxHeartbeats 4000000 in
set_option maxRecDepth 20000 in
theorem den (a0:Aid) (hb0:bdAid a0) (hp0:zt a0=true):Den Tryz.prog 99 [.ep (eAid a0)] (.str (zw a0)):=by
 generalize hR:zw a0=r
 unfold zw at hR
 refine di Tryz.func99 Tryz.ntmps99 Tryz.results99 ?_
 intro c hL hc hk
 obtain⟨hL0,_⟩:=hL
 have hw0:bwAid a0:=yy a0 hL0
 clear hL0
 simp only[pars,Nat.zero_add]
 have h9:=hp0
 have hr:=ykd h9
 obtain⟨⟨e1,l1⟩,⟨e2,l2⟩,⟨e3,l3⟩,⟨e4,l4⟩,hch,⟨e6,l6⟩,⟨e7,l7⟩,l8⟩:=ya1 h9 (Nat.lt_of_lt_of_le hb0.2.2.1.2.2 (by decide))
 have hlt:=fun h=>ye5 hp0 hb0 h
 have hbM:bdMark a0.Mark:=hb0.2.1
 have hbC:bdCharacter a0.Light:=hb0.2.2.1
 have hbS1:a0.Sectors.length<1099511627776:=hb0.2.2.2.1
 have hbS2:∀ v∈a0.Sectors,bdSector v:=hb0.2.2.2.2
 have hat:zoc a0.At=true:=hr.2.2.2.1
 have hsx:zq a0.Sectors=true:=hr.2.2.2.2.2.2.2.2.1
 iterate 3 refine rS ?_
 refine AWP.cond rfl (fun hb => ?_) (fun hb => ?_)
 ·replace hR:=ct hR
  refine rS ?_
  refine rD 49 ?_
  refine AWP.ret ?_
  subst hR
  exact es
 ·replace hR:=cf hR
  refine rD 49 ?_
  refine AWP.ret ?_
  subst hR
  exact es
end N99
def D_zw : DF
 | [x0]=>some (.str (zw (rdP dAid x0)),false,[wP eAid dAid x0,bdAid (rdP dAid x0),zt (rdP dAid x0)=true])
 | _=>none
theorem yij:OkD Tryz.prog 99 D_zw:=by unfold D_zw;exact dk N99.den
end Go.Ab

namespace Go.Ab
open Go Go.Proofs
def zqf (a0:Aid):(List UInt8):=
 (bif (!(zt a0))then[]else(zw a0))
namespace N30
theorem DD:DOk Tryz.prog (Go.Ab.DD [(98,dP D_zt),(99,dP D_zw)]):=ya ygq.e <| ya yij.e <| yd _
theorem dn:type_of% (And.intro @D_zt.eq_1 <| @D_zw.eq_1):=by and_intros<;>intros<;>rfl
theorem o0 {p:Prop} (h:p:=by(first|(have q9 := ‹(!zt a0)=false›;have q8:zt a0=true:=(by simpa using q9);(repeat' with_reducible apply And.intro)<;>first|exact q8|assumption|omega));first|done|fail):p:=h
theorem den (a0:Aid) (hb0:bdAid a0):Den Tryz.prog 30 [.agg (eAid a0)] (.str (zqf a0)):=by
 generalize hR:zqf a0=r
 unfold zqf at hR
 refine di Tryz.func30 Tryz.ntmps30 Tryz.results30 ?_
 intro c hL hc hk
 obtain⟨hL0,_⟩:=hL
 have hw0:bwAid a0:=yy a0 hL0
 clear hL0
 simp only[pars,Nat.zero_add]
 iterate 2 refine rS ?_
 refine AWP.cond rfl (fun hb => ?_) (fun hb => ?_)
 ·replace hR:=ct hR
  refine rS ?_
  refine AWP.ret ?_
  subst hR
  exact es
 ·replace hR:=cf hR
  refine rS ?_
  refine AWP.ret ?_
  subst hR
  exact es
end N30
def D_zqf : DF
 | [x0]=>some (.str (zqf (rdG dAid x0)),false,[wG eAid dAid x0,bdAid (rdG dAid x0)])
 | _=>none
theorem yjr:OkD Tryz.prog 30 D_zqf:=by unfold D_zqf;exact dk N30.den
end Go.Ab

namespace Go.Ab
open Go Go.Proofs
theorem y05 (a b c d e f g h:List UInt8) (s:List UInt8):Lib.join [a,b,c,d,e,f,g,h] s=a++(s++(b++(s++(c++(s++(d++(s++(e++(s++(f++(s++(g++(s++h))))))))))))):=by
 simp[Lib.join_cons,Lib.joinTail]
theorem yae {a:Aid} (h:zt a=true) (hl:a.Light.Colors.length<9223372036854775808):znb a=zw a∧(zw a).length≤300:=by
 have hr:=ykd h
 have hs:=(yof hr.2.2.2.2.2.2.2.2.1).1
 obtain⟨⟨e1,l1⟩,⟨e2,l2⟩,⟨e3,l3⟩,⟨e4,l4⟩,hch,⟨e6,l6⟩,⟨e7,l7⟩,l8⟩:=ya1 h hl
 have e:∀ a b c d e f g h:List UInt8,zr [a,b,c,d,e,f,g,h] [47]=a++([47]++(b++([47]++(c++([47]++(d++([47]++(e++([47]++(f++([47]++(g++([47]++h))))))))))))):=fun a b c d e f g h=>y05 a b c d e f g h [47]
 unfold znb zw
 rw[yhc a hl (by omega),h,yh2 h hl]
 simp only[Bool.not_true,cond_false]
 cases ht:zwd a with
 | true=>
  obtain⟨e5,l5⟩:=hch ht
  simp only[cond_true]
  rw[e,e1,e2,e3,e4,e5,e6,e7]
  refine⟨by simp only[List.append_assoc],?_⟩
  simp only[List.length_append,List.length_cons,List.length_nil]
  omega
 | false=>
  simp only[cond_false]
  rw[e,e1,e2,e3,e4,e6,e7]
  refine⟨by simp only[List.append_assoc],?_⟩
  simp only[List.length_append,List.length_cons,List.length_nil]
  omega
theorem y8t (a:Aid) (hl:a.Light.Colors.length<9223372036854775808) (hs:a.Sectors.length<9223372036854775807):znb a=zqf a:=by
 unfold zqf
 cases h:zt a with
 | true=>rw[(yae h hl).1];rfl
 | false=>
  unfold znb
  rw[yhc a hl hs,h]
  rfl
theorem y6d (a:Aid) (hb:bdAid a):(znb a).length≤300:=by
 have hl:a.Light.Colors.length<9223372036854775808:=Nat.lt_of_lt_of_le hb.2.2.1.2.2 (by decide)
 have hs:a.Sectors.length<9223372036854775807:=Nat.lt_of_lt_of_le hb.2.2.2.1 (by decide)
 cases h:zt a with
 | true=>rw[(yae h hl).1];exact(yae h hl).2
 | false=>
  unfold znb
  rw[yhc a hl hs,h]
  simp
theorem yce {a:Aid} (hb:bdAid a) (h:zt a=true):(zw a).length≤300:=(yae h (Nat.lt_of_lt_of_le hb.2.2.1.2.2 (by decide))).2
end Go.Ab

namespace Go.Ab
open Go Go.Proofs
def zrf (a0:Point):Point:=
 a0
namespace N100
theorem DD:DOk Tryz.prog (Go.Ab.DD []):=yd _
theorem den (a0:Point)  : Den Tryz.prog 100 [.agg (ePoint a0)] (.agg (ePoint (zrf a0))):=by
 generalize hR:zrf a0=r
 unfold zrf at hR
 refine di Tryz.func100 Tryz.ntmps100 Tryz.results100 ?_
 intro c hL hc hk
 clear hL
 simp only[pars,Nat.zero_add]
 iterate 5 refine rS ?_
 refine AWP.ret ?_
 subst hR
 exact es
end N100
def D_zrf : DF
 | [x0]=>some (.agg (ePoint (zrf (rdG ysc x0))),false,[wG ePoint ysc x0])
 | _=>none
theorem y70:OkD Tryz.prog 100 D_zrf:=by unfold D_zrf;exact dk N100.den
end Go.Ab

namespace Go.Ab
open Go Go.Proofs
def zsf (a0:Mark):Mark:=
 a0
namespace N101
theorem DD:DOk Tryz.prog (Go.Ab.DD []):=yd _
theorem den (a0:Mark)  : Den Tryz.prog 101 [.agg (eMark a0)] (.agg (eMark (zsf a0))):=by
 generalize hR:zsf a0=r
 unfold zsf at hR
 refine di Tryz.func101 Tryz.ntmps101 Tryz.results101 ?_
 intro c hL hc hk
 obtain⟨hL0,_⟩:=hL
 have hw0:bwMark a0:=y2b a0 hL0
 clear hL0
 simp only[pars,Nat.zero_add]
 iterate 7 refine rS ?_
 refine AWP.ret ?_
 subst hR
 exact es
end N101
def D_zsf : DF
 | [x0]=>some (.agg (eMark (zsf (rdG ync x0))),false,[wG eMark ync x0])
 | _=>none
theorem y3x:OkD Tryz.prog 101 D_zsf:=by unfold D_zsf;exact dk N101.den
end Go.Ab

namespace Go.Ab
open Go Go.Proofs
def y7n (a0:(List Int)) (i1:Nat) (s1:List Int):Except ((List Int)) (List Int):=
 .ok (s1.set i1 (a0.getD i1 default))
def zxc (a0:(List Int)):(List Int):=
 (match yf (y7n a0) (a0.length-0) 0 (List.replicate a0.length (default:Int))with|.error e=>e|.ok s1=>s1)
namespace N207
theorem DD:DOk Tryz.prog (Go.Ab.DD []):=yd _
theorem den (a0:(List Int)) (hb0:a0.length<1099511627776):Den Tryz.prog 207 [encL 1 yp a0] (ownL 2 1 yp (zxc a0)):=by
 generalize hR:zxc a0=r
 unfold zxc at hR
 refine di Tryz.func207 Tryz.ntmps207 Tryz.results207 ?_
 intro c hL hc hk
 obtain⟨hL0,_⟩:=hL
 have hw0:a0.length<9223372036854775808:=Nat.lt_succ_of_le (ye hL0).1
 clear hL0
 simp only[pars,Nat.zero_add]
 iterate 3 refine rS ?_
 refine AWP.block ?_
 generalize hz1:yf (y7n a0) (a0.length-0) 0 (List.replicate a0.length (default:Int))=z1 at hR
 refine AWP.range (y7n a0) (fun i1 s1=>⟨[(0,encL 1 yp a0),(3,.ref 0 1 0 s1.length),(4,.int .i64 (i1:Int))],[.arr 2 1 s1.length (fun j=>yp (s1.getD j default))]⟩) (fun i1 s1=>s1.length=(List.replicate a0.length (default:Int)).length) (a0.length) 0 (List.replicate a0.length (default:Int)) [0] hz1 ot wt sm ?_
 clear hz1
 intro i1 s1 hi1 hW1 hz1
 refine rS ?_
 refine AWP.cond rfl (fun hb => ?_) (fun hb => ?_)
 ·have hlt1:i1<a0.length:=ot
  rw[yh hlt1]at hz1;simp only[y7n]at hz1
  iterate 2 refine rS ?_
  exact⟨_,[0],hlt1,wt,hz1,sm⟩
 ·obtain rfl:i1=a0.length:=ot
  rw[yi (Nat.le_refl _)]at hz1;subst hz1;dsimp only at hR
  refine AWP.exit ?_;refine yb ?_
  refine rS ?_
  refine AWP.ret ?_
  subst hR
  exact es
end N207
def D_zxc : DF
 | [x0]=>some (ownL 2 1 yp (zxc (rdL yob x0)),false,[wL 1 yp yob x0,(rdL yob x0).length<1099511627776])
 | _=>none
theorem y6x:OkD Tryz.prog 207 D_zxc:=by unfold D_zxc;exact dk N207.den
end Go.Ab

namespace Go.Ab
open Go Go.Proofs
theorem y5w (a:List Int):zxc a=a:=by
 unfold zxc
 rw[y5g (b:=y7n a) (fun i=>a.getD i default) (by simp) (fun i s _=>rfl)]
 skip
 exact yrb a
end Go.Ab

namespace Go.Ab
open Go Go.Proofs
def ztf (a0:Character):Character:=
 { Kind:=a0.Kind,Group:=(zxc a0.Group),Letter:=a0.Letter,Colors:=a0.Colors,Period:=a0.Period:Character }
namespace N102
theorem DD:DOk Tryz.prog (Go.Ab.DD [(207,dP D_zxc)]):=ya y6x.e <| yd _
theorem dn:type_of% (@D_zxc.eq_1):=by and_intros<;>intros<;>rfl
theorem ol:type_of% (@y5w):=@y5w
theorem den (a0:Character) (hb0:bdCharacter a0):Den Tryz.prog 102 [.agg (eCharacter a0)] (.agg (y4d (ztf a0))):=by
 generalize hR:ztf a0=r
 unfold ztf at hR
 refine di Tryz.func102 Tryz.ntmps102 Tryz.results102 ?_
 intro c hL hc hk
 obtain⟨hL0,_⟩:=hL
 have hw0:bwCharacter a0:=ym a0 hL0
 clear hL0
 simp only[pars,Nat.zero_add]
 iterate 8 refine rS ?_
 refine AWP.ret ?_
 subst hR
 exact es
end N102
def D_ztf : DF
 | [x0]=>some (.agg (y4d (ztf (rdG yc x0))),false,[wG eCharacter yc x0,bdCharacter (rdG yc x0)])
 | _=>none
theorem yjz:OkD Tryz.prog 102 D_ztf:=by unfold D_ztf;exact dk N102.den
end Go.Ab

namespace Go.Ab
open Go Go.Proofs
def zdf (a0:Sector):Sector:=
 a0
namespace N208
theorem DD:DOk Tryz.prog (Go.Ab.DD []):=yd _
theorem den (a0:Sector)  : Den Tryz.prog 208 [.agg (eSector a0)] (.agg (eSector (zdf a0))):=by
 generalize hR:zdf a0=r
 unfold zdf at hR
 refine di Tryz.func208 Tryz.ntmps208 Tryz.results208 ?_
 intro c hL hc hk
 obtain⟨hL0,_⟩:=hL
 have hw0:bwSector a0:=yn a0 hL0
 clear hL0
 simp only[pars,Nat.zero_add]
 iterate 6 refine rS ?_
 refine AWP.ret ?_
 subst hR
 exact es
end N208
def D_zdf : DF
 | [x0]=>some (.agg (eSector (zdf (rdG yk x0))),false,[wG eSector yk x0])
 | _=>none
theorem y81:OkD Tryz.prog 208 D_zdf:=by unfold D_zdf;exact dk N208.den
end Go.Ab

namespace Go.Ab
open Go Go.Proofs
def yrn (a0:(List Sector)) (i1:Nat) (s1:List Sector):Except ((List Sector)) (List Sector):=
 .ok (s1.set i1 (zdf (a0.getD i1 default)))
def zyc (a0:(List Sector)):(List Sector):=
 (match yf (yrn a0) (a0.length-0) 0 (List.replicate a0.length (default:Sector))with|.error e=>e|.ok s1=>s1)
namespace N103
theorem DD:DOk Tryz.prog (Go.Ab.DD [(208,dP D_zdf)]):=ya y81.e <| yd _
theorem dn:type_of% (@D_zdf.eq_1):=by and_intros<;>intros<;>rfl
theorem den (a0:(List Sector)) (hb0:a0.length<1099511627776) (hb1:∀ v∈a0,bdSector v):Den Tryz.prog 103 [encL 3 eSector a0] (ownL 188 3 eSector (zyc a0)):=by
 generalize hR:zyc a0=r
 unfold zyc at hR
 refine di Tryz.func103 Tryz.ntmps103 Tryz.results103 ?_
 intro c hL hc hk
 obtain⟨hL0,_⟩:=hL
 have hw0:a0.length<9223372036854775808:=Nat.lt_succ_of_le (ye hL0).1
 have hw1:∀ v∈a0,bwSector v:=fun v hv=>yn v ((ye hL0).2 v hv)
 clear hL0
 simp only[pars,Nat.zero_add]
 iterate 3 refine rS ?_
 refine AWP.block ?_
 generalize hz1:yf (yrn a0) (a0.length-0) 0 (List.replicate a0.length (default:Sector))=z1 at hR
 refine AWP.range (yrn a0) (fun i1 s1=>⟨[(0,encL 3 eSector a0),(3,.ref 0 3 0 s1.length),(4,.int .i64 (i1:Int))],[.arr 188 3 s1.length (fun j=>eSector (s1.getD j default))]⟩) (fun i1 s1=>s1.length=(List.replicate a0.length (default:Sector)).length) (a0.length) 0 (List.replicate a0.length (default:Sector)) [0] hz1 ot wt sm ?_
 clear hz1
 intro i1 s1 hi1 hW1 hz1
 refine rS ?_
 refine AWP.cond rfl (fun hb => ?_) (fun hb => ?_)
 ·have hlt1:i1<a0.length:=ot
  rw[yh hlt1]at hz1;simp only[yrn]at hz1
  iterate 2 refine rS ?_
  exact⟨_,[0],hlt1,wt,hz1,sm⟩
 ·obtain rfl:i1=a0.length:=ot
  rw[yi (Nat.le_refl _)]at hz1;subst hz1;dsimp only at hR
  refine AWP.exit ?_;refine yb ?_
  refine rS ?_
  refine AWP.ret ?_
  subst hR
  exact es
end N103
def D_zyc : DF
 | [x0]=>some (ownL 188 3 eSector (zyc (rdL yk x0)),false,[wL 3 eSector yk x0,(rdL yk x0).length<1099511627776,∀ v∈(rdL yk x0),bdSector v])
 | _=>none
theorem y60:OkD Tryz.prog 103 D_zyc:=by unfold D_zyc;exact dk N103.den
end Go.Ab

namespace Go.Ab
open Go Go.Proofs
theorem yz4 (v:Sector):zdf v=v:=by
 unfold zdf
 rfl
end Go.Ab

namespace Go.Ab
open Go Go.Proofs
theorem yrw (a:List Sector):zyc a=a:=by
 unfold zyc
 rw[y5g (b:=yrn a) (fun i=>zdf (a.getD i default)) (by simp) (fun i s _=>rfl)]
 simp only[yz4]
 exact yrb a
end Go.Ab

namespace Go.Ab
open Go Go.Proofs
def zo (a0:Aid):Aid:=
 { Number:=a0.Number,Name:=a0.Name,At:=(zrf a0.At),Height:=a0.Height,Mark:=(zsf a0.Mark),Light:=ztf a0.Light,Sectors:=(zyc a0.Sectors),Intensity:=a0.Intensity:Aid }
namespace N31
theorem DD:DOk Tryz.prog (Go.Ab.DD [(100,dP D_zrf),(101,dP D_zsf),(102,dP D_ztf),(103,dP D_zyc)]):=ya y70.e <| ya y3x.e <| ya yjz.e <| ya y60.e <| yd _
theorem dn:type_of% (And.intro @D_zrf.eq_1 <| And.intro @D_zsf.eq_1 <| And.intro @D_ztf.eq_1 <| @D_zyc.eq_1):=by and_intros<;>intros<;>rfl
theorem ol:type_of% (@yrw):=@yrw
theorem den (a0:Aid) (hb0:bdAid a0):Den Tryz.prog 31 [.agg (eAid a0)] (.agg (yeg (zo a0))):=by
 generalize hR:zo a0=r
 unfold zo at hR
 refine di Tryz.func31 Tryz.ntmps31 Tryz.results31 ?_
 intro c hL hc hk
 obtain⟨hL0,_⟩:=hL
 have hw0:bwAid a0:=yy a0 hL0
 clear hL0
 simp only[pars,Nat.zero_add]
 iterate 11 refine rS ?_
 refine AWP.ret ?_
 subst hR
 exact es
end N31
def D_zo : DF
 | [x0]=>some (.agg (yeg (zo (rdG dAid x0))),false,[wG eAid dAid x0,bdAid (rdG dAid x0)])
 | _=>none
def Dz_zo : DF
 | [x0]=>some (.agg (yeg (zo (rdG dAid x0))),true,[wG eAid dAid x0,bdAid (rdG dAid x0)])
 | _=>none
theorem yop:OkD Tryz.prog 31 D_zo:=by unfold D_zo;exact dk N31.den
theorem yn0:OkD Tryz.prog 31 Dz_zo:=by unfold Dz_zo;exact dk N31.den
end Go.Ab

namespace Go.Ab
open Go Go.Proofs
theorem yp5 (v:Point):zrf v=v:=by
 unfold zrf
 rfl
end Go.Ab

namespace Go.Ab
open Go Go.Proofs
theorem yq4 (v:Mark):zsf v=v:=by
 unfold zsf
 rfl
end Go.Ab

namespace Go.Ab
open Go Go.Proofs
theorem ym5 (v:Character):ztf v=v:=by
 unfold ztf
 simp only[y5w]
end Go.Ab

namespace Go.Ab
open Go Go.Proofs
theorem ykm (v:Aid):zo v=v:=by
 unfold zo
 simp only[yp5,yq4,ym5,yrw]
end Go.Ab

namespace Go.Ab
open Go Go.Proofs
def zuf (a0:Point) (a1:Point):Bool:=
 (bif (a0.X != a1.X)then false else(bif (a0.Y != a1.Y)then false else true))
namespace N110
theorem DD:DOk Tryz.prog (Go.Ab.DD []):=yd _
theorem den (a0:Point) (a1:Point)  : Den Tryz.prog 110 [.agg (ePoint a0),.agg (ePoint a1)] (.bool (zuf a0 a1)):=by
 generalize hR:zuf a0 a1=r
 unfold zuf at hR
 refine di Tryz.func110 Tryz.ntmps110 Tryz.results110 ?_
 intro c hL hc hk
 clear hL
 simp only[pars,Nat.zero_add]
 iterate 2 refine rS ?_
 refine AWP.cond rfl (fun hb => ?_) (fun hb => ?_)
 ·replace hR:=ct hR
  refine rS ?_
  refine AWP.ret ?_
  subst hR
  exact es
 ·replace hR:=cf hR
  refine rS ?_
  refine AWP.cond rfl (fun hb => ?_) (fun hb => ?_)
  ·replace hR:=ct hR
   refine rS ?_
   refine AWP.ret ?_
   subst hR
   exact es
  ·replace hR:=cf hR
   refine rS ?_
   refine AWP.ret ?_
   subst hR
   exact es
end N110
def D_zuf : DF
 | [x0,x1]=>some (.bool (zuf (rdG ysc x0) (rdG ysc x1)),false,[wG ePoint ysc x0,wG ePoint ysc x1])
 | _=>none
theorem yty:OkD Tryz.prog 110 D_zuf:=by unfold D_zuf;exact dk N110.den
end Go.Ab

namespace Go.Ab
open Go Go.Proofs
def zvf (a0:Mark) (a1:Mark):Bool:=
 (bif (a0.Kind != a1.Kind)then false else(bif (a0.Colors != a1.Colors)then false else(bif (a0.Shape != a1.Shape)then false else(bif (a0.Topmark != a1.Topmark)then false else true))))
namespace N111
theorem DD:DOk Tryz.prog (Go.Ab.DD []):=yd _
theorem den (a0:Mark) (a1:Mark)  : Den Tryz.prog 111 [.agg (eMark a0),.agg (eMark a1)] (.bool (zvf a0 a1)):=by
 generalize hR:zvf a0 a1=r
 unfold zvf at hR
 refine di Tryz.func111 Tryz.ntmps111 Tryz.results111 ?_
 intro c hL hc hk
 obtain⟨hL0,hL1,_⟩:=hL
 have hw0:bwMark a0:=y2b a0 hL0
 have hw1:bwMark a1:=y2b a1 hL1
 clear hL0 hL1
 simp only[pars,Nat.zero_add]
 iterate 2 refine rS ?_
 refine AWP.cond rfl (fun hb => ?_) (fun hb => ?_)
 ·replace hR:=ct hR
  refine rS ?_
  refine AWP.ret ?_
  subst hR
  exact es
 ·replace hR:=cf hR
  refine rS ?_
  refine AWP.cond rfl (fun hb => ?_) (fun hb => ?_)
  ·replace hR:=ct hR
   refine rS ?_
   refine AWP.ret ?_
   subst hR
   exact es
  ·replace hR:=cf hR
   refine rS ?_
   refine AWP.cond rfl (fun hb => ?_) (fun hb => ?_)
   ·replace hR:=ct hR
    refine rS ?_
    refine AWP.ret ?_
    subst hR
    exact es
   ·replace hR:=cf hR
    refine rS ?_
    refine AWP.cond rfl (fun hb => ?_) (fun hb => ?_)
    ·replace hR:=ct hR
     refine rS ?_
     refine AWP.ret ?_
     subst hR
     exact es
    ·replace hR:=cf hR
     refine rS ?_
     refine AWP.ret ?_
     subst hR
     exact es
end N111
def D_zvf : DF
 | [x0,x1]=>some (.bool (zvf (rdG ync x0) (rdG ync x1)),false,[wG eMark ync x0,wG eMark ync x1])
 | _=>none
theorem yr0:OkD Tryz.prog 111 D_zvf:=by unfold D_zvf;exact dk N111.den
end Go.Ab

namespace Go.Ab
open Go Go.Proofs
def ytk (a0:(List Int)) (a1:(List Int)) (i1:Nat) (s1:Unit):Except (Bool) (Unit):=
 (bif ((a0.getD i1 default) != (a1.getD i1 default))then .error false else .ok ())
def zgd (a0:(List Int)) (a1:(List Int)):Bool:=
 (bif ((a0.length:Int) != (a1.length:Int))then false else(match yf (ytk a0 a1) (a0.length-0) 0 ()with|.error e=>e|.ok s1=>true))
namespace N220
theorem DD:DOk Tryz.prog (Go.Ab.DD []):=yd _
theorem den (a0:(List Int)) (a1:(List Int))  : Den Tryz.prog 220 [encL 1 yp a0,encL 1 yp a1] (.bool (zgd a0 a1)):=by
 generalize hR:zgd a0 a1=r
 unfold zgd at hR
 refine di Tryz.func220 Tryz.ntmps220 Tryz.results220 ?_
 intro c hL hc hk
 obtain⟨hL0,hL1,_⟩:=hL
 have hw0:a0.length<9223372036854775808:=Nat.lt_succ_of_le (ye hL0).1
 have hw1:a1.length<9223372036854775808:=Nat.lt_succ_of_le (ye hL1).1
 clear hL0 hL1
 simp only[pars,Nat.zero_add]
 iterate 2 refine rS ?_
 refine AWP.cond rfl (fun hb => ?_) (fun hb => ?_)
 ·replace hR:=ct hR
  refine rS ?_
  refine AWP.ret ?_
  subst hR
  exact es
 ·replace hR:=cf hR
  refine rS ?_
  refine AWP.block ?_
  generalize hz1:yf (ytk a0 a1) (a0.length-0) 0 ()=z1 at hR
  refine AWP.range (ytk a0 a1) (fun i1 s1=>⟨[(0,encL 1 yp a0),(1,encL 1 yp a1),(5,.int .i64 (i1:Int))],[]⟩) (fun i1 s1=>True) (a0.length) 0 () [] hz1 ot wt sm ?_
  clear hz1
  intro i1 s1 hi1 hW1 hz1
  refine rS ?_
  refine AWP.cond rfl (fun hb => ?_) (fun hb => ?_)
  ·have hlt1:i1<a0.length:=ot
   rw[yh hlt1]at hz1;simp only[ytk]at hz1
   refine rD 8 ?_
   refine AWP.cond rfl (fun hb => ?_) (fun hb => ?_)
   ·simp only[hb,cond_true]at hz1
    refine rS ?_
    refine AWP.ret ?_
    subst hz1
    dsimp only at hR
    subst hR
    exact es
   ·simp only[hb,cond_false]at hz1
    refine rS ?_
    exact⟨_,[],hlt1,wt,hz1,sm⟩
  ·obtain rfl:i1=a0.length:=ot
   rw[yi (Nat.le_refl _)]at hz1;subst hz1;dsimp only at hR
   refine AWP.exit ?_;refine yb ?_
   refine rS ?_
   refine AWP.ret ?_
   subst hR
   exact es
end N220
def D_zgd : DF
 | [x0,x1]=>some (.bool (zgd (rdL yob x0) (rdL yob x1)),false,[wL 1 yp yob x0,wL 1 yp yob x1])
 | _=>none
theorem ys0:OkD Tryz.prog 220 D_zgd:=by unfold D_zgd;exact dk N220.den
end Go.Ab

namespace Go.Ab
open Go Go.Proofs
def zwf (a0:Character) (a1:Character):Bool:=
 (bif (a0.Kind != a1.Kind)then false else(bif (!(zgd a0.Group a1.Group))then false else(bif (a0.Letter != a1.Letter)then false else(bif (a0.Colors != a1.Colors)then false else(bif (a0.Period != a1.Period)then false else true)))))
namespace N112
theorem DD:DOk Tryz.prog (Go.Ab.DD [(220,dP D_zgd)]):=ya ys0.e <| yd _
theorem dn:type_of% (@D_zgd.eq_1):=by and_intros<;>intros<;>rfl
theorem den (a0:Character) (a1:Character)  : Den Tryz.prog 112 [.agg (eCharacter a0),.agg (eCharacter a1)] (.bool (zwf a0 a1)):=by
 generalize hR:zwf a0 a1=r
 unfold zwf at hR
 refine di Tryz.func112 Tryz.ntmps112 Tryz.results112 ?_
 intro c hL hc hk
 obtain⟨hL0,hL1,_⟩:=hL
 have hw0:bwCharacter a0:=ym a0 hL0
 have hw1:bwCharacter a1:=ym a1 hL1
 clear hL0 hL1
 simp only[pars,Nat.zero_add]
 iterate 2 refine rS ?_
 refine AWP.cond rfl (fun hb => ?_) (fun hb => ?_)
 ·replace hR:=ct hR
  refine rS ?_
  refine AWP.ret ?_
  subst hR
  exact es
 ·replace hR:=cf hR
  refine rS ?_
  refine AWP.cond rfl (fun hb => ?_) (fun hb => ?_)
  ·replace hR:=ct hR
   refine rS ?_
   refine AWP.ret ?_
   subst hR
   exact es
  ·replace hR:=cf hR
   refine rS ?_
   refine AWP.cond rfl (fun hb => ?_) (fun hb => ?_)
   ·replace hR:=ct hR
    refine rS ?_
    refine AWP.ret ?_
    subst hR
    exact es
   ·replace hR:=cf hR
    refine rS ?_
    refine AWP.cond rfl (fun hb => ?_) (fun hb => ?_)
    ·replace hR:=ct hR
     refine rS ?_
     refine AWP.ret ?_
     subst hR
     exact es
    ·replace hR:=cf hR
     refine rS ?_
     refine AWP.cond rfl (fun hb => ?_) (fun hb => ?_)
     ·replace hR:=ct hR
      refine rS ?_
      refine AWP.ret ?_
      subst hR
      exact es
     ·replace hR:=cf hR
      refine rS ?_
      refine AWP.ret ?_
      subst hR
      exact es
end N112
def D_zwf : DF
 | [x0,x1]=>some (.bool (zwf (rdG yc x0) (rdG yc x1)),false,[wG eCharacter yc x0,wG eCharacter yc x1])
 | _=>none
theorem yly:OkD Tryz.prog 112 D_zwf:=by unfold D_zwf;exact dk N112.den
end Go.Ab

namespace Go.Ab
open Go Go.Proofs
def zxf (a0:Sector) (a1:Sector):Bool:=
 (bif (a0.From != a1.From)then false else(bif (a0.To != a1.To)then false else(bif (a0.Color != a1.Color)then false else true)))
namespace N221
theorem DD:DOk Tryz.prog (Go.Ab.DD []):=yd _
theorem den (a0:Sector) (a1:Sector)  : Den Tryz.prog 221 [.agg (eSector a0),.agg (eSector a1)] (.bool (zxf a0 a1)):=by
 generalize hR:zxf a0 a1=r
 unfold zxf at hR
 refine di Tryz.func221 Tryz.ntmps221 Tryz.results221 ?_
 intro c hL hc hk
 obtain⟨hL0,hL1,_⟩:=hL
 have hw0:bwSector a0:=yn a0 hL0
 have hw1:bwSector a1:=yn a1 hL1
 clear hL0 hL1
 simp only[pars,Nat.zero_add]
 iterate 2 refine rS ?_
 refine AWP.cond rfl (fun hb => ?_) (fun hb => ?_)
 ·replace hR:=ct hR
  refine rS ?_
  refine AWP.ret ?_
  subst hR
  exact es
 ·replace hR:=cf hR
  refine rS ?_
  refine AWP.cond rfl (fun hb => ?_) (fun hb => ?_)
  ·replace hR:=ct hR
   refine rS ?_
   refine AWP.ret ?_
   subst hR
   exact es
  ·replace hR:=cf hR
   refine rS ?_
   refine AWP.cond rfl (fun hb => ?_) (fun hb => ?_)
   ·replace hR:=ct hR
    refine rS ?_
    refine AWP.ret ?_
    subst hR
    exact es
   ·replace hR:=cf hR
    refine rS ?_
    refine AWP.ret ?_
    subst hR
    exact es
end N221
def D_zxf : DF
 | [x0,x1]=>some (.bool (zxf (rdG yk x0) (rdG yk x1)),false,[wG eSector yk x0,wG eSector yk x1])
 | _=>none
theorem yh0:OkD Tryz.prog 221 D_zxf:=by unfold D_zxf;exact dk N221.den
end Go.Ab

namespace Go.Ab
open Go Go.Proofs
def yuk (a0:(List Sector)) (a1:(List Sector)) (i1:Nat) (s1:Unit):Except (Bool) (Unit):=
 (bif (!(zxf (a0.getD i1 default) (a1.getD i1 default)))then .error false else .ok ())
def zhd (a0:(List Sector)) (a1:(List Sector)):Bool:=
 (bif ((a0.length:Int) != (a1.length:Int))then false else(match yf (yuk a0 a1) (a0.length-0) 0 ()with|.error e=>e|.ok s1=>true))
namespace N113
theorem DD:DOk Tryz.prog (Go.Ab.DD [(221,dP D_zxf)]):=ya yh0.e <| yd _
theorem dn:type_of% (@D_zxf.eq_1):=by and_intros<;>intros<;>rfl
theorem den (a0:(List Sector)) (a1:(List Sector))  : Den Tryz.prog 113 [encL 3 eSector a0,encL 3 eSector a1] (.bool (zhd a0 a1)):=by
 generalize hR:zhd a0 a1=r
 unfold zhd at hR
 refine di Tryz.func113 Tryz.ntmps113 Tryz.results113 ?_
 intro c hL hc hk
 obtain⟨hL0,hL1,_⟩:=hL
 have hw0:a0.length<9223372036854775808:=Nat.lt_succ_of_le (ye hL0).1
 have hw1:∀ v∈a0,bwSector v:=fun v hv=>yn v ((ye hL0).2 v hv)
 have hw2:a1.length<9223372036854775808:=Nat.lt_succ_of_le (ye hL1).1
 have hw3:∀ v∈a1,bwSector v:=fun v hv=>yn v ((ye hL1).2 v hv)
 clear hL0 hL1
 simp only[pars,Nat.zero_add]
 iterate 2 refine rS ?_
 refine AWP.cond rfl (fun hb => ?_) (fun hb => ?_)
 ·replace hR:=ct hR
  refine rS ?_
  refine AWP.ret ?_
  subst hR
  exact es
 ·replace hR:=cf hR
  refine rS ?_
  refine AWP.block ?_
  generalize hz1:yf (yuk a0 a1) (a0.length-0) 0 ()=z1 at hR
  refine AWP.range (yuk a0 a1) (fun i1 s1=>⟨[(0,encL 3 eSector a0),(1,encL 3 eSector a1),(5,.int .i64 (i1:Int))],[]⟩) (fun i1 s1=>True) (a0.length) 0 () [] hz1 ot wt sm ?_
  clear hz1
  intro i1 s1 hi1 hW1 hz1
  refine rS ?_
  refine AWP.cond rfl (fun hb => ?_) (fun hb => ?_)
  ·have hlt1:i1<a0.length:=ot
   rw[yh hlt1]at hz1;simp only[yuk]at hz1
   refine rD 8 ?_
   refine AWP.cond rfl (fun hb => ?_) (fun hb => ?_)
   ·simp only[hb,cond_true]at hz1
    refine rS ?_
    refine AWP.ret ?_
    subst hz1
    dsimp only at hR
    subst hR
    exact es
   ·simp only[hb,cond_false]at hz1
    refine rS ?_
    exact⟨_,[],hlt1,wt,hz1,sm⟩
  ·obtain rfl:i1=a0.length:=ot
   rw[yi (Nat.le_refl _)]at hz1;subst hz1;dsimp only at hR
   refine AWP.exit ?_;refine yb ?_
   refine rS ?_
   refine AWP.ret ?_
   subst hR
   exact es
end N113
def D_zhd : DF
 | [x0,x1]=>some (.bool (zhd (rdL yk x0) (rdL yk x1)),false,[wL 3 eSector yk x0,wL 3 eSector yk x1])
 | _=>none
theorem y8y:OkD Tryz.prog 113 D_zhd:=by unfold D_zhd;exact dk N113.den
end Go.Ab

namespace Go.Ab
open Go Go.Proofs
def zcc (a0:Aid) (a1:Aid):Bool:=
 (bif (a0.Number != a1.Number)then false else(bif (a0.Name != a1.Name)then false else(bif (!(zuf a0.At a1.At))then false else(bif (a0.Height != a1.Height)then false else(bif (!(zvf a0.Mark a1.Mark))then false else(bif (!(zwf a0.Light a1.Light))then false else(bif (!(zhd a0.Sectors a1.Sectors))then false else(bif (a0.Intensity != a1.Intensity)then false else true))))))))
namespace N33
theorem DD:DOk Tryz.prog (Go.Ab.DD [(110,dP D_zuf),(111,dP D_zvf),(112,dP D_zwf),(113,dP D_zhd)]):=ya yty.e <| ya yr0.e <| ya yly.e <| ya y8y.e <| yd _
theorem dn:type_of% (And.intro @D_zuf.eq_1 <| And.intro @D_zvf.eq_1 <| And.intro @D_zwf.eq_1 <| @D_zhd.eq_1):=by and_intros<;>intros<;>rfl
theorem den (a0:Aid) (a1:Aid)  : Den Tryz.prog 33 [.agg (eAid a0),.agg (eAid a1)] (.bool (zcc a0 a1)):=by
 generalize hR:zcc a0 a1=r
 unfold zcc at hR
 refine di Tryz.func33 Tryz.ntmps33 Tryz.results33 ?_
 intro c hL hc hk
 obtain⟨hL0,hL1,_⟩:=hL
 have hw0:bwAid a0:=yy a0 hL0
 have hw1:bwAid a1:=yy a1 hL1
 clear hL0 hL1
 simp only[pars,Nat.zero_add]
 iterate 2 refine rS ?_
 refine AWP.cond rfl (fun hb => ?_) (fun hb => ?_)
 ·replace hR:=ct hR
  refine rS ?_
  refine AWP.ret ?_
  subst hR
  exact es
 ·replace hR:=cf hR
  refine rS ?_
  refine AWP.cond rfl (fun hb => ?_) (fun hb => ?_)
  ·replace hR:=ct hR
   refine rS ?_
   refine AWP.ret ?_
   subst hR
   exact es
  ·replace hR:=cf hR
   refine rS ?_
   refine AWP.cond rfl (fun hb => ?_) (fun hb => ?_)
   ·replace hR:=ct hR
    refine rS ?_
    refine AWP.ret ?_
    subst hR
    exact es
   ·replace hR:=cf hR
    refine rS ?_
    refine AWP.cond rfl (fun hb => ?_) (fun hb => ?_)
    ·replace hR:=ct hR
     refine rS ?_
     refine AWP.ret ?_
     subst hR
     exact es
    ·replace hR:=cf hR
     refine rS ?_
     refine AWP.cond rfl (fun hb => ?_) (fun hb => ?_)
     ·replace hR:=ct hR
      refine rS ?_
      refine AWP.ret ?_
      subst hR
      exact es
     ·replace hR:=cf hR
      refine rS ?_
      refine AWP.cond rfl (fun hb => ?_) (fun hb => ?_)
      ·replace hR:=ct hR
       refine rS ?_
       refine AWP.ret ?_
       subst hR
       exact es
      ·replace hR:=cf hR
       refine rS ?_
       refine AWP.cond rfl (fun hb => ?_) (fun hb => ?_)
       ·replace hR:=ct hR
        refine rS ?_
        refine AWP.ret ?_
        subst hR
        exact es
       ·replace hR:=cf hR
        refine rS ?_
        refine AWP.cond rfl (fun hb => ?_) (fun hb => ?_)
        ·replace hR:=ct hR
         refine rS ?_
         refine AWP.ret ?_
         subst hR
         exact es
        ·replace hR:=cf hR
         refine rS ?_
         refine AWP.ret ?_
         subst hR
         exact es
end N33
def D_zcc : DF
 | [x0,x1]=>some (.bool (zcc (rdG dAid x0) (rdG dAid x1)),false,[wG eAid dAid x0,wG eAid dAid x1])
 | _=>none
theorem yfi:OkD Tryz.prog 33 D_zcc:=by unfold D_zcc;exact dk N33.den
end Go.Ab

namespace Go.Ab
open Go Go.Proofs
theorem yw3 (a b:Point):zuf a b=decide (a=b):=by
 unfold zuf
 skip
 by_cases h:a=b
 ·subst h;simp
 ·rw[decide_eq_false h]
  cases a;cases b
  simp only[Point.mk.injEq]at h
  simp only[bne_iff_ne,Bool.cond_eq_ite,ite_eq_right_iff]
  (repeat' split)<;>simp_all
end Go.Ab

namespace Go.Ab
open Go Go.Proofs
theorem ym3 (a b:Mark):zvf a b=decide (a=b):=by
 unfold zvf
 skip
 by_cases h:a=b
 ·subst h;simp
 ·rw[decide_eq_false h]
  cases a;cases b
  simp only[Mark.mk.injEq]at h
  simp only[bne_iff_ne,Bool.cond_eq_ite,ite_eq_right_iff]
  (repeat' split)<;>simp_all
end Go.Ab

namespace Go.Ab
open Go Go.Proofs
theorem y62 (a b:List Int):zgd a b=decide (a=b):=by
 unfold zgd
 by_cases hl:a.length=b.length
 ·have h1:((a.length:Int) != (b.length:Int))=false:=by simp[hl]
  rw[h1,cond_false,yac (b:=ytk a b) (fun j => !decide (a.getD j default=b.getD j default)) false (fun j u _ _=>by simp only[ytk,ned])]
  simp only[Nat.sub_zero,Nat.zero_add]
  rw[yyk a b hl]
  by_cases h:a=b<;>simp[h]
 ·have h1:((a.length:Int) != (b.length:Int))=true:=by simp;omega
  have h2:¬ a=b:=fun e=>hl (by rw[e])
  rw[h1,cond_true,decide_eq_false h2]
end Go.Ab

namespace Go.Ab
open Go Go.Proofs
theorem y53 (a b:Character):zwf a b=decide (a=b):=by
 unfold zwf
 simp only[y62]
 by_cases h:a=b
 ·subst h;simp
 ·rw[decide_eq_false h]
  cases a;cases b
  simp only[Character.mk.injEq]at h
  simp only[bne_iff_ne,Bool.cond_eq_ite,ite_eq_right_iff]
  (repeat' split)<;>simp_all
end Go.Ab

namespace Go.Ab
open Go Go.Proofs
theorem y92 (a b:Sector):zxf a b=decide (a=b):=by
 unfold zxf
 skip
 by_cases h:a=b
 ·subst h;simp
 ·rw[decide_eq_false h]
  cases a;cases b
  simp only[Sector.mk.injEq]at h
  simp only[bne_iff_ne,Bool.cond_eq_ite,ite_eq_right_iff]
  (repeat' split)<;>simp_all
end Go.Ab

namespace Go.Ab
open Go Go.Proofs
theorem yj4 (a b:List Sector):zhd a b=decide (a=b):=by
 unfold zhd
 by_cases hl:a.length=b.length
 ·have h1:((a.length:Int) != (b.length:Int))=false:=by simp[hl]
  rw[h1,cond_false,yac (b:=yuk a b) (fun j => !decide (a.getD j default=b.getD j default)) false (fun j u _ _=>by simp only[yuk,y92])]
  simp only[Nat.sub_zero,Nat.zero_add]
  rw[yyk a b hl]
  by_cases h:a=b<;>simp[h]
 ·have h1:((a.length:Int) != (b.length:Int))=true:=by simp;omega
  have h2:¬ a=b:=fun e=>hl (by rw[e])
  rw[h1,cond_true,decide_eq_false h2]
end Go.Ab

namespace Go.Ab
open Go Go.Proofs
theorem y9p (a b:Aid):zcc a b=decide (a=b):=by
 unfold zcc
 simp only[yw3,ym3,y53,yj4]
 by_cases h:a=b
 ·subst h;simp
 ·rw[decide_eq_false h]
  cases a;cases b
  simp only[Aid.mk.injEq]at h
  simp only[bne_iff_ne,Bool.cond_eq_ite,ite_eq_right_iff]
  (repeat' split)<;>simp_all
end Go.Ab

namespace Go.Ab
open Go Go.Proofs
def zkc (a0:Mark) (a1:Int):Int:=
 (bif decide ((IntKind.wrap .i64 (a1-(a0.Colors.length:Int)))<0)then(-1)else(bif decide ((IntKind.wrap .i64 ((IntKind.wrap .i64 (a1-(a0.Colors.length:Int)))-(a0.Shape.length:Int)))<0)then(-1)else(bif decide ((IntKind.wrap .i64 ((IntKind.wrap .i64 ((IntKind.wrap .i64 (a1-(a0.Colors.length:Int)))-(a0.Shape.length:Int)))-(a0.Topmark.length:Int)))<0)then(-1)else IntKind.wrap .i64 ((IntKind.wrap .i64 ((IntKind.wrap .i64 (a1-(a0.Colors.length:Int)))-(a0.Shape.length:Int)))-(a0.Topmark.length:Int)))))
namespace N95
theorem DD:DOk Tryz.prog (Go.Ab.DD []):=yd _
theorem den (a0:Mark) (a1:Int)  : Den Tryz.prog 95 [.agg (eMark a0),.int .i64 a1] (.int .i64 (zkc a0 a1)):=by
 generalize hR:zkc a0 a1=r
 unfold zkc at hR
 refine di Tryz.func95 Tryz.ntmps95 Tryz.results95 ?_
 intro c hL hc hk
 obtain⟨hL0,hL1,_⟩:=hL
 have hw0:bwMark a0:=y2b a0 hL0
 clear hL0 hL1
 simp only[pars,Nat.zero_add]
 iterate 3 refine rS ?_
 refine AWP.cond rfl (fun hb => ?_) (fun hb => ?_)
 ·replace hR:=ct hR
  refine rS ?_
  refine AWP.ret ?_
  subst hR
  exact es
 ·replace hR:=cf hR
  iterate 2 refine rS ?_
  refine AWP.cond rfl (fun hb => ?_) (fun hb => ?_)
  ·replace hR:=ct hR
   refine rS ?_
   refine AWP.ret ?_
   subst hR
   exact es
  ·replace hR:=cf hR
   iterate 2 refine rS ?_
   refine AWP.cond rfl (fun hb => ?_) (fun hb => ?_)
   ·replace hR:=ct hR
    refine rS ?_
    refine AWP.ret ?_
    subst hR
    exact es
   ·replace hR:=cf hR
    refine rS ?_
    refine AWP.ret ?_
    subst hR
    exact es
end N95
def D_zkc : DF
 | [x0,x1]=>some (.int .i64 (zkc (rdG ync x0) (rdI x1)),false,[wG eMark ync x0,wI .i64 x1])
 | _=>none
theorem y4z:OkD Tryz.prog 95 D_zkc:=by unfold D_zkc;exact dk N95.den
end Go.Ab

namespace Go.Ab
open Go Go.Proofs
def zdc (a0:(List Int)) (a1:Int):Int:=
 (bif decide ((IntKind.wrap .i64 (a1-(a0.length:Int)))<0)then(-1)else IntKind.wrap .i64 (a1-(a0.length:Int)))
namespace N193
theorem DD:DOk Tryz.prog (Go.Ab.DD []):=yd _
theorem den (a0:(List Int)) (a1:Int)  : Den Tryz.prog 193 [encL 1 yp a0,.int .i64 a1] (.int .i64 (zdc a0 a1)):=by
 generalize hR:zdc a0 a1=r
 unfold zdc at hR
 refine di Tryz.func193 Tryz.ntmps193 Tryz.results193 ?_
 intro c hL hc hk
 obtain⟨hL0,hL1,_⟩:=hL
 have hw0:a0.length<9223372036854775808:=Nat.lt_succ_of_le (ye hL0).1
 clear hL0 hL1
 simp only[pars,Nat.zero_add]
 iterate 3 refine rS ?_
 refine AWP.cond rfl (fun hb => ?_) (fun hb => ?_)
 ·replace hR:=ct hR
  refine rS ?_
  refine AWP.ret ?_
  subst hR
  exact es
 ·replace hR:=cf hR
  refine rS ?_
  refine AWP.ret ?_
  subst hR
  exact es
end N193
def D_zdc : DF
 | [x0,x1]=>some (.int .i64 (zdc (rdL yob x0) (rdI x1)),false,[wL 1 yp yob x0,wI .i64 x1])
 | _=>none
theorem ypy:OkD Tryz.prog 193 D_zdc:=by unfold D_zdc;exact dk N193.den
end Go.Ab

namespace Go.Ab
open Go Go.Proofs
theorem ykv (a:List Int) (n:Int) (h0 : -1≤n) (h1:n≤1048576) (hl:a.length<9223372036854775808) :
  -1≤zdc a n∧zdc a n≤n∧(¬ zdc a n<0→a.length≤1048576):=by
 unfold zdc
 rw[show IntKind.wrap .i64 (n-(a.length:Int))=n-a.length from by rw[IntKind.wrap_i64];omega]
 by_cases c:n-(a.length:Int)<0
 ·rw[decide_eq_true c];exact⟨by simp,by simpa using h0,fun h=>absurd (by simp) h⟩
 ·rw[decide_eq_false c];simp only[cond_false];omega
end Go.Ab

namespace Go.Ab
open Go Go.Proofs
def zid (a0:Character) (a1:Int):Int:=
 (bif decide ((zdc a0.Group a1)<0)then(-1)else(bif decide ((IntKind.wrap .i64 ((zdc a0.Group a1)-(a0.Letter.length:Int)))<0)then(-1)else(bif decide ((IntKind.wrap .i64 ((IntKind.wrap .i64 ((zdc a0.Group a1)-(a0.Letter.length:Int)))-(a0.Colors.length:Int)))<0)then(-1)else IntKind.wrap .i64 ((IntKind.wrap .i64 ((zdc a0.Group a1)-(a0.Letter.length:Int)))-(a0.Colors.length:Int)))))
namespace N96
theorem DD:DOk Tryz.prog (Go.Ab.DD [(193,dP D_zdc)]):=ya ypy.e <| yd _
theorem dn:type_of% (@D_zdc.eq_1):=by and_intros<;>intros<;>rfl
theorem den (a0:Character) (a1:Int)  : Den Tryz.prog 96 [.agg (eCharacter a0),.int .i64 a1] (.int .i64 (zid a0 a1)):=by
 generalize hR:zid a0 a1=r
 unfold zid at hR
 refine di Tryz.func96 Tryz.ntmps96 Tryz.results96 ?_
 intro c hL hc hk
 obtain⟨hL0,hL1,_⟩:=hL
 have hw0:bwCharacter a0:=ym a0 hL0
 clear hL0 hL1
 simp only[pars,Nat.zero_add]
 iterate 3 refine rS ?_
 refine AWP.cond rfl (fun hb => ?_) (fun hb => ?_)
 ·replace hR:=ct hR
  refine rS ?_
  refine AWP.ret ?_
  subst hR
  exact es
 ·replace hR:=cf hR
  iterate 2 refine rS ?_
  refine AWP.cond rfl (fun hb => ?_) (fun hb => ?_)
  ·replace hR:=ct hR
   refine rS ?_
   refine AWP.ret ?_
   subst hR
   exact es
  ·replace hR:=cf hR
   iterate 2 refine rS ?_
   refine AWP.cond rfl (fun hb => ?_) (fun hb => ?_)
   ·replace hR:=ct hR
    refine rS ?_
    refine AWP.ret ?_
    subst hR
    exact es
   ·replace hR:=cf hR
    refine rS ?_
    refine AWP.ret ?_
    subst hR
    exact es
end N96
def D_zid : DF
 | [x0,x1]=>some (.int .i64 (zid (rdG yc x0) (rdI x1)),false,[wG eCharacter yc x0,wI .i64 x1])
 | _=>none
theorem yt1:OkD Tryz.prog 96 D_zid:=by unfold D_zid;exact dk N96.den
end Go.Ab

namespace Go.Ab
open Go Go.Proofs
def zyd (a0:Sector) (a1:Int):Int:=
 (bif decide ((IntKind.wrap .i64 (a1-(a0.Color.length:Int)))<0)then(-1)else IntKind.wrap .i64 (a1-(a0.Color.length:Int)))
namespace N194
theorem DD:DOk Tryz.prog (Go.Ab.DD []):=yd _
theorem den (a0:Sector) (a1:Int)  : Den Tryz.prog 194 [.agg (eSector a0),.int .i64 a1] (.int .i64 (zyd a0 a1)):=by
 generalize hR:zyd a0 a1=r
 unfold zyd at hR
 refine di Tryz.func194 Tryz.ntmps194 Tryz.results194 ?_
 intro c hL hc hk
 obtain⟨hL0,hL1,_⟩:=hL
 have hw0:bwSector a0:=yn a0 hL0
 clear hL0 hL1
 simp only[pars,Nat.zero_add]
 iterate 3 refine rS ?_
 refine AWP.cond rfl (fun hb => ?_) (fun hb => ?_)
 ·replace hR:=ct hR
  refine rS ?_
  refine AWP.ret ?_
  subst hR
  exact es
 ·replace hR:=cf hR
  refine rS ?_
  refine AWP.ret ?_
  subst hR
  exact es
end N194
def D_zyd : DF
 | [x0,x1]=>some (.int .i64 (zyd (rdG yk x0) (rdI x1)),false,[wG eSector yk x0,wI .i64 x1])
 | _=>none
theorem y51:OkD Tryz.prog 194 D_zyd:=by unfold D_zyd;exact dk N194.den
end Go.Ab
