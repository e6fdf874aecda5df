/- A part of a proof: walks of functions and lemmas of our own. No conditions. -/
import Derived.Test.YtopoomikfjodkaaGreatDoorVAl
import Derived.Test.YtopoomikfjodkaaGreatDoorVAz
import Derived.Test.YtopoomikfjodkaaGreatDoorVAy
import Derived.Test.YtopoomikfjodkaaGreatDoorVBg
import Derived.Test.YtopoomikfjodkaaGreatDoorVAs
import Derived.Test.YtopoomikfjodkaaGreatDoorVAt
import Derived.Test.YtopoomikfjodkaaGreatDoorVBf
import Derived.Test.YtopoomikfjodkaaGreatDoorVAp
import Derived.Test.YtopoomikfjodkaaGreatDoorVAo
import Derived.Test.YtopoomikfjodkaaGreatDoorVAk
set_option linter.unusedSectionVars false
set_option linter.unusedVariables false
set_option linter.unusedSimpArgs false
set_option maxHeartbeats 1000000
namespace Go.Ab
open Go Go.Proofs
def y1o (a0:Character) (i1:Nat) (s1:List UInt8):Except ((List UInt8)) (List UInt8):=
 (bif ((i1:Int) == 0)then .ok (s1++([40]++(za (a0.Group.getD i1 default))))else .ok (s1++([43]++(za (a0.Group.getD i1 default)))))
def y2o (a0:Character) (i2:Nat) (s2:List UInt8):Except ((List UInt8)) (List UInt8):=
 (bif ((i2:Int) == 0)then .ok (s2++([40]++(za (a0.Group.getD i2 default))))else .ok (s2++([43]++(za (a0.Group.getD i2 default)))))
def zxb (a0:Character):(List UInt8):=
 (bif (a0.Kind == 8)then(match yf (y1o a0) (a0.Group.length-0) 0 (((zvb ).getD ((a0.Kind).toNat) default)++(([40]++a0.Letter)++[41]))with|.error e=>e|.ok s1=>(bif decide (0<(a0.Group.length:Int))then(bif ((a0.Letter == [76]) && (a0.Kind != 8))then(bif decide (0<a0.Period)then(((s1++[41])++[43,76,70,108])++([32]++a0.Colors))++([32]++(zjc a0.Period))else((s1++[41])++[43,76,70,108])++([32]++a0.Colors))else(bif decide (0<a0.Period)then((s1++[41])++([32]++a0.Colors))++([32]++(zjc a0.Period))else(s1++[41])++([32]++a0.Colors)))else(bif ((a0.Letter == [76]) && (a0.Kind != 8))then(bif decide (0<a0.Period)then((s1++[43,76,70,108])++([32]++a0.Colors))++([32]++(zjc a0.Period))else(s1++[43,76,70,108])++([32]++a0.Colors))else(bif decide (0<a0.Period)then(s1++([32]++a0.Colors))++([32]++(zjc a0.Period))else s1++([32]++a0.Colors)))))else(match yf (y2o a0) (a0.Group.length-0) 0 ((zvb ).getD ((a0.Kind).toNat) default)with|.error e=>e|.ok s2=>(bif decide (0<(a0.Group.length:Int))then(bif ((a0.Letter == [76]) && (a0.Kind != 8))then(bif decide (0<a0.Period)then(((s2++[41])++[43,76,70,108])++([32]++a0.Colors))++([32]++(zjc a0.Period))else((s2++[41])++[43,76,70,108])++([32]++a0.Colors))else(bif decide (0<a0.Period)then((s2++[41])++([32]++a0.Colors))++([32]++(zjc a0.Period))else(s2++[41])++([32]++a0.Colors)))else(bif ((a0.Letter == [76]) && (a0.Kind != 8))then(bif decide (0<a0.Period)then((s2++[43,76,70,108])++([32]++a0.Colors))++([32]++(zjc a0.Period))else(s2++[43,76,70,108])++([32]++a0.Colors))else(bif decide (0<a0.Period)then(s2++([32]++a0.Colors))++([32]++(zjc a0.Period))else s2++([32]++a0.Colors))))))
namespace N203
theorem DD:DOk Tryz.prog (Go.Ab.DD [(166,dP D_za),(279,dP D_zvb),(280,dP D_zjc)]):=ya ytc.e <| ya yky.e <| ya yvs.e <| yd _
theorem DZ:DOk Tryz.prog (Go.Ab.DD [(166,dP D_za),(279,dP Dz_zvb),(280,dP D_zjc)]):=ya ytc.e <| ya y4v.e <| ya yvs.e <| yd _
theorem dn:type_of% (And.intro @D_za.eq_1 <| And.intro @D_zvb.eq_1 <| And.intro @D_zjc.eq_1 <| @Dz_zvb.eq_1):=by and_intros<;>intros<;>rfl
theorem o0 {p:Prop} (h:p:=by(first|(and_intros<;>(first|omega|((try simp only[List.length_append,List.length_cons,List.length_nil,List.length_singleton]);omega)|(have h9:=hg9 i1;omega)|(have h9:=hg9 i2;omega)|(have h9:=hd9 i1;(try simp only[List.length_append,List.length_cons,List.length_nil,List.length_singleton]);omega)|(have h9:=hd9 i2;(try simp only[List.length_append,List.length_cons,List.length_nil,List.length_singleton]);omega)|exact hp1|((try simp only[List.length_append,List.length_cons,List.length_nil,List.length_singleton]at *);omega))));first|done|fail):p:=h
set_option maxHeartbeats 1000000 in
set_option maxRecDepth 20000 in
theorem den (a0:Character) (hb0:bdCharacter a0) (hp0:a0.Group.length≤4) (hp1:∀ v∈a0.Group,1≤v∧v≤9) (hp2:1≤a0.Kind) (hp3:a0.Kind≤8) (hp4:0≤a0.Period) (hp5:a0.Period≤600):Den Tryz.prog 203 [.ep (eCharacter a0)] (.str (zxb a0)):=by
 generalize hR:zxb a0=r
 unfold zxb at hR
 refine di Tryz.func203 Tryz.ntmps203 Tryz.results203 ?_
 intro c hL hc hk
 obtain⟨hL0,_⟩:=hL
 have hw0:bwCharacter a0:=ym a0 hL0
 clear hL0
 simp only[pars,Nat.zero_add]
 have hg9:∀ i:Nat,0≤a0.Group.getD i default∧a0.Group.getD i default≤9:=fun i=>y1g hp1 i
 have hd9:∀ i:Nat,(za (a0.Group.getD i default)).length≤11:=fun i=>by have h1:=hg9 i;have h2:=y0b (a0.Group.getD i default) (by omega) (by omega);omega
 have hk9:=y7p a0.Kind.toNat
 have hk8:zvb.length=9:=rfl
 have hs9:=yeu a0.Period (by omega) (by omega)
 have hbL:a0.Letter.length<1099511627776:=hb0.2.1
 have hbC:a0.Colors.length<1099511627776:=hb0.2.2
 refine rS ?_
 refine rZ 7 ?_
 refine rS ?_
 refine AWP.cond rfl (fun hb => ?_) (fun hb => ?_)
 ·replace hR:=ct hR
  iterate 2 refine rS ?_
  refine AWP.block ?_
  generalize hz1:yf (y1o a0) (a0.Group.length-0) 0 (((zvb ).getD ((a0.Kind).toNat) default)++(([40]++a0.Letter)++[41]))=z1 at hR
  refine AWP.range (y1o a0) (fun i1 s1=>⟨[(0,.ep (eCharacter a0)),(3,.str s1),(4,.int .i64 (i1:Int))],[]⟩) (fun i1 s1=>s1.length≤9+a0.Letter.length+12 * i1) (a0.Group.length) 0 (((zvb ).getD ((a0.Kind).toNat) default)++(([40]++a0.Letter)++[41])) [] hz1 ot (by((try simp only[List.length_append,List.length_cons,List.length_nil,List.length_singleton]);omega)) sm ?_
  clear hz1
  intro i1 s1 hi1 hW1 hz1
  refine rS ?_
  refine AWP.cond rfl (fun hb => ?_) (fun hb => ?_)
  ·have hlt1:i1<a0.Group.length:=ot
   rw[yh hlt1]at hz1;simp only[y1o]at hz1
   iterate 2 refine rS ?_
   refine AWP.cond rfl (fun hb => ?_) (fun hb => ?_)
   ·simp only[hb,cond_true]at hz1
    iterate 3 refine rS ?_
    exact⟨_,[],hlt1,by(have h9:=hd9 i1;and_intros<;>first|omega|((try simp only[List.length_append,List.length_cons,List.length_nil,List.length_singleton]);omega)|((try simp only[List.length_append,List.length_cons,List.length_nil,List.length_singleton]at *);omega)),hz1,sm⟩
   ·simp only[hb,cond_false]at hz1
    iterate 2 refine rS ?_
    exact⟨_,[],hlt1,by(have h9:=hd9 i1;and_intros<;>first|omega|((try simp only[List.length_append,List.length_cons,List.length_nil,List.length_singleton]);omega)|((try simp only[List.length_append,List.length_cons,List.length_nil,List.length_singleton]at *);omega)),hz1,sm⟩
  ·obtain rfl:i1=a0.Group.length:=ot
   rw[yi (Nat.le_refl _)]at hz1;subst hz1;dsimp only at hR
   refine AWP.exit ?_;refine yb ?_
   refine rS ?_
   refine AWP.cond rfl (fun hb => ?_) (fun hb => ?_)
   ·replace hR:=ct hR
    iterate 2 refine rS ?_
    refine AWP.cond rfl (fun hb => ?_) (fun hb => ?_)
    ·replace hR:=ct hR
     iterate 3 refine rS ?_
     refine AWP.cond rfl (fun hb => ?_) (fun hb => ?_)
     ·replace hR:=ct hR
      iterate 2 refine rS ?_
      refine AWP.ret ?_
      subst hR
      exact es
     ·replace hR:=cf hR
      refine rS ?_
      refine AWP.ret ?_
      subst hR
      exact es
    ·replace hR:=cf hR
     iterate 2 refine rS ?_
     refine AWP.cond rfl (fun hb => ?_) (fun hb => ?_)
     ·replace hR:=ct hR
      iterate 2 refine rS ?_
      refine AWP.ret ?_
      subst hR
      exact es
     ·replace hR:=cf hR
      refine rS ?_
      refine AWP.ret ?_
      subst hR
      exact es
   ·replace hR:=cf hR
    refine rS ?_
    refine AWP.cond rfl (fun hb => ?_) (fun hb => ?_)
    ·replace hR:=ct hR
     iterate 3 refine rS ?_
     refine AWP.cond rfl (fun hb => ?_) (fun hb => ?_)
     ·replace hR:=ct hR
      iterate 2 refine rS ?_
      refine AWP.ret ?_
      subst hR
      exact es
     ·replace hR:=cf hR
      refine rS ?_
      refine AWP.ret ?_
      subst hR
      exact es
    ·replace hR:=cf hR
     iterate 2 refine rS ?_
     refine AWP.cond rfl (fun hb => ?_) (fun hb => ?_)
     ·replace hR:=ct hR
      iterate 2 refine rS ?_
      refine AWP.ret ?_
      subst hR
      exact es
     ·replace hR:=cf hR
      refine rS ?_
      refine AWP.ret ?_
      subst hR
      exact es
 ·replace hR:=cf hR
  refine rS ?_
  refine AWP.block ?_
  generalize hz2:yf (y2o a0) (a0.Group.length-0) 0 ((zvb ).getD ((a0.Kind).toNat) default)=z2 at hR
  refine AWP.range (y2o a0) (fun i2 s2=>⟨[(0,.ep (eCharacter a0)),(3,.str s2),(4,.int .i64 (i2:Int))],[]⟩) (fun i2 s2=>s2.length≤9+a0.Letter.length+12 * i2) (a0.Group.length) 0 ((zvb ).getD ((a0.Kind).toNat) default) [] hz2 ot (by((try simp only[List.length_append,List.length_cons,List.length_nil,List.length_singleton]);omega)) sm ?_
  clear hz2
  intro i2 s2 hi2 hW2 hz2
  refine rS ?_
  refine AWP.cond rfl (fun hb => ?_) (fun hb => ?_)
  ·have hlt2:i2<a0.Group.length:=ot
   rw[yh hlt2]at hz2;simp only[y2o]at hz2
   iterate 2 refine rS ?_
   refine AWP.cond rfl (fun hb => ?_) (fun hb => ?_)
   ·simp only[hb,cond_true]at hz2
    iterate 3 refine rS ?_
    exact⟨_,[],hlt2,by(have h9:=hd9 i2;and_intros<;>first|omega|((try simp only[List.length_append,List.length_cons,List.length_nil,List.length_singleton]);omega)|((try simp only[List.length_append,List.length_cons,List.length_nil,List.length_singleton]at *);omega)),hz2,sm⟩
   ·simp only[hb,cond_false]at hz2
    iterate 2 refine rS ?_
    exact⟨_,[],hlt2,by(have h9:=hd9 i2;and_intros<;>first|omega|((try simp only[List.length_append,List.length_cons,List.length_nil,List.length_singleton]);omega)|((try simp only[List.length_append,List.length_cons,List.length_nil,List.length_singleton]at *);omega)),hz2,sm⟩
  ·obtain rfl:i2=a0.Group.length:=ot
   rw[yi (Nat.le_refl _)]at hz2;subst hz2;dsimp only at hR
   refine AWP.exit ?_;refine yb ?_
   refine rS ?_
   refine AWP.cond rfl (fun hb => ?_) (fun hb => ?_)
   ·replace hR:=ct hR
    iterate 2 refine rS ?_
    refine AWP.cond rfl (fun hb => ?_) (fun hb => ?_)
    ·replace hR:=ct hR
     iterate 3 refine rS ?_
     refine AWP.cond rfl (fun hb => ?_) (fun hb => ?_)
     ·replace hR:=ct hR
      iterate 2 refine rS ?_
      refine AWP.ret ?_
      subst hR
      exact es
     ·replace hR:=cf hR
      refine rS ?_
      refine AWP.ret ?_
      subst hR
      exact es
    ·replace hR:=cf hR
     iterate 2 refine rS ?_
     refine AWP.cond rfl (fun hb => ?_) (fun hb => ?_)
     ·replace hR:=ct hR
      iterate 2 refine rS ?_
      refine AWP.ret ?_
      subst hR
      exact es
     ·replace hR:=cf hR
      refine rS ?_
      refine AWP.ret ?_
      subst hR
      exact es
   ·replace hR:=cf hR
    refine rS ?_
    refine AWP.cond rfl (fun hb => ?_) (fun hb => ?_)
    ·replace hR:=ct hR
     iterate 3 refine rS ?_
     refine AWP.cond rfl (fun hb => ?_) (fun hb => ?_)
     ·replace hR:=ct hR
      iterate 2 refine rS ?_
      refine AWP.ret ?_
      subst hR
      exact es
     ·replace hR:=cf hR
      refine rS ?_
      refine AWP.ret ?_
      subst hR
      exact es
    ·replace hR:=cf hR
     iterate 2 refine rS ?_
     refine AWP.cond rfl (fun hb => ?_) (fun hb => ?_)
     ·replace hR:=ct hR
      iterate 2 refine rS ?_
      refine AWP.ret ?_
      subst hR
      exact es
     ·replace hR:=cf hR
      refine rS ?_
      refine AWP.ret ?_
      subst hR
      exact es
end N203
def D_zxb : DF
 | [x0]=>some (.str (zxb (rdP yc x0)),false,[wP eCharacter yc x0,bdCharacter (rdP yc x0),(rdP yc x0).Group.length≤4,∀ v∈(rdP yc x0).Group,1≤v∧v≤9,1≤(rdP yc x0).Kind,(rdP yc x0).Kind≤8,0≤(rdP yc x0).Period,(rdP yc x0).Period≤600])
 | _=>none
theorem y9z:OkD Tryz.prog 203 D_zxb:=by unfold D_zxb;exact dk N203.den
end Go.Ab

namespace Go.Ab
open Go Go.Proofs
def znf (a0:Character):(List UInt8):=
 (bif (!(zgb a0))then[]else(bif (a0.Period != 0)then(((ztc a0)++[32])++a0.Colors)++(([32]++(zhf a0.Period))++[115])else((ztc a0)++[32])++a0.Colors))
namespace N106
theorem DD:DOk Tryz.prog (Go.Ab.DD [(217,dP D_ztc),(218,dP D_zhf),(91,dP D_zgb)]):=ya yn1.e <| ya y01.e <| ya ycr.e <| yd _
theorem dn:type_of% (And.intro @D_ztc.eq_1 <| And.intro @D_zhf.eq_1 <| @D_zgb.eq_1):=by and_intros<;>intros<;>rfl
theorem o0 {p:Prop} (h:p:=by(first|(have q9 := ‹(!zgb a0)=false›;have q8:zgb a0=true:=(by simpa using q9);have h9:=yne a0 q8;have h8:=yio a0 h9.1 h9.2.1;have h7:=yte a0 q8;have h6:=yzp a0.Period (by omega) (by omega);first|(refine⟨hb0,h9.1,h9.2.1,?_,?_⟩<;>first|omega|(simp only[List.length_append,List.length_cons,List.length_nil];omega))|(and_intros<;>first|omega|(simp only[List.length_append,List.length_cons,List.length_nil];omega))));first|done|fail):p:=h
set_option maxHeartbeats 400000 in
set_option maxRecDepth 20000 in
theorem den (a0:Character) (hb0:bdCharacter a0):Den Tryz.prog 106 [.agg (eCharacter a0)] (.str (znf a0)):=by
 generalize hR:znf a0=r
 unfold znf at hR
 refine di Tryz.func106 Tryz.ntmps106 Tryz.results106 ?_
 intro c hL hc hk
 obtain⟨hL0,_⟩:=hL
 have hw0:bwCharacter a0:=ym a0 hL0
 clear hL0
 simp only[pars,Nat.zero_add]
 have hbL:a0.Letter.length<1099511627776:=hb0.2.1
 have hbC:a0.Colors.length<1099511627776:=hb0.2.2
 iterate 2 refine rS ?_
 refine AWP.cond rfl (fun hb => ?_) (fun hb => ?_)
 ·replace hR:=ct hR
  refine rS ?_
  refine AWP.ret ?_
  subst hR
  exact es
 ·replace hR:=cf hR
  refine rD 5 ?_
  refine rS ?_
  refine AWP.cond rfl (fun hb => ?_) (fun hb => ?_)
  ·replace hR:=ct hR
   iterate 2 refine rS ?_
   refine AWP.ret ?_
   subst hR
   exact es
  ·replace hR:=cf hR
   refine rS ?_
   refine AWP.ret ?_
   subst hR
   exact es
end N106
def D_znf : DF
 | [x0]=>some (.str (znf (rdG yc x0)),false,[wG eCharacter yc x0,bdCharacter (rdG yc x0)])
 | _=>none
theorem yo0:OkD Tryz.prog 106 D_znf:=by unfold D_znf;exact dk N106.den
end Go.Ab

namespace Go.Ab
open Go Go.Proofs
def kt (k:Int):List UInt8:=([[],[70],[79,99],[73,115,111],[70,108],[76,70,108],[81],[86,81],[77,111]]:List (List UInt8)).getD k.toNat []
def grpT (g:List Int):List UInt8:=if g=[]then[]else 40::(Lib.join (g.map Lib.itoa) [43]++[41])
def y0u (c:Character):List UInt8:=
 if c.Kind=8 then kt 8++(40::(c.Letter++[41]))else kt c.Kind++(grpT c.Group++(if c.Letter=[]then[]else[43,76,70,108]))
def secT (n:Int):List UInt8:=if n.tmod 10=0 then Lib.itoa (n / 10)else Lib.itoa (n / 10)++(46::Lib.itoa (n % 10))
def perT (n:Int):List UInt8:=if n=0 then[]else 32::(secT n++[115])
def chrT (c:Character):List UInt8:=y0u c++(32::(c.Colors++perT c.Period))
theorem yc4 (k:Int) (h:1≤k∧k≤8):zde k=kt k:=by
 rcases(show k=1∨k=2∨k=3∨k=4∨k=5∨k=6∨k=7∨k=8 by omega)with h|h|h|h|h|h|h|h<;>subst h<;>rfl
theorem ygy (k:Int):zvb.getD k.toNat default=kt k:=rfl
theorem ya0 (n:Int) (h1:0≤n) (h2:n≤600):zhf n=secT n:=by
 unfold zhf secT
 have hd:n.tdiv 10=n / 10:=Int.tdiv_eq_ediv_of_nonneg h1
 have hm:n.tmod 10=n % 10:=Int.tmod_eq_emod_of_nonneg h1
 have hw:IntKind.wrap .i64 (n.tdiv 10)=n / 10:=by rw[IntKind.wrap_i64];omega
 rw[hw,hm]
 by_cases h:n % 10=0
 ·rw[h];rfl
 ·have:(n % 10 == 0)=false:=by rw[beq_eq_false_iff_ne];exact h
  rw[this,if_neg h]
  simp[y1q]
theorem ydz (n:Int) (h1:0≤n) (h2:n≤600):zjc n=secT n++[115]:=by
 unfold zjc secT
 have hd:n.tdiv 10=n / 10:=Int.tdiv_eq_ediv_of_nonneg h1
 have hm:n.tmod 10=n % 10:=Int.tmod_eq_emod_of_nonneg h1
 have hw:IntKind.wrap .i64 (n.tdiv 10)=n / 10:=by rw[IntKind.wrap_i64];omega
 rw[hw,hm,ycf _ (by omega) (by omega),ycf _ (by omega) (by omega)]
 by_cases h:n % 10=0
 ·rw[h];rfl
 ·have:(n % 10 == 0)=false:=by rw[beq_eq_false_iff_ne];exact h
  rw[this,if_neg h]
  simp
theorem y8w (c:Character) (hk:1≤c.Kind∧c.Kind≤8):ztc c=y0u c:=by
 unfold ztc y0u
 rw[yc4 _ hk]
 by_cases h8:c.Kind=8
 ·rw[h8];simp
 ·have e8:(c.Kind == 8)=false:=by rw[beq_eq_false_iff_ne];exact h8
  rw[e8,if_neg h8]
  simp only[cond_false]
  have hl:=yqc (yal c) (fun j=>[Lib.itoa (c.Group.getD j default)]) c.Group.length 0 [] (fun j s _ _=>rfl)
  rw[y2j c.Group default Lib.itoa,List.nil_append]at hl
  simp only[Nat.sub_zero]
  rw[hl]
  unfold grpT
  by_cases hg:c.Group=[]
  ·rw[hg]
   by_cases hL:c.Letter=[]
   ·rw[hL];simp
   ·have:(c.Letter != [])=true:=by simpa using hL
    rw[this,if_neg hL];simp
  ·have hpos:0<c.Group.length:=List.length_pos_iff.2 hg
   rw[if_neg hg,decide_eq_true (show 0<(c.Group.length:Int)by omega)]
   have ej:zr (c.Group.map Lib.itoa) [43]=Lib.join (c.Group.map Lib.itoa) [43]:=rfl
   by_cases hL:c.Letter=[]
   ·rw[hL];simp[ej]
   ·have:(c.Letter != [])=true:=by simpa using hL
    rw[this,if_neg hL];simp[ej]
theorem yww (c:Character) (h:zgb c=true):znf c=chrT c:=by
 have hk:=yli c (yzc c h)
 have hp:=yte c h
 have hp2:=(yne c h).2.2
 unfold znf chrT perT
 rw[h,y8w c hk,ya0 _ hp hp2]
 by_cases h0:c.Period=0
 ·rw[h0];simp
 ·have:(c.Period != 0)=true:=by rw[bne_iff_ne];exact h0
  rw[this,if_neg h0];simp
theorem yyv (x:Int) (r:List Int):(List.range' 1 r.length).flatMap (fun j=>(43:UInt8)::Lib.itoa ((x::r).getD j default))=Lib.joinTail [43] (r.map Lib.itoa):=by
 unfold Lib.joinTail
 rw[List.map_map, ← List.flatMap_def]
 have h:(List.range' 1 r.length).flatMap (fun j=>(43:UInt8)::Lib.itoa ((x::r).getD j default))=(List.range' 0 r.length).flatMap (fun j=>(43:UInt8)::Lib.itoa (r.getD j default)):=by
  rw[List.flatMap_def,List.flatMap_def]
  congr 1
  apply List.ext_getElem
  ·simp
  ·intro i h1 h2
   simp[List.getElem_range',Nat.add_comm 1 i]
 rw[h]
 rw[List.flatMap_def,List.flatMap_def]
 congr 1
 apply List.ext_getElem
 ·simp
 ·intro i h1 h2
  simp only[List.length_map]at h2
  simp[List.getD_eq_getElem?_getD,h2]
def grp0 (g:List Int):List UInt8:=if g=[]then[]else 40::Lib.join (g.map Lib.itoa) [43]
theorem ybt (c : Character) (h2 : ∀ v ∈ c.Group, 1 ≤ v ∧ v ≤ 9) (b : Nat → List UInt8 → Except (List UInt8) (List UInt8))
  (hb:∀ j s,b j s=bif ((j:Int) == 0)then .ok (s++([40]++(za (c.Group.getD j default))))else .ok (s++([43]++(za (c.Group.getD j default))))) (s:List UInt8) :
  yf b (c.Group.length-0) 0 s=.ok (s++grp0 c.Group):=by
 have hl:=yqc b (fun j=>(if j=0 then(40:UInt8)else 43)::Lib.itoa (c.Group.getD j default)) c.Group.length 0 s (fun j s _ _=>by
  have hr:=y1g h2 j
  rw[hb,ycf _ (by omega) (by omega)]
  by_cases h:j=0
  ·subst h;rfl
  ·have:((j:Int) == 0)=false:=by rw[beq_eq_false_iff_ne];omega
   rw[this,if_neg h];rfl)
 rw[Nat.sub_zero,hl]
 congr 2
 generalize c.Group=g
 cases g with
 | nil=>rfl
 | cons x r=>
  unfold grp0
  rw[if_neg (by simp),List.length_cons,List.range'_succ,List.flatMap_cons,List.map_cons,Lib.join_cons]
  have:(List.range' (0+1) r.length).flatMap (fun j=>(if j=0 then(40:UInt8)else 43)::Lib.itoa ((x::r).getD j default))=(List.range' 1 r.length).flatMap (fun j=>(43:UInt8)::Lib.itoa ((x::r).getD j default)):=by
   rw[List.flatMap_def,List.flatMap_def]
   congr 1
   apply List.map_congr_left
   intro j hj
   rw[List.mem_range'_1]at hj
   rw[if_neg (by omega)]
  rw[this,yyv]
  simp
theorem y8u (c:Character) (h:zgb c=true):zxb c=chrT c:=by
 have hf:=yzc c h
 have hk:=yli c hf
 have hp:=yte c h
 obtain⟨g1,g2,hp2⟩:=yne c h
 have hsec:∀ s:List UInt8,(bif decide (0<c.Period)then s++([32]++(zjc c.Period))else s)=s++perT c.Period:=by
  intro s
  unfold perT
  by_cases h0:c.Period=0
  ·rw[h0];simp
  ·rw[decide_eq_true (show 0<c.Period by omega),if_neg h0,ydz _ hp hp2];simp
 unfold zxb chrT y0u
 rw[ygy,ybt c g2 (y1o c) (fun j s=>rfl),ybt c g2 (y2o c) (fun j s=>rfl)]
 by_cases h8:c.Kind=8
 ·have hg:c.Group=[]:=by
   unfold zz at hf
   rw[h8]at hf
   have hf:(((zib c.Letter) != []) && ((c.Group.length:Int) == 0))=true:=hf
   rw[Bool.and_eq_true,beq_iff_eq]at hf
   exact List.length_eq_zero_iff.1 (by omega)
  rw[h8,hg]
  have e1:((8:Int) == 8)=true:=rfl
  have e2:((8:Int) != 8)=false:=rfl
  have e3:decide (0<((([]:List Int).length:Int)))=false:=rfl
  simp only[e1,e2,e3,cond_true,cond_false,Bool.and_false,if_true,grp0,hsec]
  simp
 ·have e8:(c.Kind == 8)=false:=by rw[beq_eq_false_iff_ne];exact h8
  have e9:(c.Kind != 8)=true:=by rw[bne_iff_ne];exact h8
  have hL:(c.Letter == [76])=(c.Letter != []):=(yin c hf h8).symm
  rw[e8,e9,if_neg h8,hL]
  simp only[cond_false,Bool.and_true,hsec]
  by_cases hg:c.Group=[]
  ·rw[hg]
   have e3:decide (0<((([]:List Int).length:Int)))=false:=rfl
   simp only[e3,cond_false,grp0,grpT,if_true]
   by_cases hl:c.Letter=[]
   ·rw[hl];simp
   ·have:(c.Letter != [])=true:=by simpa using hl
    rw[this,if_neg hl];simp
  ·have hpos:0<c.Group.length:=List.length_pos_iff.2 hg
   rw[decide_eq_true (show 0<(c.Group.length:Int)by omega)]
   simp only[cond_true,grp0,grpT,if_neg hg]
   by_cases hl:c.Letter=[]
   ·rw[hl];simp
   ·have:(c.Letter != [])=true:=by simpa using hl
    rw[this,if_neg hl];simp
end Go.Ab

namespace Go.Ab
open Go Go.Proofs
def u8D (k:Nat):UInt8:=UInt8.ofNat (48+k)
theorem yah {k:Nat} (h:k<10):(u8D k).toNat=48+k:=ylk k h
def pad2 (m:Nat):List UInt8:=[u8D (m / 10),u8D (m % 10)]
def pad4 (y:Nat):List UInt8:=[u8D (y / 1000),u8D (y / 100 % 10),u8D (y / 10 % 10),u8D (y % 10)]
theorem yci {m:Nat} (h:m<100):ymj (pad2 m)∧digV 0 (pad2 m)=m:=by
 have h1:=yah (k:=m / 10) (by omega)
 have h2:=yah (k:=m % 10) (by omega)
 refine⟨fun b hb => ?_,?_⟩
 ·simp only[pad2,List.mem_cons,List.not_mem_nil,or_false]at hb
  rcases hb with rfl|rfl<;>omega
 ·unfold pad2
  rw[y3b,y3b,ytg,h1,h2];omega
theorem y2q {y:Nat} (h:y<10000):ymj (pad4 y)∧digV 0 (pad4 y)=y:=by
 have h1:=yah (k:=y / 1000) (by omega)
 have h2:=yah (k:=y / 100 % 10) (by omega)
 have h3:=yah (k:=y / 10 % 10) (by omega)
 have h4:=yah (k:=y % 10) (by omega)
 refine⟨fun b hb => ?_,?_⟩
 ·simp only[pad4,List.mem_cons,List.not_mem_nil,or_false]at hb
  rcases hb with rfl|rfl|rfl|rfl<;>omega
 ·unfold pad4
  rw[y3b,y3b,y3b,y3b,ytg,h1,h2,h3,h4];omega
theorem yv1 {y:Nat} (h1:1000≤y) (h2:y<10000):Lib.decDigits y=pad4 y:=by
 rw[ylb y (by omega),ylb (y / 10) (by omega),ylb (y / 10 / 10) (by omega),Lib.decDigits_one (by omega)]
 unfold pad4 u8D
 rw[show y / 10 / 10 / 10=y / 1000 by omega,show y / 10 / 10 % 10=y / 100 % 10 by omega]
 rfl
theorem ywi {m:Nat} (h:m<100):zob (m:Int) 2=pad2 m:=by
 unfold zob
 rw[y1q,y3e]
 by_cases h10:m<10
 ·rw[Lib.decDigits_one h10]
  unfold pad2 u8D
  rw[show m / 10=0 by omega,show m % 10=m by omega]
  rfl
 ·rw[ylb m h10,Lib.decDigits_one (by omega)]
  rfl
def D10 (y m d:Nat):List UInt8:=pad4 y++45::(pad2 m++45::pad2 d)
theorem yth {a:Int} (h1:0≤a) (h2:a≤99999):∃ y m d:Nat,zh a=((y:Int),(m:Int),(d:Int))∧2000≤y∧y≤2273∧1≤m∧m≤12∧1≤d∧d≤31∧y0k a y m d∧zbb a=D10 y m d:=by
 obtain⟨y,m,d,e,hy,hd⟩:=y03 a h1 h2
 have hm:=yxs (l:=yhb y) hd.2.1 hd.2.2.1
 obtain⟨q1,q2,q3,q4,q5,q6⟩:=hd
 refine⟨y.toNat,m.toNat,d.toNat,?_,by omega,by omega,by omega,by omega,by omega,by omega,?_,?_⟩
 ·rw[e,show(y.toNat:Int)=y by omega,show(m.toNat:Int)=m by omega,show(d.toNat:Int)=d by omega]
 ·rw[show(y.toNat:Int)=y by omega,show(m.toNat:Int)=m by omega,show(d.toNat:Int)=d by omega]
  exact⟨q1,q2,q3,q4,q5,q6⟩
 ·unfold zbb zmc zb
  simp only[h1,h2,decide_true,Bool.and_self,Bool.not_true,cond_false,e]
  conv=>lhs;rw[show y=(y.toNat:Int)by omega,show m=(m.toNat:Int)by omega,show d=(d.toNat:Int)by omega]
  rw[y1q,y3e,yv1 (by omega) (by omega),ywi (by omega),ywi (by omega)]
  unfold D10
  simp
end Go.Ab


namespace Go.Ab
open Go Go.Proofs
def yfg (w:List UInt8) (r:Int×Bool):Prop:=
 (∃ a:Int,0≤a∧a≤99999∧w=zbb a∧r=(a,true))∨((∀ a:Int,0≤a→a≤99999→w≠zbb a)∧r=(0,false))
theorem y43 {y m d y' m' d':Nat} (h1:y<10000) (h2:m<100) (h3:d<100) (h1':y'<10000) (h2':m'<100) (h3':d'<100) (h:D10 y m d=D10 y' m' d'):y=y'∧m=m'∧d=d':=by
 have t1:∀ y m d,(D10 y m d).take 4=pad4 y:=fun _ _ _=>rfl
 have t2:∀ y m d,((D10 y m d).take 7).drop 5=pad2 m:=fun _ _ _=>rfl
 have t3:∀ y m d,(D10 y m d).drop 8=pad2 d:=fun _ _ _=>rfl
 have e1:=congrArg (fun l=>digV 0 (List.take 4 l)) h
 have e2:=congrArg (fun l=>digV 0 ((List.take 7 l).drop 5)) h
 have e3:=congrArg (fun l=>digV 0 (List.drop 8 l)) h
 simp only[t1,t2,t3]at e1 e2 e3
 rw[(y2q h1).2,(y2q h1').2]at e1
 rw[(yci h2).2,(yci h2').2]at e2
 rw[(yci h3).2,(yci h3').2]at e3
 exact⟨e1,e2,e3⟩
theorem y3n {a a':Int} (h1:0≤a) (h2:a≤99999) (h1':0≤a') (h2':a'≤99999) (h:zbb a=zbb a'):a=a':=by
 obtain⟨y,m,d,_,_,_,_,_,_,_,hd,e⟩:=yth h1 h2
 obtain⟨y',m',d',_,_,_,_,_,_,_,hd',e'⟩:=yth h1' h2'
 rw[e,e']at h
 obtain⟨rfl,rfl,rfl⟩:=y43 (by omega) (by omega) (by omega) (by omega) (by omega) (by omega) h
 have q:=hd.2.2.2.2.2
 have q':=hd'.2.2.2.2.2
 omega
theorem yfg.unique {w:List UInt8} {r r':Int×Bool} (h:yfg w r) (h':yfg w r'):r=r':=by
 rcases h with⟨n,h0,h1,h2,rfl⟩|⟨h1,rfl⟩<;>rcases h' with⟨n',h0',h1',h2',rfl⟩|⟨h1',rfl⟩
 ·rw[y3n h0 h1 h0' h1' (h2.symm.trans h2')]
 ·exact absurd h2 (h1' n h0 h1)
 ·exact absurd h2' (h1 n' h0' h1')
 ·rfl
theorem yfg.of {w:List UInt8} {r:Int×Bool} (h1:r=(0,false)∨∃ a:Int,0≤a∧a≤99999∧w=zbb a) (h2:∀ a:Int,0≤a→a≤99999→w=zbb a→r=(a,true)):yfg w r:=by
 by_cases h:∃ a:Int,0≤a∧a≤99999∧w=zbb a
 ·obtain⟨a,q1,q2,q3⟩:=h
  exact .inl ⟨a,q1,q2,q3,h2 a q1 q2 q3⟩
 ·refine .inr ⟨fun a q1 q2 q3=>h ⟨a,q1,q2,q3⟩,?_⟩
  rcases h1 with h1|h1
  ·exact h1
  ·exact absurd h1 h
end Go.Ab



namespace Go.Ab
open Go Go.Proofs
theorem yy4 (c:Character) (h:zz c=true) (h8:c.Kind=8):c.Group=[]∧c.Letter.length=1∧65≤(c.Letter.getD 0 0).toNat∧(c.Letter.getD 0 0).toNat≤90:=by
 unfold zz at h
 rw[h8]at h
 have h:(((zib c.Letter) != []) && ((c.Group.length:Int) == 0))=true:=h
 rw[Bool.and_eq_true,beq_iff_eq,ykl,decide_eq_true_eq]at h
 exact⟨List.length_eq_zero_iff.1 (by omega),h.1⟩
end Go.Ab

namespace Go.Ab
open Go Go.Proofs
def zof (a0:Point):(List UInt8):=
 (bif (!(zce a0))then[]else((zd a0.X)++[44])++(zd a0.Y))
namespace N108
theorem DD:DOk Tryz.prog (Go.Ab.DD [(107,dP D_zd),(211,dP D_zce)]):=ya yjd.e <| ya yos.e <| yd _
theorem dn:type_of% (And.intro @D_zd.eq_1 <| @D_zce.eq_1):=by and_intros<;>intros<;>rfl
theorem gr {p:Prop} (h:p:=by(grind [yvb]);first|done|fail):p:=h
theorem o0 {p:Prop} (h:p:=by(first|(have h9:=yu3 (p:=a0) (by assumption);have l1:=yvb a0.X;have l2:=yvb a0.Y;(repeat' with_reducible apply And.intro)<;>(first|omega|assumption|(simp only[List.length_append,List.length_cons,List.length_nil,List.length_singleton];omega)|(refine Nat.le_trans (ylc _ _) ?_;simp only[jl,List.length_cons,List.length_nil];omega))));first|done|fail):p:=h
set_option maxHeartbeats 1000000 in
set_option maxRecDepth 20000 in
theorem den (a0:Point)  : Den Tryz.prog 108 [.agg (ePoint a0)] (.str (zof a0)):=by
 generalize hR:zof a0=r
 unfold zof at hR
 refine di Tryz.func108 Tryz.ntmps108 Tryz.results108 ?_
 intro c hL hc hk
 clear hL
 simp only[pars,Nat.zero_add]
 iterate 2 refine rS ?_
 refine AWP.cond rfl (fun hb => ?_) (fun hb => ?_)
 ·replace hR:=ct hR
  refine rS ?_
  refine AWP.ret ?_
  subst hR
  exact es
 ·replace hR:=cf hR
  refine rD 7 ?_
  refine AWP.ret ?_
  subst hR
  exact es
end N108
def D_zof : DF
 | [x0]=>some (.str (zof (rdG ysc x0)),false,[wG ePoint ysc x0])
 | _=>none
theorem yry:OkD Tryz.prog 108 D_zof:=by unfold D_zof;exact dk N108.den
end Go.Ab

namespace Go.Ab
open Go Go.Proofs
def zre (a0:Point):(List UInt8):=
 ((za a0.X)++[44])++(za a0.Y)
namespace N204
theorem DD:DOk Tryz.prog (Go.Ab.DD [(166,dP D_za)]):=ya ytc.e <| yd _
theorem dn:type_of% (@D_za.eq_1):=by and_intros<;>intros<;>rfl
theorem o0 {p:Prop} (h:p:=by(first|((repeat' with_reducible apply And.intro)<;>(first|omega|assumption|(simp only[List.length_append,List.length_cons,List.length_nil,List.length_singleton];omega)|(refine Nat.le_trans (ylc _ _) ?_;simp only[jl,List.length_cons,List.length_nil];omega))));first|done|fail):p:=h
set_option maxHeartbeats 1000000 in
set_option maxRecDepth 20000 in
theorem den (a0:Point) (hp0:zoc a0=true):Den Tryz.prog 204 [.agg (ePoint a0)] (.str (zre a0)):=by
 generalize hR:zre a0=r
 unfold zre at hR
 refine di Tryz.func204 Tryz.ntmps204 Tryz.results204 ?_
 intro c hL hc hk
 clear hL
 simp only[pars,Nat.zero_add]
 have h9:=ydx hp0
 have l1:=y0b a0.X (by omega) (by omega)
 have l2:=y0b a0.Y (by omega) (by omega)
 refine rS ?_
 refine rD 7 ?_
 refine AWP.ret ?_
 subst hR
 exact es
end N204
def D_zre : DF
 | [x0]=>some (.str (zre (rdG ysc x0)),false,[wG ePoint ysc x0,zoc (rdG ysc x0)=true])
 | _=>none
theorem yoy:OkD Tryz.prog 204 D_zre:=by unfold D_zre;exact dk N204.den
end Go.Ab

namespace Go.Ab
open Go Go.Proofs
def zpf (a0:Mark):(List UInt8):=
 (bif (!(zae a0))then[]else(bif (a0.Kind == 0)then(zif 0)else(bif (a0.Topmark == [])then(zr [(zif a0.Kind),a0.Colors,a0.Shape,[45]] [32])else(zr [(zif a0.Kind),a0.Colors,a0.Shape,a0.Topmark] [32]))))
namespace N16
theorem DD:DOk Tryz.prog (Go.Ab.DD [(17,dP D_zae),(22,dP D_zif),(83,dP D_zr)]):=ya ycs.e <| ya ya2.e <| ya yjh.e <| yd _
theorem dn:type_of% (And.intro @D_zae.eq_1 <| And.intro @D_zif.eq_1 <| @D_zr.eq_1):=by and_intros<;>intros<;>rfl
theorem o0 {p:Prop} (h:p:=by(first|(have h9:=ycv (m:=a0) (by assumption);have l1:=yex a0.Kind;(repeat' with_reducible apply And.intro)<;>(first|omega|assumption|(simp only[List.length_append,List.length_cons,List.length_nil,List.length_singleton];omega)|(refine Nat.le_trans (ylc _ _) ?_;simp only[jl,List.length_cons,List.length_nil];omega))));first|done|fail):p:=h
theorem lx {p:Prop} (h:p:=by(exact lxx);first|done|fail):p:=h
set_option maxHeartbeats 1000000 in
set_option maxRecDepth 20000 in
theorem den (a0:Mark) (hb0:bdMark a0):Den Tryz.prog 16 [.agg (eMark a0)] (.str (zpf a0)):=by
 generalize hR:zpf a0=r
 unfold zpf at hR
 refine di Tryz.func16 Tryz.ntmps16 Tryz.results16 ?_
 intro c hL hc hk
 obtain⟨hL0,_⟩:=hL
 have hw0:bwMark a0:=y2b a0 hL0
 clear hL0
 simp only[pars,Nat.zero_add]
 iterate 2 refine rS ?_
 refine AWP.cond rfl (fun hb => ?_) (fun hb => ?_)
 ·replace hR:=ct hR
  refine rS ?_
  refine AWP.ret ?_
  subst hR
  exact es
 ·replace hR:=cf hR
  refine rS ?_
  refine AWP.cond rfl (fun hb => ?_) (fun hb => ?_)
  ·replace hR:=ct hR
   refine rS ?_
   refine AWP.ret ?_
   subst hR
   exact es
  ·replace hR:=cf hR
   iterate 2 refine rS ?_
   refine AWP.cond rfl (fun hb => ?_) (fun hb => ?_)
   ·replace hR:=ct hR
    refine rS ?_
    refine rD 8 ?_
    refine AWP.ret ?_
    subst hR
    exact es
   ·replace hR:=cf hR
    refine rD 8 ?_
    refine AWP.ret ?_
    subst hR
    exact es
end N16
def D_zpf : DF
 | [x0]=>some (.str (zpf (rdG ync x0)),false,[wG eMark ync x0,bdMark (rdG ync x0)])
 | _=>none
theorem yt0:OkD Tryz.prog 16 D_zpf:=by unfold D_zpf;exact dk N16.den
end Go.Ab

namespace Go.Ab
open Go Go.Proofs
def zug (a0:Mark):(List UInt8):=
 (bif (a0.Kind == 0)then[110,111,110,101]else(bif (a0.Topmark == [])then(((((((zpc ).getD ((a0.Kind).toNat) default)++[32])++a0.Colors)++[32])++a0.Shape)++[32])++[45]else(((((((zpc ).getD ((a0.Kind).toNat) default)++[32])++a0.Colors)++[32])++a0.Shape)++[32])++a0.Topmark))
namespace N281
theorem DD:DOk Tryz.prog (Go.Ab.DD [(333,dP D_zpc)]):=ya ymz.e <| yd _
theorem DZ:DOk Tryz.prog (Go.Ab.DD [(333,dP Dz_zpc)]):=ya ygx.e <| yd _
theorem dn:type_of% (And.intro @D_zpc.eq_1 <| @Dz_zpc.eq_1):=by and_intros<;>intros<;>rfl
theorem o0 {p:Prop} (h:p:=by(first|((repeat' with_reducible apply And.intro)<;>(first|omega|assumption|(simp only[List.length_append,List.length_cons,List.length_nil,List.length_singleton];omega)|(refine Nat.le_trans (ylc _ _) ?_;simp only[jl,List.length_cons,List.length_nil];omega))));first|done|fail):p:=h
set_option maxHeartbeats 1000000 in
set_option maxRecDepth 20000 in
theorem den (a0:Mark) (hb0:bdMark a0) (hp0:zjb a0=true):Den Tryz.prog 281 [.ep (eMark a0)] (.str (zug a0)):=by
 generalize hR:zug a0=r
 unfold zug at hR
 refine di Tryz.func281 Tryz.ntmps281 Tryz.results281 ?_
 intro c hL hc hk
 obtain⟨hL0,_⟩:=hL
 have hw0:bwMark a0:=y2b a0 hL0
 clear hL0
 simp only[pars,Nat.zero_add]
 have h9:=ydi (m:=a0) hp0
 have hn:=yzy a0.Kind.toNat
 have hn2:zpc.length=10:=rfl
 iterate 2 refine rS ?_
 refine AWP.cond rfl (fun hb => ?_) (fun hb => ?_)
 ·replace hR:=ct hR
  refine rS ?_
  refine AWP.ret ?_
  subst hR
  exact es
 ·replace hR:=cf hR
  iterate 2 refine rS ?_
  refine AWP.cond rfl (fun hb => ?_) (fun hb => ?_)
  ·replace hR:=ct hR
   refine rS ?_
   refine rZ 22 ?_
   refine AWP.ret ?_
   subst hR
   exact es
  ·replace hR:=cf hR
   refine rZ 22 ?_
   refine AWP.ret ?_
   subst hR
   exact es
end N281
def D_zug : DF
 | [x0]=>some (.str (zug (rdP ync x0)),false,[wP eMark ync x0,bdMark (rdP ync x0),zjb (rdP ync x0)=true])
 | _=>none
theorem y7y:OkD Tryz.prog 281 D_zug:=by unfold D_zug;exact dk N281.den
end Go.Ab

namespace Go.Ab
open Go Go.Proofs
def zle (a0:Mark):(List UInt8):=
 (bif (!(zjb a0))then[]else(zug a0))
namespace N205
theorem DD:DOk Tryz.prog (Go.Ab.DD [(273,dP D_zjb),(281,dP D_zug)]):=ya y5q.e <| ya y7y.e <| yd _
theorem dn:type_of% (And.intro @D_zjb.eq_1 <| @D_zug.eq_1):=by and_intros<;>intros<;>rfl
theorem o0 {p:Prop} (h:p:=by(first|(have q9 := ‹(!zjb a0)=false›;first|(simpa using q9)|((repeat' with_reducible apply And.intro)<;>first|(simpa using q9)|omega)));first|done|fail):p:=h
theorem den (a0:Mark) (hb0:bdMark a0):Den Tryz.prog 205 [.agg (eMark a0)] (.str (zle a0)):=by
 generalize hR:zle a0=r
 unfold zle at hR
 refine di Tryz.func205 Tryz.ntmps205 Tryz.results205 ?_
 intro c hL hc hk
 obtain⟨hL0,_⟩:=hL
 have hw0:bwMark a0:=y2b a0 hL0
 clear hL0
 simp only[pars,Nat.zero_add]
 iterate 2 refine rS ?_
 refine AWP.cond rfl (fun hb => ?_) (fun hb => ?_)
 ·replace hR:=ct hR
  refine rS ?_
  refine AWP.ret ?_
  subst hR
  exact es
 ·replace hR:=cf hR
  refine rS ?_
  refine AWP.ret ?_
  subst hR
  exact es
end N205
def D_zle : DF
 | [x0]=>some (.str (zle (rdG ync x0)),false,[wG eMark ync x0,bdMark (rdG ync x0)])
 | _=>none
theorem yvx:OkD Tryz.prog 205 D_zle:=by unfold D_zle;exact dk N205.den
end Go.Ab

namespace Go.Ab
open Go Go.Proofs
def y5k (a0:(List Sector)) (i1:Nat) (s1:List (List UInt8)):Except ((List UInt8)) (List (List UInt8)):=
 .ok (s1++[(((zd ((a0.getD i1 default).From))++[45])++(zd ((a0.getD i1 default).To)))++((a0.getD i1 default).Color)])
def zfd (a0:(List Sector)):(List UInt8):=
 (bif (!(zlb a0))then[]else(bif ((a0.length:Int) == 0)then[45]else(match yf (y5k a0) (a0.length-0) 0 ([]:List (List UInt8))with|.error e=>e|.ok s1=>(zr s1 [44]))))
namespace N109
theorem DD:DOk Tryz.prog (Go.Ab.DD [(107,dP D_zd),(215,dP D_zlb),(83,dP D_zr)]):=ya yjd.e <| ya y7s.e <| ya yjh.e <| yd _
theorem dn:type_of% (And.intro @D_zd.eq_1 <| And.intro @D_zlb.eq_1 <| @D_zr.eq_1):=by and_intros<;>intros<;>rfl
theorem gr {p:Prop} (h:p:=by(grind [yvb]);first|done|fail):p:=h
theorem o0 {p:Prop} (h:p:=by(first|((have h8:=hsr (by assumption);have h9:=h8.2 i1;have l1:=yvb (a0.getD i1 default).From;have l2:=yvb (a0.getD i1 default).To;(repeat' with_reducible apply And.intro)<;>(first|omega|assumption|(simp only[List.length_append,List.length_cons,List.length_nil,List.length_singleton];omega)|(refine Nat.le_trans (ylc _ _) ?_;simp only[jl,List.length_cons,List.length_nil];omega))))|(have h8:=hsr (by assumption);obtain⟨w1,w2⟩:=hW1;have h9:=y9h [44] s1 1000 w2;simp only[List.length_singleton]at h9;(repeat' with_reducible apply And.intro)<;>omega));first|done|fail):p:=h
set_option maxHeartbeats 1000000 in
set_option maxRecDepth 20000 in
theorem den (a0:(List Sector)) (hb0:a0.length<1099511627776) (hb1:∀ v∈a0,bdSector v):Den Tryz.prog 109 [encL 3 eSector a0] (.str (zfd a0)):=by
 generalize hR:zfd a0=r
 unfold zfd at hR
 refine di Tryz.func109 Tryz.ntmps109 Tryz.results109 ?_
 intro c hL hc hk
 obtain⟨hL0,_⟩:=hL
 have hw0:a0.length<9223372036854775808:=Nat.lt_succ_of_le (ye hL0).1
 have hw1:∀ v∈a0,bwSector v:=fun v hv=>yn v ((ye hL0).2 v hv)
 clear hL0
 simp only[pars,Nat.zero_add]
 have hsr:=fun h=>y1y (a:=a0) hb0 h
 iterate 2 refine rS ?_
 refine AWP.cond rfl (fun hb => ?_) (fun hb => ?_)
 ·replace hR:=ct hR
  refine rS ?_
  refine AWP.ret ?_
  subst hR
  exact es
 ·replace hR:=cf hR
  refine rS ?_
  refine AWP.cond rfl (fun hb => ?_) (fun hb => ?_)
  ·replace hR:=ct hR
   refine rS ?_
   refine AWP.ret ?_
   subst hR
   exact es
  ·replace hR:=cf hR
   iterate 2 refine rS ?_
   refine AWP.block ?_
   generalize hz1:yf (y5k a0) (a0.length-0) 0 ([]:List (List UInt8))=z1 at hR
   refine AWP.range (y5k a0) (fun i1 s1=>⟨[(3,.ref 0 1 0 s1.length),(13,encL 3 eSector a0),(14,.int .i64 (a0.length:Int)),(15,.int .i64 (i1:Int))],[.arr 9 1 s1.length (fun j=>eS (s1.getD j default))]⟩) (fun i1 s1=>s1.length≤i1∧∀ v∈s1,v.length≤1000) (a0.length) 0 ([]:List (List UInt8)) [0] hz1 ot wt sm ?_
   clear hz1
   intro i1 s1 hi1 hW1 hz1
   refine rS ?_
   refine AWP.seq ?_
   refine AWP.cond rfl (fun hb => ?_) (fun hb => ?_)
   ·have hlt1:i1<a0.length:=ot
    rw[yh hlt1]at hz1;simp only[y5k]at hz1
    refine rS ?_
    refine AWP.regP mixed G_ok DD hc 13 [0,1,2,3,4,5,6,7,8,9,10,11] (.alt 12 [] [0,1,2,5] .leaf .stop) (by kernel_rfl) (by kernel_rfl) (by kernel_rfl) (fun K hK => ?_);simp only[y6t,runN,runP,y8d,nthO,ea,absV,absVL,cput,gv,sv,dn,reduceCtorEq,reduceIte,Nat.reduceBEq,Nat.reduceAdd,Nat.reduceEqDiff,Nat.reduceLT,Nat.reduceLeDiff,Nat.reduceMul,Nat.reduceSub,BEq.rfl,beq_self_eq_true,Int.reduceToNat]
    repeat' apply And.intro
    all_goals first|refine hK _ ?_|exact ot
    all_goals clear hK K
    refine rS ?_
    exact⟨_,[3],hlt1,by(have h8:=hsr (by assumption);have h9:=h8.2 i1;have l1:=yvb (a0.getD i1 default).From;have l2:=yvb (a0.getD i1 default).To;obtain⟨w1,w2⟩:=hW1;(repeat' with_reducible apply And.intro)<;>first|(simp only[List.length_append,List.length_cons,List.length_nil,List.length_singleton];omega)|(intro v hv;exact(List.mem_append.1 hv).elim (fun h=>w2 v h) (fun h=>by rw[List.mem_singleton]at h;subst h;simp only[List.length_append,List.length_cons,List.length_nil,List.length_singleton];omega))),hz1,sm⟩
   ·obtain rfl:i1=a0.length:=ot
    rw[yi (Nat.le_refl _)]at hz1;subst hz1;dsimp only at hR
    refine AWP.exit ?_;refine yb ?_
    refine rS ?_
    refine AWP.ret ?_
    subst hR
    exact es
end N109
def D_zfd : DF
 | [x0]=>some (.str (zfd (rdL yk x0)),false,[wL 3 eSector yk x0,(rdL yk x0).length<1099511627776,∀ v∈(rdL yk x0),bdSector v])
 | _=>none
theorem yg1:OkD Tryz.prog 109 D_zfd:=by unfold D_zfd;exact dk N109.den
end Go.Ab

namespace Go.Ab
open Go Go.Proofs
def y6k (a0:(List Sector)) (i1:Nat) (s1:List UInt8):Except ((List UInt8)) (List UInt8):=
 (bif decide (0<(i1:Int))then .ok ((s1++[44])++((((za ((a0.getD i1 default).From))++[45])++(za ((a0.getD i1 default).To)))++((a0.getD i1 default).Color)))else .ok (s1++((((za ((a0.getD i1 default).From))++[45])++(za ((a0.getD i1 default).To)))++((a0.getD i1 default).Color))))
def zwc (a0:(List Sector)):(List UInt8):=
 (bif ((a0.length:Int) == 0)then[45]else(match yf (y6k a0) (a0.length-0) 0 []with|.error e=>e|.ok s1=>s1))
namespace N206
theorem DD:DOk Tryz.prog (Go.Ab.DD [(166,dP D_za)]):=ya ytc.e <| yd _
theorem dn:type_of% (@D_za.eq_1):=by and_intros<;>intros<;>rfl
theorem o0 {p:Prop} (h:p:=by(first|(have h9:=hsr.2 i1;have l1:=y0b (a0.getD i1 default).From (by omega) (by omega);have l2:=y0b (a0.getD i1 default).To (by omega) (by omega);(repeat' with_reducible apply And.intro)<;>(first|omega|assumption|(simp only[List.length_append,List.length_cons,List.length_nil,List.length_singleton];omega)|(refine Nat.le_trans (ylc _ _) ?_;simp only[jl,List.length_cons,List.length_nil];omega))));first|done|fail):p:=h
set_option maxHeartbeats 1000000 in
set_option maxRecDepth 20000 in
theorem den (a0:(List Sector)) (hb0:a0.length<1099511627776) (hb1:∀ v∈a0,bdSector v) (hp0:zq a0=true):Den Tryz.prog 206 [encL 3 eSector a0] (.str (zwc a0)):=by
 generalize hR:zwc a0=r
 unfold zwc at hR
 refine di Tryz.func206 Tryz.ntmps206 Tryz.results206 ?_
 intro c hL hc hk
 obtain⟨hL0,_⟩:=hL
 have hw0:a0.length<9223372036854775808:=Nat.lt_succ_of_le (ye hL0).1
 have hw1:∀ v∈a0,bwSector v:=fun v hv=>yn v ((ye hL0).2 v hv)
 clear hL0
 simp only[pars,Nat.zero_add]
 have hsr:=yof hp0
 iterate 2 refine rS ?_
 refine AWP.cond rfl (fun hb => ?_) (fun hb => ?_)
 ·replace hR:=ct hR
  refine rS ?_
  refine AWP.ret ?_
  subst hR
  exact es
 ·replace hR:=cf hR
  iterate 2 refine rS ?_
  refine AWP.block ?_
  generalize hz1:yf (y6k a0) (a0.length-0) 0 []=z1 at hR
  refine AWP.range (y6k a0) (fun i1 s1=>⟨[(0,encL 3 eSector a0),(3,.str s1),(4,.int .i64 (i1:Int))],[]⟩) (fun i1 s1=>s1.length≤1000 * i1) (a0.length) 0 [] [] hz1 ot wt sm ?_
  clear hz1
  intro i1 s1 hi1 hW1 hz1
  refine rS ?_
  refine AWP.cond rfl (fun hb => ?_) (fun hb => ?_)
  ·have hlt1:i1<a0.length:=ot
   rw[yh hlt1]at hz1;simp only[y6k]at hz1
   refine rS ?_
   refine AWP.cond rfl (fun hb => ?_) (fun hb => ?_)
   ·simp only[hb,cond_true]at hz1
    refine rS ?_
    refine rD 22 ?_
    refine rS ?_
    exact⟨_,[],hlt1,by(have h9:=hsr.2 i1;have l1:=y0b (a0.getD i1 default).From (by omega) (by omega);have l2:=y0b (a0.getD i1 default).To (by omega) (by omega);simp only[List.length_append,List.length_cons,List.length_nil,List.length_singleton];omega),hz1,sm⟩
   ·simp only[hb,cond_false]at hz1
    refine rD 22 ?_
    refine rS ?_
    exact⟨_,[],hlt1,by(have h9:=hsr.2 i1;have l1:=y0b (a0.getD i1 default).From (by omega) (by omega);have l2:=y0b (a0.getD i1 default).To (by omega) (by omega);simp only[List.length_append,List.length_cons,List.length_nil,List.length_singleton];omega),hz1,sm⟩
  ·obtain rfl:i1=a0.length:=ot
   rw[yi (Nat.le_refl _)]at hz1;subst hz1;dsimp only at hR
   refine AWP.exit ?_;refine yb ?_
   refine rS ?_
   refine AWP.ret ?_
   subst hR
   exact es
end N206
def D_zwc : DF
 | [x0]=>some (.str (zwc (rdL yk x0)),false,[wL 3 eSector yk x0,(rdL yk x0).length<1099511627776,∀ v∈(rdL yk x0),bdSector v,zq (rdL yk x0)=true])
 | _=>none
theorem ym1:OkD Tryz.prog 206 D_zwc:=by unfold D_zwc;exact dk N206.den
end Go.Ab
