/- A part of a proof: walks of functions and lemmas of our own. No conditions. -/
import Derived.Test.YtijmcongeemehaaGreatDoorEAl
import Derived.Test.YtijmcongeemehaaGreatDoorEAw
import Derived.Test.YtijmcongeemehaaGreatDoorEBa
import Derived.Test.YtijmcongeemehaaGreatDoorEAx
import Derived.Test.YtijmcongeemehaaGreatDoorEAo
import Derived.Test.YtijmcongeemehaaGreatDoorEAq
import Derived.Test.YtijmcongeemehaaGreatDoorEAp
import Derived.Test.YtijmcongeemehaaGreatDoorEAu
import Derived.Test.YtijmcongeemehaaGreatDoorEAr
import Derived.Test.YtijmcongeemehaaGreatDoorEAt
import Derived.Test.YtijmcongeemehaaGreatDoorEAv
import Derived.Test.YtijmcongeemehaaGreatDoorEAk
set_option linter.unusedSectionVars false
set_option linter.unusedVariables false
set_option linter.unusedSimpArgs false
set_option maxHeartbeats 1000000
namespace Go.Ab
open Go Go.Proofs
def ylr (a0:Character) (i1:Nat) (s1:List UInt8):Except ((List UInt8)) (List UInt8):=
 (bif ((i1:Int) == 0)then .ok (s1++([40]++(zj (a0.Group.getD i1 default))))else .ok (s1++([43]++(zj (a0.Group.getD i1 default)))))
def ypp (a0:Character) (i2:Nat) (s2:List UInt8):Except ((List UInt8)) (List UInt8):=
 (bif ((i2:Int) == 0)then .ok (s2++([40]++(zj (a0.Group.getD i2 default))))else .ok (s2++([43]++(zj (a0.Group.getD i2 default)))))
def zib (a0:Character):(List UInt8):=
 (bif (a0.Kind == 8)then(match yd (ylr a0) (a0.Group.length-0) 0 (((zn ).getD ((a0.Kind).toNat) default)++(([40]++a0.Letter)++[41]))with|.error e=>e|.ok s1=>(bif decide (0<(a0.Group.length:Int))then(bif ((a0.Letter == [76]) && (a0.Kind != 8))then(bif decide (0<a0.Period)then(((s1++[41])++[43,76,70,108])++([32]++a0.Colors))++([32]++(zzb a0.Period))else((s1++[41])++[43,76,70,108])++([32]++a0.Colors))else(bif decide (0<a0.Period)then((s1++[41])++([32]++a0.Colors))++([32]++(zzb a0.Period))else(s1++[41])++([32]++a0.Colors)))else(bif ((a0.Letter == [76]) && (a0.Kind != 8))then(bif decide (0<a0.Period)then((s1++[43,76,70,108])++([32]++a0.Colors))++([32]++(zzb a0.Period))else(s1++[43,76,70,108])++([32]++a0.Colors))else(bif decide (0<a0.Period)then(s1++([32]++a0.Colors))++([32]++(zzb a0.Period))else s1++([32]++a0.Colors)))))else(match yd (ypp a0) (a0.Group.length-0) 0 ((zn ).getD ((a0.Kind).toNat) default)with|.error e=>e|.ok s2=>(bif decide (0<(a0.Group.length:Int))then(bif ((a0.Letter == [76]) && (a0.Kind != 8))then(bif decide (0<a0.Period)then(((s2++[41])++[43,76,70,108])++([32]++a0.Colors))++([32]++(zzb a0.Period))else((s2++[41])++[43,76,70,108])++([32]++a0.Colors))else(bif decide (0<a0.Period)then((s2++[41])++([32]++a0.Colors))++([32]++(zzb a0.Period))else(s2++[41])++([32]++a0.Colors)))else(bif ((a0.Letter == [76]) && (a0.Kind != 8))then(bif decide (0<a0.Period)then((s2++[43,76,70,108])++([32]++a0.Colors))++([32]++(zzb a0.Period))else(s2++[43,76,70,108])++([32]++a0.Colors))else(bif decide (0<a0.Period)then(s2++([32]++a0.Colors))++([32]++(zzb a0.Period))else s2++([32]++a0.Colors))))))
namespace N126
theorem DD:DOk Tryz.prog (Go.Ab.DD [(206,dP D_zn),(207,dP D_zzb),(91,dP D_zj)]):=ya yky.e <| ya yko.e <| ya yyn.e <| ye _
theorem DZ:DOk Tryz.prog (Go.Ab.DD [(206,dP Dz_zn),(207,dP D_zzb),(91,dP D_zj)]):=ya yv4.e <| ya yko.e <| ya yyn.e <| ye _
theorem dn:type_of% (And.intro @D_zn.eq_1 <| And.intro @D_zzb.eq_1 <| And.intro @D_zj.eq_1 <| @Dz_zn.eq_1):=by and_intros<;>intros<;>rfl
theorem o0 {p:Prop} (h:p:=by(first|(and_intros<;>(first|omega|((try simp only[List.length_append,List.length_cons,List.length_nil,List.length_singleton]);omega)|(have h9:=hg9 i1;omega)|(have h9:=hg9 i2;omega)|(have h9:=hd9 i1;(try simp only[List.length_append,List.length_cons,List.length_nil,List.length_singleton]);omega)|(have h9:=hd9 i2;(try simp only[List.length_append,List.length_cons,List.length_nil,List.length_singleton]);omega)|exact hp1|((try simp only[List.length_append,List.length_cons,List.length_nil,List.length_singleton]at *);omega))));first|done|fail):p:=h
set_option maxHeartbeats 1000000 in
set_option maxRecDepth 20000 in
theorem den (a0:Character) (hb0:bdCharacter a0) (hp0:a0.Group.length<=4) (hp1:∀ v∈a0.Group,1<=v/\v<=9) (hp2:1<=a0.Kind) (hp3:a0.Kind<=8) (hp4:0<=a0.Period) (hp5:a0.Period<=600):Den Tryz.prog 126 [.ep (yi a0)] (.str (zib a0)):=by
 generalize hR:zib a0=r;unfold zib at hR;refine di Tryz.func126 Tryz.ntmps126 Tryz.results126 ?_;intro c hL hc hk;obtain⟨hL0,_⟩:=hL;have hw0:bwCharacter a0:=yp a0 hL0;clear hL0;simp only[pars,Nat.zero_add];have hg9:∀ i:Nat,0<=a0.Group.getD i default/\a0.Group.getD i default<=9:=fun i=>y3f hp1 i
 have hd9:∀ i:Nat,(zj (a0.Group.getD i default)).length<=11:=fun i=>by have h1:=hg9 i;have h2:=y6t (a0.Group.getD i default) (by omega) (by omega);omega
 have hk9:=yvs a0.Kind.toNat;have hk8:zn.length=9:=rfl;have hs9:=yvx a0.Period (by omega) (by omega);have hbL:a0.Letter.length<1099511627776:=hb0.2.1;have hbC:a0.Colors.length<1099511627776:=hb0.2.2;refine rS ?_;refine rZ 7 ?_;refine rS ?_;refine AWP.cond rfl (fun hb => ?_) (fun hb => ?_)
 ·replace hR:=ct hR
  iterate 2 refine rS ?_
  refine AWP.block ?_;generalize hz1:yd (ylr a0) (a0.Group.length-0) 0 (((zn ).getD ((a0.Kind).toNat) default)++(([40]++a0.Letter)++[41]))=z1 at hR;refine AWP.range (ylr a0) (fun i1 s1=>⟨[(0,.ep (yi a0)),(3,.str s1),(4,.int .i64 (i1:Int))],[]⟩) (fun i1 s1=>s1.length<=9+a0.Letter.length+12 * i1) (a0.Group.length) 0 (((zn ).getD ((a0.Kind).toNat) default)++(([40]++a0.Letter)++[41])) [] hz1 ot (by((try simp only[List.length_append,List.length_cons,List.length_nil,List.length_singleton]);omega)) sm ?_;clear hz1;intro i1 s1 hi1 hW1 hz1;refine rS ?_;refine AWP.cond rfl (fun hb => ?_) (fun hb => ?_)
  ·have hlt1:i1<a0.Group.length:=ot
   rw[yg hlt1]at hz1;simp only[ylr]at hz1;iterate 2 refine rS ?_
   refine AWP.cond rfl (fun hb => ?_) (fun hb => ?_)
   ·simp only[hb,cond_true]at hz1
    iterate 3 refine rS ?_
    exact⟨_,[],hlt1,by(have h9:=hd9 i1;and_intros<;>first|omega|((try simp only[List.length_append,List.length_cons,List.length_nil,List.length_singleton]);omega)|((try simp only[List.length_append,List.length_cons,List.length_nil,List.length_singleton]at *);omega)),hz1,sm⟩
   ·simp only[hb,cond_false]at hz1
    iterate 2 refine rS ?_
    exact⟨_,[],hlt1,by(have h9:=hd9 i1;and_intros<;>first|omega|((try simp only[List.length_append,List.length_cons,List.length_nil,List.length_singleton]);omega)|((try simp only[List.length_append,List.length_cons,List.length_nil,List.length_singleton]at *);omega)),hz1,sm⟩
  ·obtain rfl:i1=a0.Group.length:=ot
   rw[yh (Nat.le_refl _)]at hz1;subst hz1;dsimp only at hR;refine AWP.exit ?_;refine yb ?_;refine rS ?_;refine AWP.cond rfl (fun hb => ?_) (fun hb => ?_)
   ·replace hR:=ct hR
    iterate 2 refine rS ?_
    refine AWP.cond rfl (fun hb => ?_) (fun hb => ?_)
    ·replace hR:=ct hR
     iterate 3 refine rS ?_
     refine AWP.cond rfl (fun hb => ?_) (fun hb => ?_)
     ·replace hR:=ct hR
      iterate 2 refine rS ?_
      refine AWP.ret ?_;subst hR;exact es
     ·replace hR:=cf hR
      refine rS ?_;refine AWP.ret ?_;subst hR;exact es
    ·replace hR:=cf hR
     iterate 2 refine rS ?_
     refine AWP.cond rfl (fun hb => ?_) (fun hb => ?_)
     ·replace hR:=ct hR
      iterate 2 refine rS ?_
      refine AWP.ret ?_;subst hR;exact es
     ·replace hR:=cf hR
      refine rS ?_;refine AWP.ret ?_;subst hR;exact es
   ·replace hR:=cf hR
    refine rS ?_;refine AWP.cond rfl (fun hb => ?_) (fun hb => ?_)
    ·replace hR:=ct hR
     iterate 3 refine rS ?_
     refine AWP.cond rfl (fun hb => ?_) (fun hb => ?_)
     ·replace hR:=ct hR
      iterate 2 refine rS ?_
      refine AWP.ret ?_;subst hR;exact es
     ·replace hR:=cf hR
      refine rS ?_;refine AWP.ret ?_;subst hR;exact es
    ·replace hR:=cf hR
     iterate 2 refine rS ?_
     refine AWP.cond rfl (fun hb => ?_) (fun hb => ?_)
     ·replace hR:=ct hR
      iterate 2 refine rS ?_
      refine AWP.ret ?_;subst hR;exact es
     ·replace hR:=cf hR
      refine rS ?_;refine AWP.ret ?_;subst hR;exact es
 ·replace hR:=cf hR
  refine rS ?_;refine AWP.block ?_;generalize hz2:yd (ypp a0) (a0.Group.length-0) 0 ((zn ).getD ((a0.Kind).toNat) default)=z2 at hR;refine AWP.range (ypp a0) (fun i2 s2=>⟨[(0,.ep (yi a0)),(3,.str s2),(4,.int .i64 (i2:Int))],[]⟩) (fun i2 s2=>s2.length<=9+a0.Letter.length+12 * i2) (a0.Group.length) 0 ((zn ).getD ((a0.Kind).toNat) default) [] hz2 ot (by((try simp only[List.length_append,List.length_cons,List.length_nil,List.length_singleton]);omega)) sm ?_;clear hz2;intro i2 s2 hi2 hW2 hz2;refine rS ?_;refine AWP.cond rfl (fun hb => ?_) (fun hb => ?_)
  ·have hlt2:i2<a0.Group.length:=ot
   rw[yg hlt2]at hz2;simp only[ypp]at hz2;iterate 2 refine rS ?_
   refine AWP.cond rfl (fun hb => ?_) (fun hb => ?_)
   ·simp only[hb,cond_true]at hz2
    iterate 3 refine rS ?_
    exact⟨_,[],hlt2,by(have h9:=hd9 i2;and_intros<;>first|omega|((try simp only[List.length_append,List.length_cons,List.length_nil,List.length_singleton]);omega)|((try simp only[List.length_append,List.length_cons,List.length_nil,List.length_singleton]at *);omega)),hz2,sm⟩
   ·simp only[hb,cond_false]at hz2
    iterate 2 refine rS ?_
    exact⟨_,[],hlt2,by(have h9:=hd9 i2;and_intros<;>first|omega|((try simp only[List.length_append,List.length_cons,List.length_nil,List.length_singleton]);omega)|((try simp only[List.length_append,List.length_cons,List.length_nil,List.length_singleton]at *);omega)),hz2,sm⟩
  ·obtain rfl:i2=a0.Group.length:=ot
   rw[yh (Nat.le_refl _)]at hz2;subst hz2;dsimp only at hR;refine AWP.exit ?_;refine yb ?_;refine rS ?_;refine AWP.cond rfl (fun hb => ?_) (fun hb => ?_)
   ·replace hR:=ct hR
    iterate 2 refine rS ?_
    refine AWP.cond rfl (fun hb => ?_) (fun hb => ?_)
    ·replace hR:=ct hR
     iterate 3 refine rS ?_
     refine AWP.cond rfl (fun hb => ?_) (fun hb => ?_)
     ·replace hR:=ct hR
      iterate 2 refine rS ?_
      refine AWP.ret ?_;subst hR;exact es
     ·replace hR:=cf hR
      refine rS ?_;refine AWP.ret ?_;subst hR;exact es
    ·replace hR:=cf hR
     iterate 2 refine rS ?_
     refine AWP.cond rfl (fun hb => ?_) (fun hb => ?_)
     ·replace hR:=ct hR
      iterate 2 refine rS ?_
      refine AWP.ret ?_;subst hR;exact es
     ·replace hR:=cf hR
      refine rS ?_;refine AWP.ret ?_;subst hR;exact es
   ·replace hR:=cf hR
    refine rS ?_;refine AWP.cond rfl (fun hb => ?_) (fun hb => ?_)
    ·replace hR:=ct hR
     iterate 3 refine rS ?_
     refine AWP.cond rfl (fun hb => ?_) (fun hb => ?_)
     ·replace hR:=ct hR
      iterate 2 refine rS ?_
      refine AWP.ret ?_;subst hR;exact es
     ·replace hR:=cf hR
      refine rS ?_;refine AWP.ret ?_;subst hR;exact es
    ·replace hR:=cf hR
     iterate 2 refine rS ?_
     refine AWP.cond rfl (fun hb => ?_) (fun hb => ?_)
     ·replace hR:=ct hR
      iterate 2 refine rS ?_
      refine AWP.ret ?_;subst hR;exact es
     ·replace hR:=cf hR
      refine rS ?_;refine AWP.ret ?_;subst hR;exact es
end N126
def D_zib : DF
 | [x0]=>some (.str (zib (rdP yc x0)),false,[wP yi yc x0,bdCharacter (rdP yc x0),(rdP yc x0).Group.length<=4,∀ v∈(rdP yc x0).Group,1<=v/\v<=9,1<=(rdP yc x0).Kind,(rdP yc x0).Kind<=8,0<=(rdP yc x0).Period,(rdP yc x0).Period<=600])
 | _=>none
theorem yy3:OkD Tryz.prog 126 D_zib:=by unfold D_zib;exact dk N126.den
def zzc (a0:Character):(List UInt8):=
 (bif (!(zz a0))then[]else(bif (a0.Period != 0)then(((zmd a0)++[32])++a0.Colors)++(([32]++(zge a0.Period))++[115])else((zmd a0)++[32])++a0.Colors))
namespace N61
theorem DD:DOk Tryz.prog (Go.Ab.DD [(137,dP D_zz),(141,dP D_zmd),(142,dP D_zge)]):=ya yzs.e <| ya y83.e <| ya yfv.e <| ye _
theorem dn:type_of% (And.intro @D_zz.eq_1 <| And.intro @D_zmd.eq_1 <| @D_zge.eq_1):=by and_intros<;>intros<;>rfl
theorem o0 {p:Prop} (h:p:=by(first|(have q9 := ‹(!zz a0)=false›;have q8:zz a0=true:=(by simpa using q9);have h9:=yad a0 q8;have h8:=ybr a0 h9.1 h9.2.1;have h7:=yrd a0 q8;have h6:=yas a0.Period (by omega) (by omega);first|(refine⟨hb0,h9.1,h9.2.1,?_,?_⟩<;>first|omega|(simp only[List.length_append,List.length_cons,List.length_nil];omega))|(and_intros<;>first|omega|(simp only[List.length_append,List.length_cons,List.length_nil];omega))));first|done|fail):p:=h
set_option maxHeartbeats 400000 in
set_option maxRecDepth 20000 in
theorem den (a0:Character) (hb0:bdCharacter a0):Den Tryz.prog 61 [.agg (yi a0)] (.str (zzc a0)):=by
 generalize hR:zzc a0=r;unfold zzc at hR;refine di Tryz.func61 Tryz.ntmps61 Tryz.results61 ?_;intro c hL hc hk;obtain⟨hL0,_⟩:=hL;have hw0:bwCharacter a0:=yp a0 hL0;clear hL0;simp only[pars,Nat.zero_add];have hbL:a0.Letter.length<1099511627776:=hb0.2.1;have hbC:a0.Colors.length<1099511627776:=hb0.2.2;iterate 2 refine rS ?_
 refine AWP.cond rfl (fun hb => ?_) (fun hb => ?_)
 ·replace hR:=ct hR
  refine rS ?_;refine AWP.ret ?_;subst hR;exact es
 ·replace hR:=cf hR
  refine rD 5 ?_;refine rS ?_;refine AWP.cond rfl (fun hb => ?_) (fun hb => ?_)
  ·replace hR:=ct hR
   iterate 2 refine rS ?_
   refine AWP.ret ?_;subst hR;exact es
  ·replace hR:=cf hR
   refine rS ?_;refine AWP.ret ?_;subst hR;exact es
end N61
def D_zzc : DF
 | [x0]=>some (.str (zzc (rdG yc x0)),false,[wG yi yc x0,bdCharacter (rdG yc x0)])
 | _=>none
theorem y1u:OkD Tryz.prog 61 D_zzc:=by unfold D_zzc;exact dk N61.den
def kt (k:Int):List UInt8:=([[],[70],[79,99],[73,115,111],[70,108],[76,70,108],[81],[86,81],[77,111]]:List (List UInt8)).getD k.toNat []
def grpT (g:List Int):List UInt8:=if g=[]then[]else 40::(Lib.join (g.map Lib.itoa) [43]++[41])
def yde (c:Character):List UInt8:=
 if c.Kind=8 then kt 8++(40::(c.Letter++[41]))else kt c.Kind++(grpT c.Group++(if c.Letter=[]then[]else[43,76,70,108]))
def secT (n:Int):List UInt8:=if n.tmod 10=0 then Lib.itoa (n / 10)else Lib.itoa (n / 10)++(46::Lib.itoa (n % 10))
def perT (n:Int):List UInt8:=if n=0 then[]else 32::(secT n++[115])
def chrT (c:Character):List UInt8:=yde c++(32::(c.Colors++perT c.Period))
theorem y65 (k:Int) (h:1<=k/\k<=8):zgc k=kt k:=by
 rcases(show k=1\/k=2\/k=3\/k=4\/k=5\/k=6\/k=7\/k=8 by omega)with h|h|h|h|h|h|h|h<;>subst h<;>rfl
theorem yb2 (k:Int):zn.getD k.toNat default=kt k:=rfl
theorem ynv (n:Int) (h1:0<=n) (h2:n<=600):zge n=secT n:=by
 unfold zge secT;have hd:n.tdiv 10=n / 10:=Int.tdiv_eq_ediv_of_nonneg h1;have hm:n.tmod 10=n % 10:=Int.tmod_eq_emod_of_nonneg h1;have hw:IntKind.wrap .i64 (n.tdiv 10)=n / 10:=by rw[IntKind.wrap_i64];omega
 rw[hw,hm];by_cases h:n % 10=0
 ·rw[h];rfl
 ·have:(n % 10 == 0)=false:=by rw[beq_eq_false_iff_ne];exact h
  rw[this,if_neg h];simp[yq3]
theorem yjo (n:Int) (h1:0<=n) (h2:n<=600):zzb n=secT n++[115]:=by
 unfold zzb secT;have hd:n.tdiv 10=n / 10:=Int.tdiv_eq_ediv_of_nonneg h1;have hm:n.tmod 10=n % 10:=Int.tmod_eq_emod_of_nonneg h1;have hw:IntKind.wrap .i64 (n.tdiv 10)=n / 10:=by rw[IntKind.wrap_i64];omega
 rw[hw,hm,y0f _ (by omega) (by omega),y0f _ (by omega) (by omega)];by_cases h:n % 10=0
 ·rw[h];rfl
 ·have:(n % 10 == 0)=false:=by rw[beq_eq_false_iff_ne];exact h
  rw[this,if_neg h];simp
theorem yrz (c:Character) (hk:1<=c.Kind/\c.Kind<=8):zmd c=yde c:=by
 unfold zmd yde;rw[y65 _ hk];by_cases h8:c.Kind=8
 ·rw[h8];simp
 ·have e8:(c.Kind == 8)=false:=by rw[beq_eq_false_iff_ne];exact h8
  rw[e8,if_neg h8];simp only[cond_false];have hl:=ybd (yum c) (fun j=>[Lib.itoa (c.Group.getD j default)]) c.Group.length 0 [] (fun j s _ _=>rfl);rw[ysf c.Group default Lib.itoa,List.nil_append]at hl;simp only[Nat.sub_zero];rw[hl];unfold grpT;by_cases hg:c.Group=[]
  ·rw[hg]
   by_cases hL:c.Letter=[]
   ·rw[hL];simp
   ·have:(c.Letter != [])=true:=by simpa using hL
    rw[this,if_neg hL];simp
  ·have hpos:0<c.Group.length:=List.length_pos_iff.2 hg
   rw[if_neg hg,decide_eq_true (show 0<(c.Group.length:Int)by omega)];have ej:znb (c.Group.map Lib.itoa) [43]=Lib.join (c.Group.map Lib.itoa) [43]:=rfl;by_cases hL:c.Letter=[]
   ·rw[hL];simp[ej]
   ·have:(c.Letter != [])=true:=by simpa using hL
    rw[this,if_neg hL];simp[ej]
theorem y2l (c:Character) (h:zz c=true):zzc c=chrT c:=by
 have hk:=y2d c (y9b c h);have hp:=yrd c h;have hp2:=(yad c h).2.2;unfold zzc chrT perT;rw[h,yrz c hk,ynv _ hp hp2];by_cases h0:c.Period=0
 ·rw[h0];simp
 ·have:(c.Period != 0)=true:=by rw[bne_iff_ne];exact h0
  rw[this,if_neg h0];simp
theorem y0y (x:Int) (r:List Int):(List.range' 1 r.length).flatMap (fun j=>(43:UInt8)::Lib.itoa ((x::r).getD j default))=Lib.joinTail [43] (r.map Lib.itoa):=by
 unfold Lib.joinTail;rw[List.map_map, <- List.flatMap_def]
 have h:(List.range' 1 r.length).flatMap (fun j=>(43:UInt8)::Lib.itoa ((x::r).getD j default))=(List.range' 0 r.length).flatMap (fun j=>(43:UInt8)::Lib.itoa (r.getD j default)):=by
  rw[List.flatMap_def,List.flatMap_def];congr 1
  apply List.ext_getElem
  ·simp
  ·intro i h1 h2
   simp[List.getElem_range',Nat.add_comm 1 i]
 rw[h];rw[List.flatMap_def,List.flatMap_def];congr 1
 apply List.ext_getElem
 ·simp
 ·intro i h1 h2
  simp only[List.length_map]at h2;simp[List.getD_eq_getElem?_getD,h2]
def grp0 (g:List Int):List UInt8:=if g=[]then[]else 40::Lib.join (g.map Lib.itoa) [43]
theorem yqv (c : Character) (h2 : ∀ v ∈ c.Group, 1 <= v /\ v <= 9) (b : Nat -> List UInt8 -> Except (List UInt8) (List UInt8))
  (hb:∀ j s,b j s=bif ((j:Int) == 0)then .ok (s++([40]++(zj (c.Group.getD j default))))else .ok (s++([43]++(zj (c.Group.getD j default))))) (s:List UInt8) :
  yd b (c.Group.length-0) 0 s=.ok (s++grp0 c.Group):=by
 have hl:=ybd b (fun j=>(if j=0 then(40:UInt8)else 43)::Lib.itoa (c.Group.getD j default)) c.Group.length 0 s (fun j s _ _=>by
  have hr:=y3f h2 j;rw[hb,y0f _ (by omega) (by omega)];by_cases h:j=0
  ·subst h;rfl
  ·have:((j:Int) == 0)=false:=by rw[beq_eq_false_iff_ne];omega
   rw[this,if_neg h];rfl)
 rw[Nat.sub_zero,hl];congr 2
 generalize c.Group=g
 cases g with
 | nil=>rfl
 | cons x r=>
  unfold grp0;rw[if_neg (by simp),List.length_cons,List.range'_succ,List.flatMap_cons,List.map_cons,Lib.join_cons]
  have:(List.range' (0+1) r.length).flatMap (fun j=>(if j=0 then(40:UInt8)else 43)::Lib.itoa ((x::r).getD j default))=(List.range' 1 r.length).flatMap (fun j=>(43:UInt8)::Lib.itoa ((x::r).getD j default)):=by
   rw[List.flatMap_def,List.flatMap_def];congr 1
   apply List.map_congr_left;intro j hj;rw[List.mem_range'_1]at hj;rw[if_neg (by omega)]
  rw[this,y0y];simp
theorem yhl (c:Character) (h:zz c=true):zib c=chrT c:=by
 have hf:=y9b c h;have hk:=y2d c hf;have hp:=yrd c h;obtain⟨g1,g2,hp2⟩:=yad c h
 have hsec:∀ s:List UInt8,(bif decide (0<c.Period)then s++([32]++(zzb c.Period))else s)=s++perT c.Period:=by
  intro s;unfold perT;by_cases h0:c.Period=0
  ·rw[h0];simp
  ·rw[decide_eq_true (show 0<c.Period by omega),if_neg h0,yjo _ hp hp2];simp
 unfold zib chrT yde;rw[yb2,yqv c g2 (ylr c) (fun j s=>rfl),yqv c g2 (ypp c) (fun j s=>rfl)];by_cases h8:c.Kind=8
 ·have hg:c.Group=[]:=by
   unfold zgb at hf;rw[h8]at hf;have hf:(((zrb c.Letter) != []) && ((c.Group.length:Int) == 0))=true:=hf;rw[Bool.and_eq_true,beq_iff_eq]at hf;exact List.length_eq_zero_iff.1 (by omega)
  rw[h8,hg];have e1:((8:Int) == 8)=true:=rfl;have e2:((8:Int) != 8)=false:=rfl;have e3:decide (0<((([]:List Int).length:Int)))=false:=rfl;simp only[e1,e2,e3,cond_true,cond_false,Bool.and_false,if_true,grp0,hsec];simp
 ·have e8:(c.Kind == 8)=false:=by rw[beq_eq_false_iff_ne];exact h8
  have e9:(c.Kind != 8)=true:=by rw[bne_iff_ne];exact h8
  have hL:(c.Letter == [76])=(c.Letter != []):=(yvq c hf h8).symm;rw[e8,e9,if_neg h8,hL];simp only[cond_false,Bool.and_true,hsec];by_cases hg:c.Group=[]
  ·rw[hg]
   have e3:decide (0<((([]:List Int).length:Int)))=false:=rfl;simp only[e3,cond_false,grp0,grpT,if_true];by_cases hl:c.Letter=[]
   ·rw[hl];simp
   ·have:(c.Letter != [])=true:=by simpa using hl
    rw[this,if_neg hl];simp
  ·have hpos:0<c.Group.length:=List.length_pos_iff.2 hg
   rw[decide_eq_true (show 0<(c.Group.length:Int)by omega)];simp only[cond_true,grp0,grpT,if_neg hg];by_cases hl:c.Letter=[]
   ·rw[hl];simp
   ·have:(c.Letter != [])=true:=by simpa using hl
    rw[this,if_neg hl];simp
def zhe (a0:(List UInt8)):(Int×Bool):=
 (bif (!((zd a0 [46]).2.2))then(IntKind.wrap .i64 ((IntKind.wrap .i64 (10 * ((zk ((zd a0 [46]).1)).1)))+((zk [48]).1)),(((((zk ((zd a0 [46]).1)).2 && (zk [48]).2) && (ze ((zk ((zd a0 [46]).1)).1) 0 1200)) && (ze ((zk [48]).1) 0 9)) && ((zge (IntKind.wrap .i64 ((IntKind.wrap .i64 (10 * ((zk ((zd a0 [46]).1)).1)))+((zk [48]).1)))) == a0)))else(IntKind.wrap .i64 ((IntKind.wrap .i64 (10 * ((zk ((zd a0 [46]).1)).1)))+((zk ((zd a0 [46]).2.1)).1)),(((((zk ((zd a0 [46]).1)).2 && (zk ((zd a0 [46]).2.1)).2) && (ze ((zk ((zd a0 [46]).1)).1) 0 1200)) && (ze ((zk ((zd a0 [46]).2.1)).1) 0 9)) && ((zge (IntKind.wrap .i64 ((IntKind.wrap .i64 (10 * ((zk ((zd a0 [46]).1)).1)))+((zk ((zd a0 [46]).2.1)).1)))) == a0))))
namespace N168
theorem DD:DOk Tryz.prog (Go.Ab.DD [(111,dP D_ze),(142,dP D_zge),(164,dP D_zd),(81,dP D_zk)]):=ya y7b.e <| ya yfv.e <| ya yyl.e <| ya yti.e <| ye _
theorem dn:type_of% (And.intro @D_ze.eq_1 <| And.intro @D_zge.eq_1 <| And.intro @D_zd.eq_1 <| @D_zk.eq_1):=by and_intros<;>intros<;>rfl
theorem ol:type_of% (@ze.eq_1):=@ze.eq_1
theorem gr {p:Prop} (h:p:=by(grind [yhf]);first|done|fail):p:=h
set_option maxHeartbeats 400000 in
set_option maxRecDepth 20000 in
theorem den (a0:(List UInt8)) (hb0:a0.length<1099511627776) (hp0:a0.length<=1048576):Den Tryz.prog 168 [.str a0] (.tup [.int .i64 ((zhe a0).1),.bool ((zhe a0).2)]):=by
 generalize hR:zhe a0=r;unfold zhe at hR;refine di Tryz.func168 Tryz.ntmps168 Tryz.results168 ?_;intro c hL hc hk;obtain⟨hL0,_⟩:=hL;have hw0:a0.length<9223372036854775808:=Nat.lt_succ_of_le hL0;clear hL0;simp only[pars,Nat.zero_add];iterate 3 refine rS ?_
 refine AWP.cond rfl (fun hb => ?_) (fun hb => ?_)
 ·replace hR:=ct hR
  iterate 5 refine rS ?_
  refine AWP.ret ?_;subst hR;exact es
 ·replace hR:=cf hR
  iterate 4 refine rS ?_
  refine AWP.ret ?_;subst hR;exact es
end N168
def D_zhe : DF
 | [x0]=>some (.tup [.int .i64 ((zhe (rdS x0)).1),.bool ((zhe (rdS x0)).2)],false,[wS x0,(rdS x0).length<1099511627776,(rdS x0).length<=1048576])
 | _=>none
theorem ym4:OkD Tryz.prog 168 D_zhe:=by unfold D_zhe;exact dk N168.den
theorem ywe {n:Int} (h:0<=n) (b:UInt8) (hb:b.toNat<48\/57<b.toNat):b∉Lib.itoa n:=by
 obtain⟨d1,_,_,_⟩:=y6 n.natAbs;rw[yfe (by omega)];intro hm;have:=d1 b hm;omega
theorem y7c {n:Int} (h1:0<=n) (h2:n<=1000000):yzb (Lib.itoa n)=(n,true):=by
 rcases yej (Lib.itoa n)with⟨m,hm,he,hr⟩|⟨hn,_⟩
 ·rw[hr,ylo he]
 ·exact absurd rfl (hn n (by unfold E18;omega))
theorem yk6 (b : UInt8) (hb : b ≠ 43) : ∀ (xs : List (List UInt8)), (∀ x ∈ xs, b ∉ x) -> b ∉ Lib.join xs [43]
 | [],_=>by simp[Lib.join_nil]
 | x::r,h=>by
  rw[Lib.join_cons];intro hm;rcases List.mem_append.1 hm with hm|hm
  ·exact h x (by simp) hm
  ·unfold Lib.joinTail at hm
   rw[List.mem_flatten]at hm;obtain⟨l,hl,hbl⟩:=hm;obtain⟨y,hy,rfl⟩:=List.mem_map.1 hl;rcases List.mem_append.1 hbl with h9|h9
   ·rw[List.mem_singleton]at h9;exact hb h9
   ·exact h y (by simp[hy]) h9
theorem yzi (b : UInt8) : ∀ (x : List UInt8) (r : List (List UInt8)), b ∉ x -> (∀ y ∈ r, b ∉ y) -> yf b (x ++ Lib.joinTail [b] r) = x :: r
 | x,[],hx,_=>by simp[Lib.joinTail,yib b x hx]
 | x,y::r,hx,hr=>by
  have e:Lib.joinTail [b] (y::r)=b::(y++Lib.joinTail [b] r):=by simp[Lib.joinTail]
  rw[e,y8 b x _ hx,yzi b y r (hr y (by simp)) (fun z hz=>hr z (by simp[hz]))]
theorem yle (g:List Int) (hg:g≠[]) (h2:∀ v∈g,1<=v/\v<=9):yf 43 (Lib.join (g.map Lib.itoa) [43])=g.map Lib.itoa:=by
 cases g with
 | nil=>exact absurd rfl hg
 | cons x r=>
  rw[List.map_cons,Lib.join_cons];refine yzi 43 _ _ (ywe (by have:=h2 x (by simp);omega) 43 (by decide)) ?_;intro y hy;obtain⟨z,hz,rfl⟩:=List.mem_map.1 hy;exact ywe (by have:=h2 z (by simp[hz]);omega) 43 (by decide)
theorem y36 (k:Int) (h:1<=k/\k<=8):(40:UInt8)∉kt k/\(32:UInt8)∉kt k:=by
 rcases(show k=1\/k=2\/k=3\/k=4\/k=5\/k=6\/k=7\/k=8 by omega)with h|h|h|h|h|h|h|h<;>subst h<;>decide
theorem ywo (n:Int) (h1:0<n) (h2:n<=600):zhe (secT n)=(n,true):=by
 have hm:n.tmod 10=n % 10:=Int.tmod_eq_emod_of_nonneg (by omega)
 have z0:Lib.itoa 0=[48]:=by
  rw[yfe (by omega)];first|rfl|decide|(rw[show(0:Int).natAbs=0 from rfl,Lib.decDigits];rfl)
 have e0:zk [48]=(0,true):=by
  have:=y7c (n:=0) (by omega) (by omega);rw[z0]at this;exact this
 have e1:zk (Lib.itoa (n / 10))=(n / 10,true):=y7c (by omega) (by omega);have hst:=ynv n (by omega) h2;have hcut:∀ s,zd s [46]=Lib.cut s [46]:=fun s=>rfl
 unfold zhe;simp only[hcut];have hw:∀ m:Int,0<=m->m<=100000->IntKind.wrap .i64 m=m:=fun m _ _=>by rw[IntKind.wrap_i64];omega
 by_cases h:n.tmod 10=0
 ·have hs:secT n=Lib.itoa (n / 10):=by unfold secT;rw[if_pos h]
  rw[hs]at hst ⊢;rw[ydk _ 46 (ywe (by omega) 46 (by decide))];simp only[Bool.not_false,cond_true];rw[e0,e1];simp only;rw[hw (10 * (n / 10)) (by omega) (by omega),hw (10 * (n / 10)+0) (by omega) (by omega),show 10 * (n / 10)+0=n by omega,hst];have w1:ze (n / 10) 0 1200=true:=by unfold ze;rw[decide_eq_true (by omega),decide_eq_true (by omega)];rfl
  rw[w1];simp[ze]
 ·have hs:secT n=Lib.itoa (n / 10)++(46::Lib.itoa (n % 10)):=by unfold secT;rw[if_neg h]
  have e2:zk (Lib.itoa (n % 10))=(n % 10,true):=y7c (by omega) (by omega);rw[hs]at hst ⊢;rw[ynf _ _ 46 (ywe (by omega) 46 (by decide))];simp only[Bool.not_true,cond_false];rw[e1,e2];simp only;rw[hw (10 * (n / 10)) (by omega) (by omega),hw (10 * (n / 10)+n % 10) (by omega) (by omega),show 10 * (n / 10)+n % 10=n by omega,hst];have w1:ze (n / 10) 0 1200=true:=by unfold ze;rw[decide_eq_true (by omega),decide_eq_true (by omega)];rfl
  have w2:ze (n % 10) 0 9=true:=by unfold ze;rw[decide_eq_true (by omega),decide_eq_true (by omega)];rfl
  rw[w1,w2];simp
theorem yht (a b:List UInt8):zg a b=(Lib.trimSuffix a b,Lib.hasSuffix a b):=rfl
theorem y5s (a b:List UInt8):zd a b=Lib.cut a b:=rfl
theorem yco (k : Int) (hk : 1 <= k /\ k <= 8) (b : Int × Int -> Except (Sum (Character × Bool) (Int × Int)) (Int × Int))
  (hb:∀ s,b s=(bif decide (s.1<=8)then(bif ((zgc s.1) == kt k)then .ok (IntKind.wrap .i64 (s.1+1),s.1)else .ok (IntKind.wrap .i64 (s.1+1),s.2))else .error (.inr (s.1,s.2)))) :
  y5 b (((9-(1:Int)).toNat)+1) (1,0)=.error (.inr (9,k)):=by
 have e:b=fun s=>(bif decide (s.1<=8)then(bif ((zgc s.1) == kt k)then .ok (IntKind.wrap .i64 (s.1+1),s.1)else .ok (IntKind.wrap .i64 (s.1+1),s.2))else .error (.inr (s.1,s.2))):=funext hb
 rw[e];rcases(show k=1\/k=2\/k=3\/k=4\/k=5\/k=6\/k=7\/k=8 by omega)with h|h|h|h|h|h|h|h<;>subst h<;>rfl
theorem yc6 {ρ : Type} (g : List Int) (h2 : ∀ v ∈ g, 1 <= v /\ v <= 9) (r : Nat -> List Int -> ρ) (b : Nat -> List Int -> Except ρ (List Int))
  (hb:∀ i s,b i s=(bif (!(zk ((g.map Lib.itoa).getD i default)).2)then .error (r i s)else .ok (s++([(zk ((g.map Lib.itoa).getD i default)).1]:List Int)))) :
  yd b ((g.map Lib.itoa).length-0) 0 []=.ok g:=by
 rw[List.length_map,Nat.sub_zero]
 rw[ybd b (fun j=>[id (g.getD j default)]) g.length 0 [] (fun j s _ hj=>by
  have hj2:j<g.length:=by omega
  have e:(g.map Lib.itoa).getD j default=Lib.itoa (g.getD j default):=by
   rw[List.getD_eq_getElem?_getD,List.getD_eq_getElem?_getD,List.getElem?_map,List.getElem?_eq_getElem hj2];rfl
  have hr:=y3f h2 j;have e2:zk (Lib.itoa (g.getD j default))=(g.getD j default,true):=y7c (by omega) (by omega)
  rw[hb,e,e2];rfl),ysf g default id]
 simp
theorem yly (c:Character) (h:zgb c=true) (h8:c.Kind≠8) (hL:c.Letter≠[]):c.Letter=[76]/\c.Group=[6]:=by
 unfold zgb at h;simp only[Bool.cond_eq_ite]at h;repeat' split at h
 all_goals (try simp only[Bool.and_eq_true,Bool.or_eq_true,beq_iff_eq,ytf,decide_eq_true_eq]at *)
 all_goals first
  | (exact absurd h.2 hL;done)
  | (exact absurd h.1 hL;done)
  | (exact h)
  | (rename_i q;exact absurd q hL)
  | (rename_i q;exact absurd q h8)
  | (cases h;done)
theorem yom (c:Character) (h:zgb c=true) (h8:c.Kind=8):c.Group=[]/\c.Letter.length=1/\65<=(c.Letter.getD 0 0).toNat/\(c.Letter.getD 0 0).toNat<=90:=by
 unfold zgb at h;rw[h8]at h;have h:(((zrb c.Letter) != []) && ((c.Group.length:Int) == 0))=true:=h;rw[Bool.and_eq_true,beq_iff_eq,y1o,decide_eq_true_eq]at h;exact⟨List.length_eq_zero_iff.1 (by omega),h.1⟩
theorem yer (k:Int) (h:1<=k/\k<=8):Lib.hasSuffix (kt k) [43,76,70,108]=false:=by
 rcases(show k=1\/k=2\/k=3\/k=4\/k=5\/k=6\/k=7\/k=8 by omega)with h|h|h|h|h|h|h|h<;>subst h<;>decide
theorem yak (x:List UInt8):Lib.hasSuffix (x++[41]) [43,76,70,108]=false:=ygm x [43,76,70] 41 108 (by decide)
theorem yiz (c:Character) (h:zgb c=true):zm (yde c)=({ Kind:=c.Kind,Group:=c.Group,Letter:=c.Letter,Colors:=[],Period:=0:Character },true):=by
 have hk:=y2d c h;obtain⟨g1,g2⟩:=y8d c h;have h40:=(y36 c.Kind hk).1;unfold yde;by_cases h8:c.Kind=8
 ·obtain⟨f1,f2⟩:=yom c h h8
  rw[if_pos h8,f1,h8];have eH:kt 8++40::(c.Letter++[41])=(kt 8++40::c.Letter)++[41]:=by simp
  have c1:zg (kt 8++40::(c.Letter++[41])) [43,76,70,108]=(kt 8++40::(c.Letter++[41]),false):=by
   rw[yht,eH,yak,ycf _ _ (yak _)]
  have c2:zd (kt 8++40::(c.Letter++[41])) [40]=(kt 8,c.Letter++[41],true):=by rw[y5s,ynf _ _ 40 (by decide)]
  have c3:zg (c.Letter++[41]) [41]=(c.Letter,true):=by rw[yht,ybc,yvc]
  have hw:=yco 8 (by omega) (y5k (kt 8++40::(c.Letter++[41]))) (fun s=>by unfold y5k;rw[c1];simp only;rw[c2]);unfold zm;rw[c1];simp only;rw[c2];simp only;rw[c3,hw];rfl
 ·rw[if_neg h8]
  have e8:(c.Kind == 8)=false:=by rw[beq_eq_false_iff_ne];exact h8
  by_cases hL:c.Letter=[]
  ·rw[if_pos hL,List.append_nil,hL]
   by_cases hg:c.Group=[]
   ·have eg:grpT c.Group=[]:=by rw[hg];rfl
    rw[eg,List.append_nil,hg]
    have c1:zg (kt c.Kind) [43,76,70,108]=(kt c.Kind,false):=by
     rw[yht,yer _ hk,ycf _ _ (yer _ hk)]
    have c2:zd (kt c.Kind) [40]=(kt c.Kind,[],false):=by rw[y5s,ydk _ 40 h40]
    have hw:=yco c.Kind hk (y5k (kt c.Kind)) (fun s=>by unfold y5k;rw[c1];simp only;rw[c2]);unfold zm;rw[c1];simp only;rw[c2,hw];rfl
   ·have eg:grpT c.Group=40::(Lib.join (c.Group.map Lib.itoa) [43]++[41]):=by unfold grpT;rw[if_neg hg]
    rw[eg];generalize hJ:Lib.join (c.Group.map Lib.itoa) [43]=J;have eH:kt c.Kind++40::(J++[41])=(kt c.Kind++40::J)++[41]:=by simp
    have c1:zg (kt c.Kind++40::(J++[41])) [43,76,70,108]=(kt c.Kind++40::(J++[41]),false):=by
     rw[yht,eH,yak,ycf _ _ (yak _)]
    have c2:zd (kt c.Kind++40::(J++[41])) [40]=(kt c.Kind,J++[41],true):=by rw[y5s,ynf _ _ 40 h40]
    have c3:zg (J++[41]) [41]=(J,true):=by rw[yht,ybc,yvc]
    have c4:zb J [43]=c.Group.map Lib.itoa:=by
     show yf 43 J=_;rw[<- hJ];exact yle _ hg g2
    have hw:=yco c.Kind hk (y5k (kt c.Kind++40::(J++[41]))) (fun s=>by unfold y5k;rw[c1];simp only;rw[c2]);have hg4:∀ s,yd (y8s (kt c.Kind++40::(J++[41])) s) ((c.Group.map Lib.itoa).length-0) 0 []=.ok c.Group:=fun s=>yc6 c.Group g2 (fun _ _=>({ Kind:=0,Group:=[],Letter:=[],Colors:=[],Period:=0:Character },false)) _ (fun i t=>by unfold y8s;rw[c1];simp only;rw[c2];simp only;rw[c3];simp only;rw[c4])
    unfold zm;rw[c1];simp only;rw[c2];simp only;rw[c3];simp only;rw[c4,hw];simp only[hg4,e8,cond_false,Bool.not_true]
  ·obtain⟨l1,l2⟩:=yly c h h8 hL
   rw[if_neg hL];have hg:c.Group≠[]:=by rw[l2];simp
   have eg:grpT c.Group=40::(Lib.join (c.Group.map Lib.itoa) [43]++[41]):=by unfold grpT;rw[if_neg hg]
   rw[eg];generalize hJ:Lib.join (c.Group.map Lib.itoa) [43]=J;have eH:kt c.Kind++(40::(J++[41])++[43,76,70,108])=(kt c.Kind++40::(J++[41]))++[43,76,70,108]:=by simp
   rw[eH,l1]
   have c1:zg ((kt c.Kind++40::(J++[41]))++[43,76,70,108]) [43,76,70,108]=(kt c.Kind++40::(J++[41]),true):=by
    rw[yht,ybc,yvc]
   have c2:zd (kt c.Kind++40::(J++[41])) [40]=(kt c.Kind,J++[41],true):=by rw[y5s,ynf _ _ 40 h40]
   have c3:zg (J++[41]) [41]=(J,true):=by rw[yht,ybc,yvc]
   have c4:zb J [43]=c.Group.map Lib.itoa:=by
    show yf 43 J=_;rw[<- hJ];exact yle _ hg g2
   have hw:=yco c.Kind hk (y0t ((kt c.Kind++40::(J++[41]))++[43,76,70,108])) (fun s=>by unfold y0t;rw[c1];simp only;rw[c2]);have hg4:∀ s,yd (ybt ((kt c.Kind++40::(J++[41]))++[43,76,70,108]) s) ((c.Group.map Lib.itoa).length-0) 0 []=.ok c.Group:=fun s=>yc6 c.Group g2 (fun _ _=>({ Kind:=0,Group:=[],Letter:=[],Colors:=[],Period:=0:Character },false)) _ (fun i t=>by unfold ybt;rw[c1];simp only;rw[c2];simp only;rw[c3];simp only;rw[c4])
   unfold zm;rw[c1];simp only;rw[c2];simp only;rw[c3];simp only;rw[c4,hw];simp only[hg4,e8,cond_false,cond_true,Bool.not_true]
def zof (a0:Point):(List UInt8):=
 (bif (!(zhd a0))then[]else((zl a0.X)++[44])++(zl a0.Y))
namespace N64
theorem DD:DOk Tryz.prog (Go.Ab.DD [(133,dP D_zhd),(63,dP D_zl)]):=ya ywn.e <| ya yye.e <| ye _
theorem dn:type_of% (And.intro @D_zhd.eq_1 <| @D_zl.eq_1):=by and_intros<;>intros<;>rfl
theorem gr {p:Prop} (h:p:=by(grind [yfc]);first|done|fail):p:=h
theorem o0 {p:Prop} (h:p:=by(first|(have h9:=ys7 (p:=a0) (by assumption);have l1:=yfc a0.X;have l2:=yfc a0.Y;(repeat' with_reducible apply And.intro)<;>(first|omega|assumption|(simp only[List.length_append,List.length_cons,List.length_nil,List.length_singleton];omega)|(refine Nat.le_trans (yvf _ _) ?_;simp only[jl,List.length_cons,List.length_nil];omega))));first|done|fail):p:=h
set_option maxHeartbeats 1000000 in
set_option maxRecDepth 20000 in
theorem den (a0:Point)  : Den Tryz.prog 64 [.agg (ygd a0)] (.str (zof a0)):=by
 generalize hR:zof a0=r;unfold zof at hR;refine di Tryz.func64 Tryz.ntmps64 Tryz.results64 ?_;intro c hL hc hk;clear hL;simp only[pars,Nat.zero_add];iterate 2 refine rS ?_
 refine AWP.cond rfl (fun hb => ?_) (fun hb => ?_)
 ·replace hR:=ct hR
  refine rS ?_;refine AWP.ret ?_;subst hR;exact es
 ·replace hR:=cf hR
  refine rD 7 ?_;refine AWP.ret ?_;subst hR;exact es
end N64
def D_zof : DF
 | [x0]=>some (.str (zof (rdG ydf x0)),false,[wG ygd ydf x0])
 | _=>none
theorem yz4:OkD Tryz.prog 64 D_zof:=by unfold D_zof;exact dk N64.den
def zsg (a0:Point):(List UInt8):=
 ((zj a0.X)++[44])++(zj a0.Y)
def zae (a0:Mark):(List UInt8):=
 (bif (!(zvc a0))then[]else(bif (a0.Kind == 0)then(zdd 0)else(bif (a0.Topmark == [])then(znb [(zdd a0.Kind),a0.Colors,a0.Shape,[45]] [32])else(znb [(zdd a0.Kind),a0.Colors,a0.Shape,a0.Topmark] [32]))))
namespace N65
theorem DD:DOk Tryz.prog (Go.Ab.DD [(135,dP D_zvc),(147,dP D_zdd),(62,dP D_znb)]):=ya yxo.e <| ya ypo.e <| ya yei.e <| ye _
theorem dn:type_of% (And.intro @D_zvc.eq_1 <| And.intro @D_zdd.eq_1 <| @D_znb.eq_1):=by and_intros<;>intros<;>rfl
theorem o0 {p:Prop} (h:p:=by(first|(have h9:=yjz (m:=a0) (by assumption);have l1:=yo0 a0.Kind;(repeat' with_reducible apply And.intro)<;>(first|omega|assumption|(simp only[List.length_append,List.length_cons,List.length_nil,List.length_singleton];omega)|(refine Nat.le_trans (yvf _ _) ?_;simp only[jl,List.length_cons,List.length_nil];omega))));first|done|fail):p:=h
theorem lx {p:Prop} (h:p:=by(exact lxx);first|done|fail):p:=h
set_option maxHeartbeats 1000000 in
set_option maxRecDepth 20000 in
theorem den (a0:Mark) (hb0:bdMark a0):Den Tryz.prog 65 [.agg (ykd a0)] (.str (zae a0)):=by
 generalize hR:zae a0=r;unfold zae at hR;refine di Tryz.func65 Tryz.ntmps65 Tryz.results65 ?_;intro c hL hc hk;obtain⟨hL0,_⟩:=hL;have hw0:bwMark a0:=ywd a0 hL0;clear hL0;simp only[pars,Nat.zero_add];iterate 2 refine rS ?_
 refine AWP.cond rfl (fun hb => ?_) (fun hb => ?_)
 ·replace hR:=ct hR
  refine rS ?_;refine AWP.ret ?_;subst hR;exact es
 ·replace hR:=cf hR
  refine rS ?_;refine AWP.cond rfl (fun hb => ?_) (fun hb => ?_)
  ·replace hR:=ct hR
   refine rS ?_;refine AWP.ret ?_;subst hR;exact es
  ·replace hR:=cf hR
   iterate 2 refine rS ?_
   refine AWP.cond rfl (fun hb => ?_) (fun hb => ?_)
   ·replace hR:=ct hR
    refine rS ?_;refine rD 8 ?_;refine AWP.ret ?_;subst hR;exact es
   ·replace hR:=cf hR
    refine rD 8 ?_;refine AWP.ret ?_;subst hR;exact es
end N65
def D_zae : DF
 | [x0]=>some (.str (zae (rdG ype x0)),false,[wG ykd ype x0,bdMark (rdG ype x0)])
 | _=>none
theorem y3v:OkD Tryz.prog 65 D_zae:=by unfold D_zae;exact dk N65.den
def zfd (a0:Mark):(List UInt8):=
 (bif (a0.Kind == 0)then[110,111,110,101]else(bif (a0.Topmark == [])then(((((((zkb ).getD ((a0.Kind).toNat) default)++[32])++a0.Colors)++[32])++a0.Shape)++[32])++[45]else(((((((zkb ).getD ((a0.Kind).toNat) default)++[32])++a0.Colors)++[32])++a0.Shape)++[32])++a0.Topmark))
namespace N208
theorem DD:DOk Tryz.prog (Go.Ab.DD [(264,dP D_zkb)]):=ya y7t.e <| ye _
theorem DZ:DOk Tryz.prog (Go.Ab.DD [(264,dP Dz_zkb)]):=ya yk0.e <| ye _
theorem dn:type_of% (And.intro @D_zkb.eq_1 <| @Dz_zkb.eq_1):=by and_intros<;>intros<;>rfl
theorem o0 {p:Prop} (h:p:=by(first|((repeat' with_reducible apply And.intro)<;>(first|omega|assumption|(simp only[List.length_append,List.length_cons,List.length_nil,List.length_singleton];omega)|(refine Nat.le_trans (yvf _ _) ?_;simp only[jl,List.length_cons,List.length_nil];omega))));first|done|fail):p:=h
set_option maxHeartbeats 1000000 in
set_option maxRecDepth 20000 in
theorem den (a0:Mark) (hb0:bdMark a0) (hp0:zcb a0=true):Den Tryz.prog 208 [.ep (ykd a0)] (.str (zfd a0)):=by
 generalize hR:zfd a0=r;unfold zfd at hR;refine di Tryz.func208 Tryz.ntmps208 Tryz.results208 ?_;intro c hL hc hk;obtain⟨hL0,_⟩:=hL;have hw0:bwMark a0:=ywd a0 hL0;clear hL0;simp only[pars,Nat.zero_add];have h9:=yni (m:=a0) hp0;have hn:=y00 a0.Kind.toNat;have hn2:zkb.length=10:=rfl;iterate 2 refine rS ?_
 refine AWP.cond rfl (fun hb => ?_) (fun hb => ?_)
 ·replace hR:=ct hR
  refine rS ?_;refine AWP.ret ?_;subst hR;exact es
 ·replace hR:=cf hR
  iterate 2 refine rS ?_
  refine AWP.cond rfl (fun hb => ?_) (fun hb => ?_)
  ·replace hR:=ct hR
   refine rS ?_;refine rZ 22 ?_;refine AWP.ret ?_;subst hR;exact es
  ·replace hR:=cf hR
   refine rZ 22 ?_;refine AWP.ret ?_;subst hR;exact es
end N208
def D_zfd : DF
 | [x0]=>some (.str (zfd (rdP ype x0)),false,[wP ykd ype x0,bdMark (rdP ype x0),zcb (rdP ype x0)=true])
 | _=>none
theorem y14:OkD Tryz.prog 208 D_zfd:=by unfold D_zfd;exact dk N208.den
def zrg (a0:Mark):(List UInt8):=
 (bif (!(zcb a0))then[]else(zfd a0))
def ytm (a0:(List Sector)) (i1:Nat) (s1:List (List UInt8)):Except ((List UInt8)) (List (List UInt8)):=
 .ok (s1++[(((zl ((a0.getD i1 default).From))++[45])++(zl ((a0.getD i1 default).To)))++((a0.getD i1 default).Color)])
def zrc (a0:(List Sector)):(List UInt8):=
 (bif (!(zab a0))then[]else(bif ((a0.length:Int) == 0)then[45]else(match yd (ytm a0) (a0.length-0) 0 ([]:List (List UInt8))with|.error e=>e|.ok s1=>(znb s1 [44]))))
namespace N66
theorem DD:DOk Tryz.prog (Go.Ab.DD [(139,dP D_zab),(62,dP D_znb),(63,dP D_zl)]):=ya y5o.e <| ya yei.e <| ya yye.e <| ye _
theorem dn:type_of% (And.intro @D_zab.eq_1 <| And.intro @D_znb.eq_1 <| @D_zl.eq_1):=by and_intros<;>intros<;>rfl
theorem gr {p:Prop} (h:p:=by(grind [yfc]);first|done|fail):p:=h
theorem o0 {p:Prop} (h:p:=by(first|((have h8:=hsr (by assumption);have h9:=h8.2 i1;have l1:=yfc (a0.getD i1 default).From;have l2:=yfc (a0.getD i1 default).To;(repeat' with_reducible apply And.intro)<;>(first|omega|assumption|(simp only[List.length_append,List.length_cons,List.length_nil,List.length_singleton];omega)|(refine Nat.le_trans (yvf _ _) ?_;simp only[jl,List.length_cons,List.length_nil];omega))))|(have h8:=hsr (by assumption);obtain⟨w1,w2⟩:=hW1;have h9:=ysh [44] s1 1000 w2;simp only[List.length_singleton]at h9;(repeat' with_reducible apply And.intro)<;>omega));first|done|fail):p:=h
set_option maxHeartbeats 1000000 in
set_option maxRecDepth 20000 in
theorem den (a0:(List Sector)) (hb0:a0.length<1099511627776) (hb1:∀ v∈a0,bdSector v):Den Tryz.prog 66 [encL 3 ym a0] (.str (zrc a0)):=by
 generalize hR:zrc a0=r;unfold zrc at hR;refine di Tryz.func66 Tryz.ntmps66 Tryz.results66 ?_;intro c hL hc hk;obtain⟨hL0,_⟩:=hL;have hw0:a0.length<9223372036854775808:=Nat.lt_succ_of_le (yj hL0).1;have hw1:∀ v∈a0,bwSector v:=fun v hv=>yx v ((yj hL0).2 v hv)
 clear hL0;simp only[pars,Nat.zero_add];have hsr:=fun h=>yi2 (a:=a0) hb0 h
 iterate 2 refine rS ?_
 refine AWP.cond rfl (fun hb => ?_) (fun hb => ?_)
 ·replace hR:=ct hR
  refine rS ?_;refine AWP.ret ?_;subst hR;exact es
 ·replace hR:=cf hR
  refine rS ?_;refine AWP.cond rfl (fun hb => ?_) (fun hb => ?_)
  ·replace hR:=ct hR
   refine rS ?_;refine AWP.ret ?_;subst hR;exact es
  ·replace hR:=cf hR
   iterate 2 refine rS ?_
   refine AWP.block ?_;generalize hz1:yd (ytm a0) (a0.length-0) 0 ([]:List (List UInt8))=z1 at hR;refine AWP.range (ytm a0) (fun i1 s1=>⟨[(3,.ref 0 1 0 s1.length),(13,encL 3 ym a0),(14,.int .i64 (a0.length:Int)),(15,.int .i64 (i1:Int))],[.arr 9 1 s1.length (fun j=>eS (s1.getD j default))]⟩) (fun i1 s1=>s1.length<=i1/\∀ v∈s1,v.length<=1000) (a0.length) 0 ([]:List (List UInt8)) [0] hz1 ot wt sm ?_;clear hz1;intro i1 s1 hi1 hW1 hz1;refine rS ?_;refine AWP.seq ?_;refine AWP.cond rfl (fun hb => ?_) (fun hb => ?_)
   ·have hlt1:i1<a0.length:=ot
    rw[yg hlt1]at hz1;simp only[ytm]at hz1;refine rS ?_;refine AWP.regP mixed G_ok DD hc 13 [0,1,2,3,4,5,6,7,8,9,10,11] (.alt 12 [] [0,1,2,5] .leaf .stop) (by kernel_rfl) (by kernel_rfl) (by kernel_rfl) (fun K hK => ?_);simp only[ymg,runN,runP,yrb,nthO,ea,absV,absVL,cput,gv,sv,dn,reduceCtorEq,reduceIte,Nat.reduceBEq,Nat.reduceAdd,Nat.reduceEqDiff,Nat.reduceLT,Nat.reduceLeDiff,Nat.reduceMul,Nat.reduceSub,BEq.rfl,beq_self_eq_true,Int.reduceToNat];repeat' apply And.intro
    all_goals first|refine hK _ ?_|exact ot
    all_goals clear hK K
    refine rS ?_;exact⟨_,[3],hlt1,by(have h8:=hsr (by assumption);have h9:=h8.2 i1;have l1:=yfc (a0.getD i1 default).From;have l2:=yfc (a0.getD i1 default).To;obtain⟨w1,w2⟩:=hW1;(repeat' with_reducible apply And.intro)<;>first|(simp only[List.length_append,List.length_cons,List.length_nil,List.length_singleton];omega)|(intro v hv;exact(List.mem_append.1 hv).elim (fun h=>w2 v h) (fun h=>by rw[List.mem_singleton]at h;subst h;simp only[List.length_append,List.length_cons,List.length_nil,List.length_singleton];omega))),hz1,sm⟩
   ·obtain rfl:i1=a0.length:=ot
    rw[yh (Nat.le_refl _)]at hz1;subst hz1;dsimp only at hR;refine AWP.exit ?_;refine yb ?_;refine rS ?_;refine AWP.ret ?_;subst hR;exact es
end N66
def D_zrc : DF
 | [x0]=>some (.str (zrc (rdL yq x0)),false,[wL 3 ym yq x0,(rdL yq x0).length<1099511627776,∀ v∈(rdL yq x0),bdSector v])
 | _=>none
theorem yyu:OkD Tryz.prog 66 D_zrc:=by unfold D_zrc;exact dk N66.den
def ya0 (a0:(List Sector)) (i1:Nat) (s1:List UInt8):Except ((List UInt8)) (List UInt8):=
 (bif decide (0<(i1:Int))then .ok ((s1++[44])++((((zj ((a0.getD i1 default).From))++[45])++(zj ((a0.getD i1 default).To)))++((a0.getD i1 default).Color)))else .ok (s1++((((zj ((a0.getD i1 default).From))++[45])++(zj ((a0.getD i1 default).To)))++((a0.getD i1 default).Color))))
def zag (a0:(List Sector)):(List UInt8):=
 (bif ((a0.length:Int) == 0)then[45]else(match yd (ya0 a0) (a0.length-0) 0 []with|.error e=>e|.ok s1=>s1))
end Go.Ab
