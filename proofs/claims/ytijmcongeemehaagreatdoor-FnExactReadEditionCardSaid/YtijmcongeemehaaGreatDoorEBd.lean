/- A part of a proof: walks of functions and lemmas of our own. No conditions. -/
import Derived.Test.YtijmcongeemehaaGreatDoorEAl
import Derived.Test.YtijmcongeemehaaGreatDoorEAy
import Derived.Test.YtijmcongeemehaaGreatDoorEBb
import Derived.Test.YtijmcongeemehaaGreatDoorEAp
import Derived.Test.YtijmcongeemehaaGreatDoorEAr
import Derived.Test.YtijmcongeemehaaGreatDoorEBc
import Derived.Test.YtijmcongeemehaaGreatDoorEAw
import Derived.Test.YtijmcongeemehaaGreatDoorEBa
import Derived.Test.YtijmcongeemehaaGreatDoorEAx
import Derived.Test.YtijmcongeemehaaGreatDoorEAq
import Derived.Test.YtijmcongeemehaaGreatDoorEAt
import Derived.Test.YtijmcongeemehaaGreatDoorEAu
import Derived.Test.YtijmcongeemehaaGreatDoorEAv
set_option linter.unusedSectionVars false
set_option linter.unusedVariables false
set_option linter.unusedSimpArgs false
set_option maxHeartbeats 1000000
namespace Go.Ab
open Go Go.Proofs
def zbf (a0:Aid):(List UInt8):=
 (bif (!(zyf a0))then[]else(bif (zoe a0)then(znb [(zl a0.Number),a0.Name,(zof a0.At),(zl a0.Height),(zae a0.Mark),(zzc a0.Light),(zrc a0.Sectors),(zl a0.Intensity)] [47])else(znb [(zl a0.Number),a0.Name,(zof a0.At),(zl a0.Height),(zae a0.Mark),[45],(zrc a0.Sectors),(zl a0.Intensity)] [47])))
namespace N21
theorem DD:DOk Tryz.prog (Go.Ab.DD [(59,dP D_zyf),(60,dP D_zoe),(61,dP D_zzc),(62,dP D_znb),(63,dP D_zl),(64,dP D_zof),(65,dP D_zae),(66,dP D_zrc)]):=ya y91.e <| ya yev.e <| ya y1u.e <| ya yei.e <| ya yye.e <| ya yz4.e <| ya y3v.e <| ya yyu.e <| ye _
theorem dn:type_of% (And.intro @D_zyf.eq_1 <| And.intro @D_zoe.eq_1 <| And.intro @D_zzc.eq_1 <| And.intro @D_znb.eq_1 <| And.intro @D_zl.eq_1 <| And.intro @D_zof.eq_1 <| And.intro @D_zae.eq_1 <| @D_zrc.eq_1):=by and_intros<;>intros<;>rfl
theorem gr {p:Prop} (h:p:=by(grind [yfc]);first|done|fail):p:=h
theorem o0 {p:Prop} (h:p:=by(first|(have h9:=yav hb0 (by assumption);have hr:=ywf h9;obtain⟨⟨e1,l1⟩,⟨e2,l2⟩,⟨e3,l3⟩,⟨e4,l4⟩,hch,⟨e6,l6⟩,⟨e7,l7⟩,l8⟩:=yl6 h9 (Nat.lt_of_lt_of_le hb0.2.2.1.2.2 (by decide));obtain⟨e5,l5⟩:=hch (by rw[<- hlt h9];assumption);rw[<- e5]at l5;rw[<- e1]at l1;rw[<- e2]at l2;rw[<- e3]at l3;rw[<- e4]at l4;rw[<- e6]at l6;rw[<- e7]at l7;(repeat' with_reducible apply And.intro)<;>(first|omega|exact hb0.2.1|exact hb0.2.2.2.1|exact hb0.2.2.2.2|exact hb0.2.2.1|exact hr.2.2.2.1|exact hr.2.2.2.2.2.2.2.2.1|(refine Nat.le_trans (yvf _ _) ?_;simp only[jl,List.length_cons,List.length_nil];omega)))|(have h9:=yav hb0 (by assumption);have hr:=ywf h9;obtain⟨⟨e1,l1⟩,⟨e2,l2⟩,⟨e3,l3⟩,⟨e4,l4⟩,hch,⟨e6,l6⟩,⟨e7,l7⟩,l8⟩:=yl6 h9 (Nat.lt_of_lt_of_le hb0.2.2.1.2.2 (by decide));skip;rw[<- e1]at l1;rw[<- e2]at l2;rw[<- e3]at l3;rw[<- e4]at l4;rw[<- e6]at l6;rw[<- e7]at l7;(repeat' with_reducible apply And.intro)<;>(first|omega|exact hb0.2.1|exact hb0.2.2.2.1|exact hb0.2.2.2.2|exact hb0.2.2.1|exact hr.2.2.2.1|exact hr.2.2.2.2.2.2.2.2.1|(refine Nat.le_trans (yvf _ _) ?_;simp only[jl,List.length_cons,List.length_nil];omega))));first|done|fail):p:=h
theorem lx {p:Prop} (h:p:=by(exact lxx);first|done|fail):p:=h
set_option maxHeartbeats 4000000 in
set_option maxRecDepth 20000 in
theorem den (a0:Aid) (hb0:bdAid a0):Den Tryz.prog 21 [.agg (eAid a0)] (.str (zbf a0)):=by
 generalize hR:zbf a0=r;unfold zbf at hR;refine di Tryz.func21 Tryz.ntmps21 Tryz.results21 ?_;intro c hL hc hk;obtain⟨hL0,_⟩:=hL;have hw0:bwAid a0:=ytc a0 hL0;clear hL0;simp only[pars,Nat.zero_add];have hlt:=fun h=>yq5 (a:=a0) h (Nat.lt_of_lt_of_le hb0.2.2.1.2.2 (by decide))
 iterate 2 refine rS ?_
 refine AWP.cond rfl (fun hb => ?_) (fun hb => ?_)
 ·replace hR:=ct hR
  refine rS ?_;refine AWP.ret ?_;subst hR;exact es
 ·replace hR:=cf hR
  iterate 2 refine rS ?_
  refine AWP.cond rfl (fun hb => ?_) (fun hb => ?_)
  ·replace hR:=ct hR
   refine rS ?_;refine rD 21 ?_;refine AWP.ret ?_;subst hR;exact es
  ·replace hR:=cf hR
   refine rD 21 ?_;refine AWP.ret ?_;subst hR;exact es
end N21
def D_zbf : DF
 | [x0]=>some (.str (zbf (rdG dAid x0)),false,[wG eAid dAid x0,bdAid (rdG dAid x0)])
 | _=>none
theorem yj3:OkD Tryz.prog 21 D_zbf:=by unfold D_zbf;exact dk N21.den
def zug (a0:Aid):(List UInt8):=
 (bif (zng a0)then((((((((((((((zj a0.Number)++[47])++a0.Name)++[47])++(zsg a0.At))++[47])++(zj a0.Height))++[47])++(zrg a0.Mark))++[47])++(zib a0.Light))++[47])++(zag a0.Sectors))++[47])++(zj a0.Intensity)else((((((((((((((zj a0.Number)++[47])++a0.Name)++[47])++(zsg a0.At))++[47])++(zj a0.Height))++[47])++(zrg a0.Mark))++[47])++[45])++[47])++(zag a0.Sectors))++[47])++(zj a0.Intensity))
theorem yl9 (a b c d e f g h:List UInt8) (s:List UInt8):Lib.join [a,b,c,d,e,f,g,h] s=a++(s++(b++(s++(c++(s++(d++(s++(e++(s++(f++(s++(g++(s++h))))))))))))):=by
 simp[Lib.join_cons,Lib.joinTail]
theorem yh2 {a:Aid} (h:zjc a=true) (hl:a.Light.Colors.length<9223372036854775808):zbf a=zug a/\(zug a).length<=300:=by
 have hr:=ywf h;have hs:=(y7g hr.2.2.2.2.2.2.2.2.1).1;obtain⟨⟨e1,l1⟩,⟨e2,l2⟩,⟨e3,l3⟩,⟨e4,l4⟩,hch,⟨e6,l6⟩,⟨e7,l7⟩,l8⟩:=yl6 h hl;have e:∀ a b c d e f g h:List UInt8,znb [a,b,c,d,e,f,g,h] [47]=a++([47]++(b++([47]++(c++([47]++(d++([47]++(e++([47]++(f++([47]++(g++([47]++h))))))))))))):=fun a b c d e f g h=>yl9 a b c d e f g h [47]
 unfold zbf zug;rw[ybh a hl (by omega),h,yq5 h hl];simp only[Bool.not_true,cond_false]
 cases ht:zng a with
 | true=>
  obtain⟨e5,l5⟩:=hch ht;simp only[cond_true];rw[e,e1,e2,e3,e4,e5,e6,e7];refine⟨by simp only[List.append_assoc],?_⟩;simp only[List.length_append,List.length_cons,List.length_nil];omega
 | false=>
  simp only[cond_false];rw[e,e1,e2,e3,e4,e6,e7];refine⟨by simp only[List.append_assoc],?_⟩;simp only[List.length_append,List.length_cons,List.length_nil];omega
def zad (a0:(List UInt8)):(Character×Bool):=
 (bif (zd ((zd a0 [32]).2.1) [32]).2.2 then(bif (((!((zm ((zd a0 [32]).1)).2 && (zhe (zod ((zd ((zd a0 [32]).2.1) [32]).2.1) [115])).2)) || (!(zz ({ Kind:=((zm ((zd a0 [32]).1)).1).Kind,Group:=((zm ((zd a0 [32]).1)).1).Group,Letter:=((zm ((zd a0 [32]).1)).1).Letter,Colors:=(zd ((zd a0 [32]).2.1) [32]).1,Period:=(zhe (zod ((zd ((zd a0 [32]).2.1) [32]).2.1) [115])).1:Character })))) || ((zzc ({ Kind:=((zm ((zd a0 [32]).1)).1).Kind,Group:=((zm ((zd a0 [32]).1)).1).Group,Letter:=((zm ((zd a0 [32]).1)).1).Letter,Colors:=(zd ((zd a0 [32]).2.1) [32]).1,Period:=(zhe (zod ((zd ((zd a0 [32]).2.1) [32]).2.1) [115])).1:Character })) != a0))then({ Kind:=0,Group:=[],Letter:=[],Colors:=[],Period:=0:Character },false)else({ Kind:=((zm ((zd a0 [32]).1)).1).Kind,Group:=((zm ((zd a0 [32]).1)).1).Group,Letter:=((zm ((zd a0 [32]).1)).1).Letter,Colors:=(zd ((zd a0 [32]).2.1) [32]).1,Period:=(zhe (zod ((zd ((zd a0 [32]).2.1) [32]).2.1) [115])).1:Character },true))else(bif (((!((zm ((zd a0 [32]).1)).2)) || (!(zz ({ Kind:=((zm ((zd a0 [32]).1)).1).Kind,Group:=((zm ((zd a0 [32]).1)).1).Group,Letter:=((zm ((zd a0 [32]).1)).1).Letter,Colors:=(zd ((zd a0 [32]).2.1) [32]).1,Period:=((zm ((zd a0 [32]).1)).1).Period:Character })))) || ((zzc ({ Kind:=((zm ((zd a0 [32]).1)).1).Kind,Group:=((zm ((zd a0 [32]).1)).1).Group,Letter:=((zm ((zd a0 [32]).1)).1).Letter,Colors:=(zd ((zd a0 [32]).2.1) [32]).1,Period:=((zm ((zd a0 [32]).1)).1).Period:Character })) != a0))then({ Kind:=0,Group:=[],Letter:=[],Colors:=[],Period:=0:Character },false)else({ Kind:=((zm ((zd a0 [32]).1)).1).Kind,Group:=((zm ((zd a0 [32]).1)).1).Group,Letter:=((zm ((zd a0 [32]).1)).1).Letter,Colors:=(zd ((zd a0 [32]).2.1) [32]).1,Period:=((zm ((zd a0 [32]).1)).1).Period:Character },true)))
namespace N84
theorem DD:DOk Tryz.prog (Go.Ab.DD [(137,dP D_zz),(164,dP D_zd),(167,dP D_zm),(168,dP D_zhe),(169,dP D_zod),(61,dP D_zzc)]):=ya yzs.e <| ya yyl.e <| ya yt6.e <| ya ym4.e <| ya yx1.e <| ya y1u.e <| ye _
theorem dn:type_of% (And.intro @D_zz.eq_1 <| And.intro @D_zd.eq_1 <| And.intro @D_zm.eq_1 <| And.intro @D_zhe.eq_1 <| And.intro @D_zod.eq_1 <| @D_zzc.eq_1):=by and_intros<;>intros<;>rfl
theorem gr {p:Prop} (h:p:=by(grind [yhf,y8x]);first|done|fail):p:=h
theorem o0 {p:Prop} (h:p:=by(first|(and_intros<;>first|omega|(intros;omega)|(intros;and_intros<;>first|omega|(show List.length _<_;simp only;omega))|(refine⟨?_,?_,?_⟩<;>(simp only;omega))));first|done|fail):p:=h
set_option maxHeartbeats 1000000 in
set_option maxRecDepth 20000 in
theorem den (a0:(List UInt8)) (hb0:a0.length<1099511627776) (hp0:a0.length<=1048576):Den Tryz.prog 84 [.str a0] (.tup [.agg (ymb ((zad a0).1)),.bool ((zad a0).2)]):=by
 generalize hR:zad a0=r;unfold zad at hR;refine di Tryz.func84 Tryz.ntmps84 Tryz.results84 ?_;intro c hL hc hk;obtain⟨hL0,_⟩:=hL;have hw0:a0.length<9223372036854775808:=Nat.lt_succ_of_le hL0;clear hL0;simp only[pars,Nat.zero_add];have c1:=yhf a0 [32];have c2:=yhf (zd a0 [32]).2.1 [32];have c3:=y8x (zd (zd a0 [32]).2.1 [32]).2.1 [115];have hrh:=yns (zd a0 [32]).1 (by omega);obtain⟨hr1,hr2,hr3⟩:=hrh;iterate 6 refine rS ?_
 refine AWP.cond rfl (fun hb => ?_) (fun hb => ?_)
 ·replace hR:=ct hR
  iterate 4 refine rS ?_
  refine AWP.cond rfl (fun hb => ?_) (fun hb => ?_)
  ·replace hR:=ct hR
   refine rS ?_;refine AWP.ret ?_;subst hR;exact es
  ·replace hR:=cf hR
   refine rS ?_;refine AWP.ret ?_;subst hR;exact es
 ·replace hR:=cf hR
  refine rS ?_;refine AWP.cond rfl (fun hb => ?_) (fun hb => ?_)
  ·replace hR:=ct hR
   refine rS ?_;refine AWP.ret ?_;subst hR;exact es
  ·replace hR:=cf hR
   refine rS ?_;refine AWP.ret ?_;subst hR;exact es
end N84
def D_zad : DF
 | [x0]=>some (.tup [.agg (ymb ((zad (rdS x0)).1)),.bool ((zad (rdS x0)).2)],false,[wS x0,(rdS x0).length<1099511627776,(rdS x0).length<=1048576])
 | _=>none
theorem yi4:OkD Tryz.prog 84 D_zad:=by unfold D_zad;exact dk N84.den
theorem yp9 (a b:List UInt8):zod a b=Lib.trimSuffix a b:=rfl
theorem y4q (s:List UInt8) (h:zhc s=true):(32:UInt8)∉s:=by
 intro hm;obtain⟨i,hi,he⟩:=List.getElem_of_mem hm;unfold zhc at h
 cases hl:yd (y4h s) (s.length-0) 0 ()with
 | error e=>
  rw[hl]at h;obtain⟨j,t,_,_,h3⟩:=y1e hl;unfold y4h at h3;simp only[Bool.cond_eq_ite]at h3;split at h3
  ·cases h3;simp at h
  ·cases h3
 | ok u=>
  have hk:=yeg (fun k (_:Unit)=>∀ j,j<k->zze ((s.getD j 0).toNat:Int)≠0) hl (by intro j hj;omega) (fun j u v _ _ hI hv=>by
   unfold y4h at hv;simp only[Bool.cond_eq_ite]at hv;split at hv
   ·cases hv
   ·rename_i hn
    simp only[Bool.or_eq_true,beq_iff_eq,not_or]at hn;intro q hq;by_cases hqj:q=j
    ·subst hqj;exact hn.1
    ·exact hI q (by omega))
  have:=hk i (by omega);rw[List.getD_eq_getElem?_getD,List.getElem?_eq_getElem hi,Option.getD_some,he]at this;exact this rfl
theorem ygt (c:Character) (h:zgb c=true):(32:UInt8)∉yde c:=by
 have hk:=y2d c h;obtain⟨g1,g2⟩:=y8d c h;have h32:=(y36 c.Kind hk).2;unfold yde;by_cases h8:c.Kind=8
 ·rw[if_pos h8]
  obtain⟨_,f2,f3,f4⟩:=yom c h h8;obtain⟨x,hx⟩:=List.length_eq_one_iff.1 f2;rw[hx]at f3 f4 ⊢;simp only[List.getD_cons_zero]at f3 f4;intro hm;simp only[List.mem_append,List.mem_cons,List.not_mem_nil,or_false]at hm;rcases hm with hm|hm|hm|hm
  ·exact absurd hm (by decide)
  ·exact absurd hm (by decide)
  ·subst hm;exact absurd f3 (by decide)
  ·exact absurd hm (by decide)
 ·rw[if_neg h8]
  intro hm;rcases List.mem_append.1 hm with hm|hm
  ·exact h32 hm
  ·rcases List.mem_append.1 hm with hm|hm
   ·unfold grpT at hm
    split at hm
    ·simp at hm
    ·rcases List.mem_cons.1 hm with hm|hm
     ·exact absurd hm (by decide)
     ·rcases List.mem_append.1 hm with hm|hm
      ·refine yk6 32 (by decide) (c.Group.map Lib.itoa) (fun y hy => ?_) hm
       obtain⟨z,hz,rfl⟩:=List.mem_map.1 hy;exact ywe (by have:=g2 z hz;omega) 32 (by decide)
      ·rw[List.mem_singleton]at hm;exact absurd hm (by decide)
   ·split at hm
    ·simp at hm
    ·exact absurd hm (by decide)
theorem yij (c:Character) (h:zz c=true) (hl:c.Colors.length<9223372036854775808):zhc c.Colors=true:=by
 unfold zz at h;rw[ymp _ hl]at h
 cases hc:zhc c.Colors with
 | true=>rfl
 | false=>rw[hc]at h;simp at h
theorem y2y (c:Character) (h:zz c=true) (hl:c.Colors.length<9223372036854775808):zad (chrT c)=(c,true):=by
 have hf:=y9b c h;have hr:=yiz c hf;have hp:=yrd c h;have hp2:=(yad c h).2.2;have hcol:=y4q _ (yij c h hl)
 have c1:zd (chrT c) [32]=(yde c,c.Colors++perT c.Period,true):=by
  rw[y5s];unfold chrT;rw[ynf _ _ 32 (ygt c hf)]
 have htext:=y2l c h;unfold zad;rw[c1];simp only;by_cases h0:c.Period=0
 ·have c2:zd (c.Colors++perT c.Period) [32]=(c.Colors,[],false):=by
   rw[h0,show perT 0=[]from rfl,List.append_nil,y5s,ydk _ 32 hcol]
  rw[c2,hr];simp only[cond_false];have ec:({ Kind:=c.Kind,Group:=c.Group,Letter:=c.Letter,Colors:=c.Colors,Period:=0:Character })=c:=by rw[<- h0]
  simp only[ec,h,htext];simp
 ·have e2:perT c.Period=32::(secT c.Period++[115]):=by unfold perT;rw[if_neg h0]
  have c2:zd (c.Colors++perT c.Period) [32]=(c.Colors,secT c.Period++[115],true):=by
   rw[e2,y5s,ynf _ _ 32 hcol]
  have c3:zod (secT c.Period++[115]) [115]=secT c.Period:=by rw[yp9,ybc]
  rw[c2,hr];simp only[cond_true];rw[c3,ywo _ (by omega) hp2];have ec:({ Kind:=c.Kind,Group:=c.Group,Letter:=c.Letter,Colors:=c.Colors,Period:=c.Period:Character })=c:=rfl;simp only[ec,h,htext];simp
theorem yuh (a:List UInt8):zad a=({ Kind:=0,Group:=[],Letter:=[],Colors:=[],Period:=0:Character },false)\/∃ c,zz c=true/\zzc c=a/\zad a=(c,true):=by
 unfold zad
 cases(zd ((zd a [32]).2.1) [32]).2.2 with
 | true=>
  simp only[cond_true];generalize hc:({ Kind:=((zm ((zd a [32]).1)).1).Kind,Group:=((zm ((zd a [32]).1)).1).Group,Letter:=((zm ((zd a [32]).1)).1).Letter,Colors:=(zd ((zd a [32]).2.1) [32]).1,Period:=(zhe (zod ((zd ((zd a [32]).2.1) [32]).2.1) [115])).1:Character })=c
  cases hv:zz c with
  | false=>left;simp
  | true=>
   by_cases ht:zzc c=a
   ·cases hq:((zm ((zd a [32]).1)).2 && (zhe (zod ((zd ((zd a [32]).2.1) [32]).2.1) [115])).2)with
    | true=>right;exact⟨c,hv,ht,by simp[ht]⟩
    | false=>left;simp
   ·left
    have:(zzc c != a)=true:=by simpa using ht
    rw[this];simp
 | false=>
  simp only[cond_false];generalize hc:({ Kind:=((zm ((zd a [32]).1)).1).Kind,Group:=((zm ((zd a [32]).1)).1).Group,Letter:=((zm ((zd a [32]).1)).1).Letter,Colors:=(zd ((zd a [32]).2.1) [32]).1,Period:=((zm ((zd a [32]).1)).1).Period:Character })=c
  cases hv:zz c with
  | false=>left;simp
  | true=>
   by_cases ht:zzc c=a
   ·cases hq:(zm ((zd a [32]).1)).2 with
    | true=>right;exact⟨c,hv,ht,by simp[ht]⟩
    | false=>left;simp
   ·left
    have:(zzc c != a)=true:=by simpa using ht
    rw[this];simp
def parB (s:List UInt8×List UInt8×Int):Except (Sum (Character×Bool) (List UInt8×List UInt8×Int)) (List UInt8×List UInt8×Int):=
 (bif decide (s.2.2<(s.1.length:Int))then(bif ((((s.1.getD ((s.2.2).toNat) 0).toNat:Int) == 40) && (((s.1.getD ((IntKind.wrap .i64 ((s.1.length:Int)-1)).toNat) 0).toNat:Int) == 41))then .error (.inr (s.1.take ((s.2.2).toNat),(s.1.take ((IntKind.wrap .i64 ((s.1.length:Int)-1)).toNat)).drop ((IntKind.wrap .i64 (s.2.2+1)).toNat),s.2.2))else .ok (s.1,s.2.1,IntKind.wrap .i64 (s.2.2+1)))else .error (.inr (s.1,s.2.1,s.2.2)))
theorem ykh (p X:List UInt8) (h40:(40:UInt8)∉p) (hl:(p++40::(X++[41])).length<=1048576):∀ (k i n:Nat),i+k=p.length->k<n ->
  y5 parB n (p++40::(X++[41]),[],(i:Int))=.error (.inr (p,X,(p.length:Int)))
 | k,i,0,_,h=>by omega
 | 0,i,n+1,h,_=>by
  have hi:i=p.length:=by omega
  subst hi;simp only[List.length_append,List.length_cons,List.length_nil]at hl;have d1:decide (((p.length:Nat):Int)<((p++40::(X++[41])).length:Int))=true:=decide_eq_true (by simp only[List.length_append,List.length_cons,List.length_nil];omega)
  have w1:IntKind.wrap .i64 (((p++40::(X++[41])).length:Int)-1)=((p.length+1+X.length:Nat):Int):=by
   simp only[List.length_append,List.length_cons,List.length_nil];rw[IntKind.wrap_i64];omega
  have w2:IntKind.wrap .i64 ((p.length:Int)+1)=((p.length+1:Nat):Int):=by rw[IntKind.wrap_i64];omega
  have g1:(p++40::(X++[41])).getD p.length 0=40:=by
   rw[List.getD_eq_getElem?_getD,List.getElem?_append_right (Nat.le_refl _)];simp
  have g2:(p++40::(X++[41])).getD (p.length+1+X.length) 0=41:=by
   rw[List.getD_eq_getElem?_getD,List.getElem?_append_right (by omega),show p.length+1+X.length-p.length=X.length+1 by omega,List.getElem?_cons_succ,List.getElem?_append_right (Nat.le_refl _)];simp
  simp only[y5,parB];rw[d1,w1,w2,Int.toNat_natCast,Int.toNat_natCast,Int.toNat_natCast,g1,g2];have t1:(p++40::(X++[41])).take p.length=p:=List.take_left' rfl
  have t2:((p++40::(X++[41])).take (p.length+1+X.length)).drop (p.length+1)=X:=by
   have:p++40::(X++[41])=(p++[40])++(X++[41]):=by simp
   rw[this,List.take_append,List.drop_append];simp
  rw[t1,t2];rfl
 | k+1,i,n+1,h,hn=>by
  simp only[List.length_append,List.length_cons,List.length_nil]at hl;have d1:decide ((i:Int)<((p++40::(X++[41])).length:Int))=true:=decide_eq_true (by simp only[List.length_append,List.length_cons,List.length_nil];omega);have w2:IntKind.wrap .i64 ((i:Int)+1)=((i+1:Nat):Int):=by rw[IntKind.wrap_i64];omega
  have hi:i<p.length:=by omega
  have g1:(((((p++40::(X++[41])).getD i 0).toNat:Int)) == 40)=false:=by
   rw[List.getD_eq_getElem?_getD,List.getElem?_append_left hi,List.getElem?_eq_getElem hi,Option.getD_some,beq_eq_false_iff_ne];intro he;have:p[i]=40:=UInt8.toNat_inj.1 (by show _=40;omega);exact h40 (this ▸ List.getElem_mem hi)
  have:=ykh p X h40 (by simp only[List.length_append,List.length_cons,List.length_nil];exact hl) k (i+1) n (by omega) (by omega);simp only[y5,parB];rw[d1,Int.toNat_natCast,g1,w2];simp only[Bool.false_and,cond_true,cond_false];exact this
theorem y1v (p:List UInt8) (h40:(40:UInt8)∉p) (hl:p.length<=1048576):∀ (k i n:Nat),i+k=p.length->k<n ->
  y5 parB n (p,[],(i:Int))=.error (.inr (p,[],(p.length:Int)))
 | k,i,0,_,h=>by omega
 | 0,i,n+1,h,_=>by
  have hi:i=p.length:=by omega
  subst hi;simp only[y5,parB];rw[decide_eq_false (by omega)];rfl
 | k+1,i,n+1,h,hn=>by
  have hi:i<p.length:=by omega
  have d1:decide ((i:Int)<(p.length:Int))=true:=decide_eq_true (by omega);have w2:IntKind.wrap .i64 ((i:Int)+1)=((i+1:Nat):Int):=by rw[IntKind.wrap_i64];omega
  have g1:((((p.getD i 0).toNat:Int)) == 40)=false:=by
   rw[List.getD_eq_getElem?_getD,List.getElem?_eq_getElem hi,Option.getD_some,beq_eq_false_iff_ne];intro he;have:p[i]=40:=UInt8.toNat_inj.1 (by show _=40;omega);exact h40 (this ▸ List.getElem_mem hi)
  have:=y1v p h40 hl k (i+1) n (by omega) (by omega);simp only[y5,parB];rw[d1,Int.toNat_natCast,g1,w2];simp only[Bool.false_and,cond_true,cond_false];exact this
theorem y8n (k:Int) (hk:1<=k/\k<=8) (b:Nat->Int->Except (Character×Bool) Int) (hb:∀ i s,b i s=(bif (((zn ).getD i default) == kt k)then .ok (i:Int)else .ok s)) :
  yd b (((zn ).length)-1) 1 0=.ok k:=by
 have e:b=fun i s=>(bif (((zn ).getD i default) == kt k)then .ok (i:Int)else .ok s):=funext fun i=>funext fun s=>hb i s
 rw[e];rcases(show k=1\/k=2\/k=3\/k=4\/k=5\/k=6\/k=7\/k=8 by omega)with h|h|h|h|h|h|h|h<;>subst h<;>rfl
theorem y27 {ρ : Type} (g : List Int) (h2 : ∀ v ∈ g, 1 <= v /\ v <= 9) (r : Nat -> List Int -> ρ) (b : Nat -> List Int -> Except ρ (List Int))
  (hb:∀ i s,b i s=(bif (!(zf ((g.map Lib.itoa).getD i default)).2)then .error (r i s)else .ok (s++([(zf ((g.map Lib.itoa).getD i default)).1]:List Int)))) :
  yd b ((g.map Lib.itoa).length-0) 0 []=.ok g:=by
 refine yc6 g h2 r b (fun i s => ?_);rw[hb]
 have e:zf ((g.map Lib.itoa).getD i default)=zk ((g.map Lib.itoa).getD i default):=by
  have hlen:((g.map Lib.itoa).getD i default).length<=1048576:=by
   rw[List.getD_eq_getElem?_getD,List.getElem?_map]
   cases hg:g[i]? with
   | none=>show(0:Nat)<=_;omega
   | some x=>
    have:=h2 x (List.mem_of_getElem? hg);have:=y0c x (by omega) (by omega);simp only[Option.map_some,Option.getD_some];omega
  exact(ykq _ hlen).symm
 rw[e]
def y7k (a0:(List UInt8)) (s1:Int):Except (Sum ((Int×Bool)) (Int)) (Int):=
 (bif decide (s1<=600)then(bif ((zzb s1) == a0)then .error (.inl (s1,true))else .ok (IntKind.wrap .i64 (s1+1)))else .error (.inr s1))
def zlc (a0:(List UInt8)):(Int×Bool):=
 (match y5 (y7k a0) (((601-(1:Int)).toNat)+1) 1 with|.error (.inl e)=>e|.error (.inr s1)=>(0,false)|.ok _=>default)
namespace N250
theorem DD:DOk Tryz.prog (Go.Ab.DD [(207,dP D_zzb)]):=ya yko.e <| ye _
theorem dn:type_of% (@D_zzb.eq_1):=by and_intros<;>intros<;>rfl
theorem den (a0:(List UInt8)) (hb0:a0.length<1099511627776):Den Tryz.prog 250 [.str a0] (.tup [.int .i64 ((zlc a0).1),.bool ((zlc a0).2)]):=by
 generalize hR:zlc a0=r;unfold zlc at hR;refine di Tryz.func250 Tryz.ntmps250 Tryz.results250 ?_;intro c hL hc hk;obtain⟨hL0,_⟩:=hL;have hw0:a0.length<9223372036854775808:=Nat.lt_succ_of_le hL0;clear hL0;simp only[pars,Nat.zero_add];iterate 2 refine rS ?_
 refine AWP.block ?_;generalize hz1:y5 (y7k a0) (((601-(1:Int)).toNat)+1) 1=z1 at hR;refine AWP.whileW (y7k a0) (fun s1=>⟨[(0,.str a0),(4,.int .i64 s1)],[]⟩) (fun s1=>1<=s1/\s1<=601) (fun s1=>(601-s1).toNat) (((601-(1:Int)).toNat)+1) 1 [] hz1 m0 wt sm ?_;clear hz1;intro s1 k1 hW1 hm1 hz1;simp only[y7k]at hz1;refine rS ?_;refine AWP.cond rfl (fun hb => ?_) (fun hb => ?_)
 ·simp only[hb,cond_true]at hz1
  refine rS ?_;refine AWP.cond rfl (fun hb => ?_) (fun hb => ?_)
  ·simp only[hb,cond_true]at hz1
   refine rS ?_;refine AWP.ret ?_;subst hz1;dsimp only at hR;subst hR;exact es
  ·simp only[hb,cond_false]at hz1
   refine rS ?_;exact⟨_,[],ms,wt,hz1,sm⟩
 ·simp only[hb,cond_false]at hz1
  refine AWP.exit ?_;refine yb ?_;subst hz1;dsimp only at hR;refine rS ?_;refine AWP.ret ?_;subst hR;exact es
end N250
def D_zlc : DF
 | [x0]=>some (.tup [.int .i64 ((zlc (rdS x0)).1),.bool ((zlc (rdS x0)).2)],false,[wS x0,(rdS x0).length<1099511627776])
 | _=>none
theorem yn4:OkD Tryz.prog 250 D_zlc:=by unfold D_zlc;exact dk N250.den
theorem yms (b : Nat -> List Int -> Except (Character × Bool) (List Int)) (f : List Int -> Character × Bool) (hb : ∀ i s, s.length <= 1048577 -> (∃ x, b i s = .ok (s ++ [x])) \/ ∃ e, b i s = .error e /\ CBd e)
  (hf:∀ s,s.length<=1048577->CBd (f s)):∀ (k i:Nat) (s:List Int),s.length<=i->i+k<=1048577->CBd (match yd b k i s with|.error e=>e|.ok s=>f s)
 | 0,i,s,hs,hk=>by simp only[yd];exact hf s (by omega)
 | k+1,i,s,hs,hk=>by
  simp only[yd];rcases hb i s (by omega)with⟨x,hx⟩|⟨e,he,hc⟩
  ·rw[hx]
   exact yms b f hb hf k (i+1) (s++[x]) (by simp only[List.length_append,List.length_singleton];omega) (by omega)
  ·rw[he];exact hc
theorem yaw (b:Nat->Int->Except (Character×Bool) Int) (hb:∀ i s,∃ t,b i s=.ok t) (f:Int->Character×Bool) (hf:∀ k,CBd (f k)) (n i:Nat) (s:Int):CBd (match yd b n i s with|.error e=>e|.ok s=>f s):=by
 cases h:yd b n i s with
 | error e=>
  obtain⟨j,t,_,_,h3⟩:=y1e h;obtain⟨u,hu⟩:=hb j t;rw[hu]at h3;cases h3
 | ok t=>exact hf t
theorem ytw (a:List UInt8) (ha:a.length<=1048576):CBd (zh a):=by
  have hdef:CBd (default:Character×Bool):=⟨by show(0:Nat)<=_;omega,by show(0:Nat)<=_;omega,by show(0:Nat)<=_;omega⟩
  have hw:∀ (b:List UInt8×List UInt8×Int->Except (Sum (Character×Bool) (List UInt8×List UInt8×Int)) (List UInt8×List UInt8×Int)) (n:Nat) (s:List UInt8×List UInt8×Int) (f:List UInt8×List UInt8×Int->Character×Bool),
      (∀ s,s.1.length<=1048576/\s.2.1.length<=1048576->match b s with|.error (.inl e)=>False|.error (.inr t)=>t.2.1.length<=1048576|.ok t=>t.1.length<=1048576/\t.2.1.length<=1048576)->(s.1.length<=1048576/\s.2.1.length<=1048576)->(∀ s,s.2.1.length<=1048576->CBd (f s)) ->
      CBd (match y5 b n s with|.error (.inl e)=>e|.error (.inr s)=>f s|.ok _=>default):=by
    intro b n s f hb hs hf
    have h:=yqk (body:=b) (I:=fun s=>s.1.length<=1048576/\s.2.1.length<=1048576) (Q:=fun r=>match r with|.inl e=>False|.inr t=>t.2.1.length<=1048576) (fun s hI=>by
      have:=hb s hI
      cases hbs:b s with
      | error r => rw [hbs] at this; cases r with
        | inl e=>exact this
        | inr t=>exact this
      | ok t=>rw[hbs]at this;exact this) n s hs
    cases hl:y5 b n s with
    | error r=>
      rw[hl]at h
      cases r with
      | inl e=>exact h.elim
      | inr t=>exact hf t h
    | ok t=>exact hdef
  have hpar:∀ s:List UInt8×List UInt8×Int,s.1.length<=1048576/\s.2.1.length<=1048576->match y2t a s with|.error (.inl e)=>False|.error (.inr t)=>t.2.1.length<=1048576|.ok t=>t.1.length<=1048576/\t.2.1.length<=1048576:=by
    intro s hs;unfold y2t
    cases decide (s.2.2<(s.1.length:Int))with
    | false=>exact hs.2
    | true=>
      simp only[cond_true]
      cases((((s.1.getD ((s.2.2).toNat) 0).toNat:Int) == 40) && (((s.1.getD ((IntKind.wrap .i64 ((s.1.length:Int)-1)).toNat) 0).toNat:Int) == 41))with
      | true=>simp only[cond_true,List.length_drop,List.length_take];omega
      | false=>exact hs
  have hsp:∀ s:List UInt8,s.length<=1048576->(za s 43).length<=1048577:=fun s h=>y3 s h
  unfold zh
  cases(decide (4<(a.length:Int)) && (((a.take a.length).drop ((IntKind.wrap .i64 ((a.length:Int)-4)).toNat)) == [43,76,70,108]))with
  | true=>
    simp only[cond_true];refine hw _ _ _ _ hpar ⟨by simp only[List.length_take];omega,by simp⟩ (fun s hs => ?_);refine yaw _ (fun i t => ?_) _ (fun k => ?_) _ _ _
    . unfold y0n
      cases(((zn ).getD i default) == s.1)with
      | true=>exact⟨_,rfl⟩
      | false=>exact⟨_,rfl⟩
    . cases(k == 8)with
      | true=>exact⟨by simp,by simp only[cond_true,List.length_append,List.length_singleton];omega,by simp⟩
      | false=>
        simp only[cond_false]
        cases(s.2.1 == [])with
        | true=>exact⟨by simp,by simp,by simp⟩
        | false=>
          simp only[cond_false];refine yms _ (fun t=>({ Kind:=k,Group:=t,Letter:=[76],Colors:=[],Period:=0:Character },_)) (fun i t ht => ?_) (fun t ht=>⟨ht,by simp,by simp⟩) _ 0 [] (by simp) (by have:=hsp _ hs;omega);unfold ykm
          cases(!((zf ((za s.2.1 43).getD i default)).2))with
          | true=>exact .inr ⟨_,rfl,ht,by simp,by simp⟩
          | false=>exact .inl ⟨_,rfl⟩
  | false=>
    simp only[cond_false];refine hw _ _ _ _ hpar ⟨by simp only;omega,by simp⟩ (fun s hs => ?_);refine yaw _ (fun i t => ?_) _ (fun k => ?_) _ _ _
    . unfold ygk
      cases(((zn ).getD i default) == s.1)with
      | true=>exact⟨_,rfl⟩
      | false=>exact⟨_,rfl⟩
    . cases(k == 8)with
      | true=>exact⟨by simp,by simp only[cond_true,List.length_append,List.length_nil];omega,by simp⟩
      | false=>
        simp only[cond_false]
        cases(s.2.1 == [])with
        | true=>exact⟨by simp,by simp,by simp⟩
        | false=>
          simp only[cond_false];refine yms _ (fun t=>({ Kind:=k,Group:=t,Letter:=[],Colors:=[],Period:=0:Character },_)) (fun i t ht => ?_) (fun t ht=>⟨ht,by simp,by simp⟩) _ 0 [] (by simp) (by have:=hsp _ hs;omega);unfold yfm
          cases(!((zf ((za s.2.1 43).getD i default)).2))with
          | true=>exact .inr ⟨_,rfl,ht,by simp,by simp⟩
          | false=>exact .inl ⟨_,rfl⟩
theorem yqt (a:List UInt8) (h:a.length<=1048576) (i:Nat):((za a 32).getD i default).length<=1048576:=by
 rw[show za a 32=yf 32 a from yzj a 32 (by omega),List.getD_eq_getElem?_getD]
 cases hg:(yf 32 a)[i]? with
 | none=>show(0:Nat)<=1048576;omega
 | some x=>have:=(yu 32 a).2 x (List.mem_of_getElem? hg);simp only[Option.getD_some];omega
theorem y58 (a:List UInt8) (h:a.length<=1048576) (k p:Int):bdCharacter { Kind:=k,Group:=(zh ((za a 32).getD 0 default)).1.Group,Letter:=(zh ((za a 32).getD 0 default)).1.Letter,Colors:=(za a 32).getD 1 default,Period:=p }:=by
 obtain⟨h1,h2,_⟩:=ytw _ (yqt a h 0);have h3:=yqt a h 1;exact⟨by show List.length _<_;simp only;omega,by show List.length _<_;simp only;omega,by show List.length _<_;simp only;omega⟩
def zgd (a0:(List UInt8)):(Character×Bool):=
 (bif ((((za a0 32).length:Int) != 2) && (((za a0 32).length:Int) != 3))then({ Kind:=0,Group:=[],Letter:=[],Colors:=[],Period:=0:Character },false)else(bif (((za a0 32).length:Int) == 3)then(bif (((!((zh ((za a0 32).getD 0 default)).2 && (zlc ((za a0 32).getD 2 default)).2)) || (!(zsb ({ Kind:=((zh ((za a0 32).getD 0 default)).1).Kind,Group:=((zh ((za a0 32).getD 0 default)).1).Group,Letter:=((zh ((za a0 32).getD 0 default)).1).Letter,Colors:=((za a0 32).getD 1 default),Period:=(zlc ((za a0 32).getD 2 default)).1:Character })))) || ((zib ({ Kind:=((zh ((za a0 32).getD 0 default)).1).Kind,Group:=((zh ((za a0 32).getD 0 default)).1).Group,Letter:=((zh ((za a0 32).getD 0 default)).1).Letter,Colors:=((za a0 32).getD 1 default),Period:=(zlc ((za a0 32).getD 2 default)).1:Character })) != a0))then({ Kind:=0,Group:=[],Letter:=[],Colors:=[],Period:=0:Character },false)else({ Kind:=((zh ((za a0 32).getD 0 default)).1).Kind,Group:=((zh ((za a0 32).getD 0 default)).1).Group,Letter:=((zh ((za a0 32).getD 0 default)).1).Letter,Colors:=((za a0 32).getD 1 default),Period:=(zlc ((za a0 32).getD 2 default)).1:Character },true))else(bif (((!((zh ((za a0 32).getD 0 default)).2)) || (!(zsb ({ Kind:=((zh ((za a0 32).getD 0 default)).1).Kind,Group:=((zh ((za a0 32).getD 0 default)).1).Group,Letter:=((zh ((za a0 32).getD 0 default)).1).Letter,Colors:=((za a0 32).getD 1 default),Period:=((zh ((za a0 32).getD 0 default)).1).Period:Character })))) || ((zib ({ Kind:=((zh ((za a0 32).getD 0 default)).1).Kind,Group:=((zh ((za a0 32).getD 0 default)).1).Group,Letter:=((zh ((za a0 32).getD 0 default)).1).Letter,Colors:=((za a0 32).getD 1 default),Period:=((zh ((za a0 32).getD 0 default)).1).Period:Character })) != a0))then({ Kind:=0,Group:=[],Letter:=[],Colors:=[],Period:=0:Character },false)else({ Kind:=((zh ((za a0 32).getD 0 default)).1).Kind,Group:=((zh ((za a0 32).getD 0 default)).1).Group,Letter:=((zh ((za a0 32).getD 0 default)).1).Letter,Colors:=((za a0 32).getD 1 default),Period:=((zh ((za a0 32).getD 0 default)).1).Period:Character },true))))
namespace N177
theorem DD:DOk Tryz.prog (Go.Ab.DD [(122,dP D_zsb),(126,dP D_zib),(249,dP D_zh),(250,dP D_zlc),(90,dP D_za)]):=ya y0v.e <| ya yy3.e <| ya yn7.e <| ya yn4.e <| ya yeh.e <| ye _
theorem dn:type_of% (And.intro @D_zsb.eq_1 <| And.intro @D_zib.eq_1 <| And.intro @D_zh.eq_1 <| And.intro @D_zlc.eq_1 <| @D_za.eq_1):=by and_intros<;>intros<;>rfl
theorem gr {p:Prop} (h:p:=by(grind [y3,y4b]);first|done|fail):p:=h
theorem o0 {p:Prop} (h:p:=by(first|(have hl9:2<=(za a0 32).length:=by(have q := ‹((((za a0 32).length:Int) != 2) && (((za a0 32).length:Int) != 3))=false›;simp at q;omega);have e0:=hel 0;have e1:=hel 1;have e2:=hel 2;and_intros<;>first|omega|(have hb3:=hb;simp at hb3;omega))|(refine⟨fun _=>⟨Nat.le_refl _,hcb _ _⟩,fun q => ?_⟩;have q2:=q;simp only[Bool.not_eq_true',Bool.or_eq_false_iff,Bool.not_eq_false']at q2;have r:=y1z _ (Nat.lt_of_le_of_lt (hel 1) (by omega)) q2.2;exact⟨Nat.le_refl _,hcb _ _,r.1,r.2.1,r.2.2.1,r.2.2.2.1,r.2.2.2.2.1,r.2.2.2.2.2⟩)|(have hl9:2<=(za a0 32).length:=by(have q := ‹((((za a0 32).length:Int) != 2) && (((za a0 32).length:Int) != 3))=false›;simp at q;omega);have e0:=hel 0;have e1:=hel 1;omega));first|done|fail):p:=h
set_option maxHeartbeats 1000000 in
set_option maxRecDepth 20000 in
theorem den (a0:(List UInt8)) (hb0:a0.length<1099511627776) (hp0:a0.length<=1048576):Den Tryz.prog 177 [.str a0] (.tup [.agg (ymb ((zgd a0).1)),.bool ((zgd a0).2)]):=by
 generalize hR:zgd a0=r;unfold zgd at hR;refine di Tryz.func177 Tryz.ntmps177 Tryz.results177 ?_;intro c hL hc hk;obtain⟨hL0,_⟩:=hL;have hw0:a0.length<9223372036854775808:=Nat.lt_succ_of_le hL0;clear hL0;simp only[pars,Nat.zero_add];have hel:=yqt a0 hp0;have hcb:=y58 a0 hp0;iterate 3 refine rS ?_
 refine AWP.cond rfl (fun hb => ?_) (fun hb => ?_)
 ·replace hR:=ct hR
  refine rS ?_;refine AWP.ret ?_;subst hR;exact es
 ·replace hR:=cf hR
  iterate 3 refine rS ?_
  refine AWP.cond rfl (fun hb => ?_) (fun hb => ?_)
  ·replace hR:=ct hR
   iterate 4 refine rS ?_
   refine AWP.cond rfl (fun hb => ?_) (fun hb => ?_)
   ·replace hR:=ct hR
    refine rS ?_;refine AWP.ret ?_;subst hR;exact es
   ·replace hR:=cf hR
    refine rS ?_;refine AWP.ret ?_;subst hR;exact es
  ·replace hR:=cf hR
   refine rS ?_;refine AWP.cond rfl (fun hb => ?_) (fun hb => ?_)
   ·replace hR:=ct hR
    refine rS ?_;refine AWP.ret ?_;subst hR;exact es
   ·replace hR:=cf hR
    refine rS ?_;refine AWP.ret ?_;subst hR;exact es
end N177
def D_zgd : DF
 | [x0]=>some (.tup [.agg (ymb ((zgd (rdS x0)).1)),.bool ((zgd (rdS x0)).2)],false,[wS x0,(rdS x0).length<1099511627776,(rdS x0).length<=1048576])
 | _=>none
theorem yh1:OkD Tryz.prog 177 D_zgd:=by unfold D_zgd;exact dk N177.den
theorem yk9 (a:List UInt8):y2t a=parB:=rfl
theorem y46 (a:List UInt8):y2x a=parB:=rfl
def lfl (a:List UInt8):Bool:=(decide (4<(a.length:Int)) && (((a.take a.length).drop ((IntKind.wrap .i64 ((a.length:Int)-4)).toNat)) == [43,76,70,108]))
theorem y4o (a:List UInt8):(decide (4<(a.length:Int)) && (((a.take a.length).drop ((IntKind.wrap .i64 ((a.length:Int)-4)).toNat)) == [43,76,70,108]))=lfl a:=rfl
theorem yb7 (X:List UInt8) (hX:X≠[]) (hl:X.length<=1048576):lfl (X++[43,76,70,108])=true/\(X++[43,76,70,108]).take ((IntKind.wrap .i64 (((X++[43,76,70,108]).length:Int)-4)).toNat)=X:=by
 have hp:0<X.length:=List.length_pos_iff.2 hX
 have hw:(IntKind.wrap .i64 (((X++[43,76,70,108]).length:Int)-4)).toNat=X.length:=by
  simp only[List.length_append,List.length_cons,List.length_nil];rw[IntKind.wrap_i64];omega
 unfold lfl;rw[hw,List.take_length,List.drop_left' rfl,List.take_left' rfl];refine⟨?_,rfl⟩;rw[decide_eq_true (by simp only[List.length_append,List.length_cons,List.length_nil];omega)];rfl
theorem y64 (X:List UInt8) (hl:X.length<=1048576):lfl (X++[41])=false:=by
 unfold lfl;by_cases h4:4<(((X++[41]).length:Int))
 ·rw[decide_eq_true h4,List.take_length,Bool.true_and,beq_eq_false_iff_ne]
  intro h
  have h2:(X++[41])=((X++[41]).take ((IntKind.wrap .i64 (((X++[41]).length:Int)-4)).toNat)++[43,76,70])++[108]:=by
   conv=>lhs;rw[<- List.take_append_drop ((IntKind.wrap .i64 (((X++[41]).length:Int)-4)).toNat) (X++[41]),h]
   simp
  have:=congrArg List.getLast? h2;rw[List.getLast?_append,List.getLast?_append]at this;simp at this
 ·rw[decide_eq_false h4];rfl
theorem ye9 (k:Int) (h:1<=k/\k<=8):lfl (kt k)=false:=by
 rcases(show k=1\/k=2\/k=3\/k=4\/k=5\/k=6\/k=7\/k=8 by omega)with h|h|h|h|h|h|h|h<;>subst h<;>rfl
theorem y35 (k:Int) (h:1<=k/\k<=8):(kt k).length<=3/\kt k≠[]:=by
 rcases(show k=1\/k=2\/k=3\/k=4\/k=5\/k=6\/k=7\/k=8 by omega)with h|h|h|h|h|h|h|h<;>subst h<;>exact⟨by decide,by decide⟩
theorem yir (g:List Int) (h1:g.length<=4) (h2:∀ v∈g,1<=v/\v<=9):(Lib.join (g.map Lib.itoa) [43]).length<=100:=by
 have:=ysh [43] (g.map Lib.itoa) 20 (fun x hx=>by
  obtain⟨z,hz,rfl⟩:=List.mem_map.1 hx;have:=h2 z hz
  exact y0c z (by omega) (by omega))
 simp only[List.length_map,List.length_singleton]at this;omega
theorem y8z (c:Character) (h:zgb c=true):(yde c).length<=200:=by
 have hk:=y2d c h;obtain⟨g1,g2⟩:=y8d c h;have:=(y35 c.Kind hk).1;have hj:=yir _ g1 g2;unfold yde;by_cases h8:c.Kind=8
 ·rw[if_pos h8]
  have:=(yom c h h8).2.1;have:(kt 8).length=2:=rfl;simp only[List.length_append,List.length_cons,List.length_nil];omega
 ·rw[if_neg h8]
  have hg:(grpT c.Group).length<=102:=by
   unfold grpT;split
   ·simp
   ·simp only[List.length_append,List.length_cons,List.length_nil];omega
  have hL:(if c.Letter=[]then([]:List UInt8)else[43,76,70,108]).length<=4:=by split<;>simp
  rw[List.length_append,List.length_append];omega
theorem y4z (c:Character) (h:zgb c=true):zh (yde c)=({ Kind:=c.Kind,Group:=c.Group,Letter:=c.Letter,Colors:=[],Period:=0:Character },true):=by
 have hk:=y2d c h;obtain⟨g1,g2⟩:=y8d c h;have h40:=(y36 c.Kind hk).1;have hkl:=y35 c.Kind hk;have hjl:=yir _ g1 g2;have hkp:decide (0<c.Kind)=true:=decide_eq_true (by omega);have hlen:=y8z c h;unfold yde at hlen ⊢;by_cases h8:c.Kind=8
 ·obtain⟨f1,f2⟩:=yom c h h8
  rw[if_pos h8]at hlen ⊢;rw[f1,h8];have eH:kt 8++40::(c.Letter++[41])=(kt 8++40::c.Letter)++[41]:=by simp
  have n1:lfl (kt 8++40::(c.Letter++[41]))=false:=by
   rw[eH];exact y64 _ (by simp only[List.length_append,List.length_cons,List.length_nil]at hlen ⊢;omega)
  have hw:=ykh (kt 8) c.Letter (by decide) (by omega) 2 0 ((((kt 8++40::(c.Letter++[41])).length:Int)-0).toNat+1) rfl (by simp only[List.length_append,List.length_cons,List.length_nil];omega);have hks:∀ s:List UInt8×Int,yd (ygk (kt 8++40::(c.Letter++[41])) (kt 8,s)) (((zn ).length)-1) 1 0=.ok 8:=fun s=>y8n 8 (by omega) _ (fun i t=>rfl)
  unfold zh;rw[y4o,n1,y46];simp only[cond_false];rw[show((kt 8++40::(c.Letter++[41]),([]:List UInt8),(0:Int)))=(kt 8++40::(c.Letter++[41]),[],((0:Nat):Int))from rfl,hw];simp only[hks];rfl
 ·have e8:(c.Kind == 8)=false:=by rw[beq_eq_false_iff_ne];exact h8
  rw[if_neg h8]at hlen ⊢;by_cases hL:c.Letter=[]
  ·rw[if_pos hL,List.append_nil]at hlen ⊢
   rw[hL];by_cases hg:c.Group=[]
   ·have eg:grpT c.Group=[]:=by rw[hg];rfl
    rw[eg,List.append_nil,hg];have hw:=y1v (kt c.Kind) h40 (by omega) (kt c.Kind).length 0 ((((kt c.Kind).length:Int)-0).toNat+1) (by omega) (by omega);have hks:∀ s:List UInt8×Int,yd (ygk (kt c.Kind) (kt c.Kind,s)) (((zn ).length)-1) 1 0=.ok c.Kind:=fun s=>y8n c.Kind hk _ (fun i t=>rfl)
    unfold zh;rw[y4o,ye9 _ hk,y46];simp only[cond_false];rw[show((kt c.Kind,([]:List UInt8),(0:Int)))=(kt c.Kind,[],((0:Nat):Int))from rfl,hw];simp only[hks,e8,cond_false];rw[hkp];rfl
   ·have eg:grpT c.Group=40::(Lib.join (c.Group.map Lib.itoa) [43]++[41]):=by unfold grpT;rw[if_neg hg]
    rw[eg]at hlen ⊢
    have hsp:za (Lib.join (c.Group.map Lib.itoa) [43]) 43=c.Group.map Lib.itoa:=by
     rw[show za (Lib.join (c.Group.map Lib.itoa) [43]) 43=yf 43 (Lib.join (c.Group.map Lib.itoa) [43])from yzj _ 43 (by omega)];exact yle _ hg g2
    have hJ0:(Lib.join (c.Group.map Lib.itoa) [43] == [])=false:=by
     rw[beq_eq_false_iff_ne];intro h0;have:=yle _ hg g2;rw[h0]at this
     cases hgg:c.Group with
     | nil=>exact hg hgg
     | cons x r=>
      rw[hgg]at this;simp only[yf,List.map_cons,List.cons.injEq]at this;exact(ysd x).2 this.1.symm
    generalize hJ:Lib.join (c.Group.map Lib.itoa) [43]=J at *;have eH:kt c.Kind++40::(J++[41])=(kt c.Kind++40::J)++[41]:=by simp
    have n1:lfl (kt c.Kind++40::(J++[41]))=false:=by
     rw[eH];exact y64 _ (by simp only[List.length_append,List.length_cons,List.length_nil]at hlen ⊢;omega)
    have hw:=ykh (kt c.Kind) J h40 (by omega) (kt c.Kind).length 0 ((((kt c.Kind++40::(J++[41])).length:Int)-0).toNat+1) (by omega) (by simp only[List.length_append,List.length_cons,List.length_nil];omega);have hks:∀ s:List UInt8×Int,yd (ygk (kt c.Kind++40::(J++[41])) (kt c.Kind,s)) (((zn ).length)-1) 1 0=.ok c.Kind:=fun s=>y8n c.Kind hk _ (fun i t=>rfl)
    have hgs:∀ (p:List UInt8) (q k:Int),yd (yfm (kt c.Kind++40::(J++[41])) (p,J,q) k) ((c.Group.map Lib.itoa).length-0) 0 []=.ok c.Group:=fun p q k=>y27 c.Group g2 (fun i t=>({ Kind:=k,Group:=t,Letter:=[],Colors:=[],Period:=0:Character },false)) _ (fun i t=>by unfold yfm;simp only;rw[hsp])
    unfold zh;rw[y4o,n1,y46];simp only[cond_false];rw[show((kt c.Kind++40::(J++[41]),([]:List UInt8),(0:Int)))=(kt c.Kind++40::(J++[41]),[],((0:Nat):Int))from rfl,hw];simp only[hks,e8,cond_false,hJ0,hsp,hgs,hkp]
  ·obtain⟨l1,l2⟩:=yly c h h8 hL
   rw[if_neg hL]at hlen ⊢;have hg:c.Group≠[]:=by rw[l2];simp
   have eg:grpT c.Group=40::(Lib.join (c.Group.map Lib.itoa) [43]++[41]):=by unfold grpT;rw[if_neg hg]
   rw[eg]at hlen ⊢
   have hsp:za (Lib.join (c.Group.map Lib.itoa) [43]) 43=c.Group.map Lib.itoa:=by
    rw[show za (Lib.join (c.Group.map Lib.itoa) [43]) 43=yf 43 (Lib.join (c.Group.map Lib.itoa) [43])from yzj _ 43 (by omega)];exact yle _ hg g2
   have hJ0:(Lib.join (c.Group.map Lib.itoa) [43] == [])=false:=by
    rw[beq_eq_false_iff_ne];intro h0;have:=yle _ hg g2;rw[h0,l2]at this;simp only[yf,List.map_cons,List.cons.injEq]at this;exact(ysd 6).2 this.1.symm
   generalize hJ:Lib.join (c.Group.map Lib.itoa) [43]=J at *;have eH:kt c.Kind++(40::(J++[41])++[43,76,70,108])=(kt c.Kind++40::(J++[41]))++[43,76,70,108]:=by simp
   rw[eH]at hlen ⊢;rw[l1];have hl2:(kt c.Kind++40::(J++[41])).length<=1048576:=by rw[List.length_append]at hlen;omega
   obtain⟨y1,y2⟩:=yb7 (kt c.Kind++40::(J++[41])) (by simp) hl2;have hw:=ykh (kt c.Kind) J h40 hl2 (kt c.Kind).length 0 (((((kt c.Kind++40::(J++[41]))++[43,76,70,108]).length:Int)-0).toNat+1) (by omega) (by simp only[List.length_append,List.length_cons,List.length_nil];omega);have hks:∀ s:List UInt8×Int,yd (y0n ((kt c.Kind++40::(J++[41]))++[43,76,70,108]) (kt c.Kind,s)) (((zn ).length)-1) 1 0=.ok c.Kind:=fun s=>y8n c.Kind hk _ (fun i t=>rfl)
   have hgs:∀ (p:List UInt8) (q k:Int),yd (ykm ((kt c.Kind++40::(J++[41]))++[43,76,70,108]) (p,J,q) k) ((c.Group.map Lib.itoa).length-0) 0 []=.ok c.Group:=fun p q k=>y27 c.Group g2 (fun i t=>({ Kind:=k,Group:=t,Letter:=[76],Colors:=[],Period:=0:Character },false)) _ (fun i t=>by unfold ykm;simp only;rw[hsp])
   unfold zh;rw[y4o,y1,y2,yk9];simp only[cond_true];rw[show((kt c.Kind++40::(J++[41]),([]:List UInt8),(0:Int)))=(kt c.Kind++40::(J++[41]),[],((0:Nat):Int))from rfl,hw];simp only[hks,e8,cond_false,hJ0,hsp,hgs,hkp]
theorem y30 {n m:Int} (h1:0<n) (h2:n<=600) (h3:0<m) (h4:m<=600) (h:secT n=secT m):n=m:=by
 have e1:=ywo n h1 h2;rw[h,ywo m h3 h4]at e1;exact(congrArg Prod.fst e1).symm
theorem ydv (p : Int) (h1 : 0 < p) (h2 : p <= 600) : ∀ (k n : Nat) (i : Int), 1 <= i -> i + k = p -> k < n -> y5 (y7k (secT p ++ [115])) n i = .error (.inl (p, true))
 | k,0,i,_,_,h=>by omega
 | 0,n+1,i,hi,he,_=>by
  have e:i=p:=by omega
  subst e;simp only[y5,y7k];rw[decide_eq_true h2,yjo _ (by omega) h2];simp
 | k+1,n+1,i,hi,he,hn=>by
  have hne:(zzb i == secT p++[115])=false:=by
   rw[beq_eq_false_iff_ne,yjo _ (by omega) (by omega)];intro h;have:=y30 (by omega) (by omega) h1 h2 (List.append_cancel_right h);omega
  have hw:IntKind.wrap .i64 (i+1)=i+1:=by rw[IntKind.wrap_i64];omega
  have:=ydv p h1 h2 k n (i+1) (by omega) (by omega) (by omega);simp only[y5,y7k];rw[decide_eq_true (show i<=600 by omega),hne,hw];simp only[cond_true,cond_false];exact this
theorem y4s (p:Int) (h1:0<p) (h2:p<=600):zlc (secT p++[115])=(p,true):=by
 unfold zlc;rw[ydv p h1 h2 (p-1).toNat _ 1 (by omega) (by omega) (by omega)]
theorem y16 (p:Int) (h1:0<p) (h2:p<=600):(32:UInt8)∉secT p++[115]:=by
 intro hm;rcases List.mem_append.1 hm with hm|hm
 ·unfold secT at hm
  split at hm
  ·exact ywe (by omega) 32 (by decide) hm
  ·rcases List.mem_append.1 hm with hm|hm
   ·exact ywe (by omega) 32 (by decide) hm
   ·rcases List.mem_cons.1 hm with hm|hm
    ·exact absurd hm (by decide)
    ·exact ywe (by omega) 32 (by decide) hm
 ·rw[List.mem_singleton]at hm;exact absurd hm (by decide)
theorem ym0 (c:Character) (h:zz c=true) (hl:c.Colors.length<9223372036854775808) (ha:(chrT c).length<=1048576):zgd (chrT c)=(c,true):=by
 have hf:=y9b c h;have hr:=y4z c hf;have hp:=yrd c h;have hp2:=(yad c h).2.2;have hcol:=y4q _ (yij c h hl);have hok:zsb c=true:=by rw[<- ycg c hl];exact h
 have htext:=yhl c h;have hsp:za (chrT c) 32=yf 32 (chrT c):=yzj _ 32 (by omega);unfold zgd;by_cases h0:c.Period=0
 ·have e1:za (chrT c) 32=[yde c,c.Colors]:=by
   rw[hsp];unfold chrT;rw[h0,show perT 0=[]from rfl,List.append_nil,y8 32 _ _ (ygt c hf),yib 32 _ hcol]
  rw[e1];have ec:({ Kind:=c.Kind,Group:=c.Group,Letter:=c.Letter,Colors:=c.Colors,Period:=0:Character })=c:=by rw[<- h0]
  have n2:((([yde c,c.Colors]:List (List UInt8)).length:Int) != 2)=false:=rfl;have n3:((([yde c,c.Colors]:List (List UInt8)).length:Int) == 3)=false:=rfl;rw[n2,n3];simp only[Bool.false_and,cond_false,List.getD_cons_zero,List.getD_cons_succ];rw[hr];simp only[ec,hok,htext];simp
 ·have e2:perT c.Period=32::(secT c.Period++[115]):=by unfold perT;rw[if_neg h0]
  have e1:za (chrT c) 32=[yde c,c.Colors,secT c.Period++[115]]:=by
   rw[hsp];unfold chrT;rw[e2,y8 32 _ _ (ygt c hf),y8 32 _ _ hcol,yib 32 _ (y16 _ (by omega) hp2)]
  rw[e1];have n2:((([yde c,c.Colors,secT c.Period++[115]]:List (List UInt8)).length:Int) != 3)=false:=rfl;have n3:((([yde c,c.Colors,secT c.Period++[115]]:List (List UInt8)).length:Int) == 3)=true:=rfl;rw[n2,n3];simp only[Bool.and_false,cond_false,cond_true,List.getD_cons_zero,List.getD_cons_succ];rw[hr,y4s _ (by omega) hp2];have ec:({ Kind:=c.Kind,Group:=c.Group,Letter:=c.Letter,Colors:=c.Colors,Period:=c.Period:Character })=c:=rfl;simp only[ec,hok,htext];simp
theorem yqh (a:List UInt8):zgd a=({ Kind:=0,Group:=[],Letter:=[],Colors:=[],Period:=0:Character },false)\/∃ c,zsb c=true/\zib c=a/\(∃ i,c.Colors=(za a 32).getD i default)/\zgd a=(c,true):=by
 unfold zgd;generalize za a 32=w
 cases hA:(((w.length:Int) != 2) && ((w.length:Int) != 3))with
 | true=>left;rfl
 | false=>
  simp only[cond_false]
  cases((w.length:Int) == 3)with
  | true=>
   simp only[cond_true];generalize hc:({ Kind:=((zh (w.getD 0 default)).1).Kind,Group:=((zh (w.getD 0 default)).1).Group,Letter:=((zh (w.getD 0 default)).1).Letter,Colors:=(w.getD 1 default),Period:=(zlc (w.getD 2 default)).1:Character })=c
   cases hv:zsb c with
   | false=>left;simp
   | true=>
    by_cases ht:zib c=a
    ·cases hq:((zh (w.getD 0 default)).2 && (zlc (w.getD 2 default)).2)with
     | true=>right;exact⟨c,hv,ht,⟨1,by rw[<- hc]⟩,by simp[ht]⟩
     | false=>left;simp
    ·left
     have:(zib c != a)=true:=by simpa using ht
     rw[this];simp
  | false=>
   simp only[cond_false];generalize hc:({ Kind:=((zh (w.getD 0 default)).1).Kind,Group:=((zh (w.getD 0 default)).1).Group,Letter:=((zh (w.getD 0 default)).1).Letter,Colors:=(w.getD 1 default),Period:=((zh (w.getD 0 default)).1).Period:Character })=c
   cases hv:zsb c with
   | false=>left;simp
   | true=>
    by_cases ht:zib c=a
    ·cases hq:(zh (w.getD 0 default)).2 with
     | true=>right;exact⟨c,hv,ht,⟨1,by rw[<- hc]⟩,by simp[ht]⟩
     | false=>left;simp
    ·left
     have:(zib c != a)=true:=by simpa using ht
     rw[this];simp
theorem ynt (a:List UInt8) (ha:a.length<=1048576):zad a=zgd a:=by
 rcases yuh a with h|⟨c,hv,ht,hr⟩
 ·rcases yqh a with g|⟨c,hv,ht,⟨i,hci⟩,hr⟩
  ·rw[h,g]
  ·have hl:c.Colors.length<9223372036854775808:=by
    rw[hci,yzj a 32 (by omega) |> (fun e=>(e:za a 32=yf 32 a))];rw[List.getD_eq_getElem?_getD]
    cases hg:(yf 32 a)[i]? with
    | none=>show(0:Nat)<_;omega
    | some x=>have:=(yu 32 a).2 x (List.mem_of_getElem? hg);simp only[Option.getD_some];omega
   rw[<- ycg c hl]at hv;have hT:=yhl c hv;rw[hT]at ht;rw[hr, <- ht,y2y c hv hl]
 ·have hT:=y2l c hv
  rw[hT]at ht
  have hl:c.Colors.length<9223372036854775808:=by
   have:c.Colors.length<=(chrT c).length:=by unfold chrT;simp only[List.length_append,List.length_cons];omega
   rw[ht]at this;omega
  rw[hr, <- ht,ym0 c hv hl (by rw[ht];exact ha)]
end Go.Ab
