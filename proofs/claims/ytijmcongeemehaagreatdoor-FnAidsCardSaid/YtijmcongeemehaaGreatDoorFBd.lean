/- A part of a proof: walks of functions and lemmas of our own. No conditions. -/
import Derived.Test.YtijmcongeemehaaGreatDoorFAl
import Derived.Test.YtijmcongeemehaaGreatDoorFAv
import Derived.Test.YtijmcongeemehaaGreatDoorFBc
import Derived.Test.YtijmcongeemehaaGreatDoorFAx
import Derived.Test.YtijmcongeemehaaGreatDoorFAy
import Derived.Test.YtijmcongeemehaaGreatDoorFAz
import Derived.Test.YtijmcongeemehaaGreatDoorFAo
import Derived.Test.YtijmcongeemehaaGreatDoorFAt
import Derived.Test.YtijmcongeemehaaGreatDoorFAq
import Derived.Test.YtijmcongeemehaaGreatDoorFAn
import Derived.Test.YtijmcongeemehaaGreatDoorFAr
import Derived.Test.YtijmcongeemehaaGreatDoorFAp
import Derived.Test.YtijmcongeemehaaGreatDoorFAs
set_option linter.unusedSectionVars false
set_option linter.unusedVariables false
set_option linter.unusedSimpArgs false
set_option maxHeartbeats 1000000
namespace Go.Ab
open Go Go.Proofs
def zig (a0:Int):(List UInt8):=
 (bif ((a0.tmod 10) == 0)then(zv (IntKind.wrap .i64 (a0.tdiv 10)))++[115]else(((zv (IntKind.wrap .i64 (a0.tdiv 10)))++[46])++(zv (a0.tmod 10)))++[115])
def yh4 (a0:Character) (i1:Nat) (s1:List UInt8):Except ((List UInt8)) (List UInt8):=
 (bif ((i1:Int) == 0)then .ok (s1++([40]++(zv (a0.Group.getD i1 default))))else .ok (s1++([43]++(zv (a0.Group.getD i1 default)))))
def yb4 (a0:Character) (i2:Nat) (s2:List UInt8):Except ((List UInt8)) (List UInt8):=
 (bif ((i2:Int) == 0)then .ok (s2++([40]++(zv (a0.Group.getD i2 default))))else .ok (s2++([43]++(zv (a0.Group.getD i2 default)))))
def zfd (a0:Character):(List UInt8):=
 (bif (a0.Kind == 8)then(match yf (yh4 a0) (a0.Group.length-0) 0 (((zxf ).getD ((a0.Kind).toNat) default)++(([40]++a0.Letter)++[41]))with|.error e=>e|.ok s1=>(bif decide (0<(a0.Group.length:Int))then(bif ((a0.Letter == [76]) && (a0.Kind != 8))then(bif decide (0<a0.Period)then(((s1++[41])++[43,76,70,108])++([32]++a0.Colors))++([32]++(zig a0.Period))else((s1++[41])++[43,76,70,108])++([32]++a0.Colors))else(bif decide (0<a0.Period)then((s1++[41])++([32]++a0.Colors))++([32]++(zig a0.Period))else(s1++[41])++([32]++a0.Colors)))else(bif ((a0.Letter == [76]) && (a0.Kind != 8))then(bif decide (0<a0.Period)then((s1++[43,76,70,108])++([32]++a0.Colors))++([32]++(zig a0.Period))else(s1++[43,76,70,108])++([32]++a0.Colors))else(bif decide (0<a0.Period)then(s1++([32]++a0.Colors))++([32]++(zig a0.Period))else s1++([32]++a0.Colors)))))else(match yf (yb4 a0) (a0.Group.length-0) 0 ((zxf ).getD ((a0.Kind).toNat) default)with|.error e=>e|.ok s2=>(bif decide (0<(a0.Group.length:Int))then(bif ((a0.Letter == [76]) && (a0.Kind != 8))then(bif decide (0<a0.Period)then(((s2++[41])++[43,76,70,108])++([32]++a0.Colors))++([32]++(zig a0.Period))else((s2++[41])++[43,76,70,108])++([32]++a0.Colors))else(bif decide (0<a0.Period)then((s2++[41])++([32]++a0.Colors))++([32]++(zig a0.Period))else(s2++[41])++([32]++a0.Colors)))else(bif ((a0.Letter == [76]) && (a0.Kind != 8))then(bif decide (0<a0.Period)then((s2++[43,76,70,108])++([32]++a0.Colors))++([32]++(zig a0.Period))else(s2++[43,76,70,108])++([32]++a0.Colors))else(bif decide (0<a0.Period)then(s2++([32]++a0.Colors))++([32]++(zig a0.Period))else s2++([32]++a0.Colors))))))
def zgd (a0:Character):(List UInt8):=
 (bif (!(zib a0))then[]else(bif (a0.Period != 0)then(((zpd a0)++[32])++a0.Colors)++(([32]++(zhe a0.Period))++[115])else((zpd a0)++[32])++a0.Colors))
namespace N61
theorem DD:DOk Tryz.prog (Go.Ab.DD [(137,dP D_zib),(141,dP D_zpd),(142,dP D_zhe)]):=ya y1n.e <| ya yw2.e <| ya yfv.e <| ye _
theorem dn:type_of% (And.intro @D_zib.eq_1 <| And.intro @D_zpd.eq_1 <| @D_zhe.eq_1):=by and_intros<;>intros<;>rfl
theorem o0 {p:Prop} (h:p:=by(first|(have q9 := ‹(!zib a0)=false›;have q8:zib a0=true:=(by simpa using q9);have h9:=ymc a0 q8;have h8:=yvp a0 h9.1 h9.2.1;have h7:=y2c a0 q8;have h6:=ywr a0.Period (by omega) (by omega);first|(refine⟨hb0,h9.1,h9.2.1,?_,?_⟩<;>first|omega|(simp only[List.length_append,List.length_cons,List.length_nil];omega))|(and_intros<;>first|omega|(simp only[List.length_append,List.length_cons,List.length_nil];omega))));first|done|fail):p:=h
set_option maxHeartbeats 400000 in
set_option maxRecDepth 20000 in
theorem den (a0:Character) (hb0:bdCharacter a0):Den Tryz.prog 61 [.agg (yi a0)] (.str (zgd a0)):=by
 generalize hR:zgd a0=r;unfold zgd at hR;refine di Tryz.func61 Tryz.ntmps61 Tryz.results61 ?_;intro c hL hc hk;obtain⟨hL0,_⟩:=hL;have hw0:bwCharacter a0:=yu a0 hL0;clear hL0;simp only[pars,Nat.zero_add];have hbL:a0.Letter.length<1099511627776:=hb0.2.1;have hbC:a0.Colors.length<1099511627776:=hb0.2.2;iterate 2 refine rS ?_
 refine AWP.cond rfl (fun hb => ?_) (fun hb => ?_)
 ·replace hR:=ct hR
  refine rS ?_;refine AWP.ret ?_;subst hR;exact es
 ·replace hR:=cf hR
  refine rD 5 ?_;refine rS ?_;refine AWP.cond rfl (fun hb => ?_) (fun hb => ?_)
  ·replace hR:=ct hR
   iterate 2 refine rS ?_
   refine AWP.ret ?_;subst hR;exact es
  ·replace hR:=cf hR
   refine rS ?_;refine AWP.ret ?_;subst hR;exact es
end N61
def D_zgd : DF
 | [x0]=>some (.str (zgd (rdG yd x0)),false,[wG yi yd x0,bdCharacter (rdG yd x0)])
 | _=>none
theorem ymv:OkD Tryz.prog 61 D_zgd:=by unfold D_zgd;exact dk N61.den
def kt (k:Int):List UInt8:=([[],[70],[79,99],[73,115,111],[70,108],[76,70,108],[81],[86,81],[77,111]]:List (List UInt8)).getD k.toNat []
def grpT (g:List Int):List UInt8:=if g=[]then[]else 40::(Lib.join (g.map Lib.itoa) [43]++[41])
def ybd (c:Character):List UInt8:=
 if c.Kind=8 then kt 8++(40::(c.Letter++[41]))else kt c.Kind++(grpT c.Group++(if c.Letter=[]then[]else[43,76,70,108]))
def secT (n:Int):List UInt8:=if n.tmod 10=0 then Lib.itoa (n / 10)else Lib.itoa (n / 10)++(46::Lib.itoa (n % 10))
def perT (n:Int):List UInt8:=if n=0 then[]else 32::(secT n++[115])
def chrT (c:Character):List UInt8:=ybd c++(32::(c.Colors++perT c.Period))
theorem yy6 (k:Int) (h:1<=k/\k<=8):zqc k=kt k:=by
 rcases(show k=1\/k=2\/k=3\/k=4\/k=5\/k=6\/k=7\/k=8 by omega)with h|h|h|h|h|h|h|h<;>subst h<;>rfl
theorem ye0 (k:Int):zxf.getD k.toNat default=kt k:=rfl
theorem y1v (n:Int) (h1:0<=n) (h2:n<=600):zhe n=secT n:=by
 unfold zhe secT;have hd:n.tdiv 10=n / 10:=Int.tdiv_eq_ediv_of_nonneg h1;have hm:n.tmod 10=n % 10:=Int.tmod_eq_emod_of_nonneg h1;have hw:IntKind.wrap .i64 (n.tdiv 10)=n / 10:=by rw[IntKind.wrap_i64];omega
 rw[hw,hm];by_cases h:n % 10=0
 ·rw[h];rfl
 ·have:(n % 10 == 0)=false:=by rw[beq_eq_false_iff_ne];exact h
  rw[this,if_neg h];simp[yo2]
theorem ydo (n:Int) (h1:0<=n) (h2:n<=600):zig n=secT n++[115]:=by
 unfold zig secT;have hd:n.tdiv 10=n / 10:=Int.tdiv_eq_ediv_of_nonneg h1;have hm:n.tmod 10=n % 10:=Int.tmod_eq_emod_of_nonneg h1;have hw:IntKind.wrap .i64 (n.tdiv 10)=n / 10:=by rw[IntKind.wrap_i64];omega
 rw[hw,hm,yxg _ (by omega) (by omega),yxg _ (by omega) (by omega)];by_cases h:n % 10=0
 ·rw[h];rfl
 ·have:(n % 10 == 0)=false:=by rw[beq_eq_false_iff_ne];exact h
  rw[this,if_neg h];simp
theorem y5x (c:Character) (hk:1<=c.Kind/\c.Kind<=8):zpd c=ybd c:=by
 unfold zpd ybd;rw[yy6 _ hk];by_cases h8:c.Kind=8
 ·rw[h8];simp
 ·have e8:(c.Kind == 8)=false:=by rw[beq_eq_false_iff_ne];exact h8
  rw[e8,if_neg h8];simp only[cond_false];have hl:=y1c (y1m c) (fun j=>[Lib.itoa (c.Group.getD j default)]) c.Group.length 0 [] (fun j s _ _=>rfl);rw[y9e c.Group default Lib.itoa,List.nil_append]at hl;simp only[Nat.sub_zero];rw[hl];unfold grpT;by_cases hg:c.Group=[]
  ·rw[hg]
   by_cases hL:c.Letter=[]
   ·rw[hL];simp
   ·have:(c.Letter != [])=true:=by simpa using hL
    rw[this,if_neg hL];simp
  ·have hpos:0<c.Group.length:=List.length_pos_iff.2 hg
   rw[if_neg hg,decide_eq_true (show 0<(c.Group.length:Int)by omega)];have ej:zkc (c.Group.map Lib.itoa) [43]=Lib.join (c.Group.map Lib.itoa) [43]:=rfl;by_cases hL:c.Letter=[]
   ·rw[hL];simp[ej]
   ·have:(c.Letter != [])=true:=by simpa using hL
    rw[this,if_neg hL];simp[ej]
theorem ypk (c:Character) (h:zib c=true):zgd c=chrT c:=by
 have hk:=y8c c (yzb c h);have hp:=y2c c h;have hp2:=(ymc c h).2.2;unfold zgd chrT perT;rw[h,y5x c hk,y1v _ hp hp2];by_cases h0:c.Period=0
 ·rw[h0];simp
 ·have:(c.Period != 0)=true:=by rw[bne_iff_ne];exact h0
  rw[this,if_neg h0];simp
theorem ygz (x:Int) (r:List Int):(List.range' 1 r.length).flatMap (fun j=>(43:UInt8)::Lib.itoa ((x::r).getD j default))=Lib.joinTail [43] (r.map Lib.itoa):=by
 unfold Lib.joinTail;rw[List.map_map, <- List.flatMap_def]
 have h:(List.range' 1 r.length).flatMap (fun j=>(43:UInt8)::Lib.itoa ((x::r).getD j default))=(List.range' 0 r.length).flatMap (fun j=>(43:UInt8)::Lib.itoa (r.getD j default)):=by
  rw[List.flatMap_def,List.flatMap_def];congr 1
  apply List.ext_getElem
  ·simp
  ·intro i h1 h2
   simp[List.getElem_range',Nat.add_comm 1 i]
 rw[h];rw[List.flatMap_def,List.flatMap_def];congr 1
 apply List.ext_getElem
 ·simp
 ·intro i h1 h2
  simp only[List.length_map]at h2;simp[List.getD_eq_getElem?_getD,h2]
def grp0 (g:List Int):List UInt8:=if g=[]then[]else 40::Lib.join (g.map Lib.itoa) [43]
theorem ylv (c : Character) (h2 : ∀ v ∈ c.Group, 1 <= v /\ v <= 9) (b : Nat -> List UInt8 -> Except (List UInt8) (List UInt8))
  (hb:∀ j s,b j s=bif ((j:Int) == 0)then .ok (s++([40]++(zv (c.Group.getD j default))))else .ok (s++([43]++(zv (c.Group.getD j default))))) (s:List UInt8) :
  yf b (c.Group.length-0) 0 s=.ok (s++grp0 c.Group):=by
 have hl:=y1c b (fun j=>(if j=0 then(40:UInt8)else 43)::Lib.itoa (c.Group.getD j default)) c.Group.length 0 s (fun j s _ _=>by
  have hr:=yzg h2 j;rw[hb,yxg _ (by omega) (by omega)];by_cases h:j=0
  ·subst h;rfl
  ·have:((j:Int) == 0)=false:=by rw[beq_eq_false_iff_ne];omega
   rw[this,if_neg h];rfl)
 rw[Nat.sub_zero,hl];congr 2
 generalize c.Group=g
 cases g with
 | nil=>rfl
 | cons x r=>
  unfold grp0;rw[if_neg (by simp),List.length_cons,List.range'_succ,List.flatMap_cons,List.map_cons,Lib.join_cons]
  have:(List.range' (0+1) r.length).flatMap (fun j=>(if j=0 then(40:UInt8)else 43)::Lib.itoa ((x::r).getD j default))=(List.range' 1 r.length).flatMap (fun j=>(43:UInt8)::Lib.itoa ((x::r).getD j default)):=by
   rw[List.flatMap_def,List.flatMap_def];congr 1
   apply List.map_congr_left;intro j hj;rw[List.mem_range'_1]at hj;rw[if_neg (by omega)]
  rw[this,ygz];simp
theorem ymh (c:Character) (h:zib c=true):zfd c=chrT c:=by
 have hf:=yzb c h;have hk:=y8c c hf;have hp:=y2c c h;obtain⟨g1,g2,hp2⟩:=ymc c h
 have hsec:∀ s:List UInt8,(bif decide (0<c.Period)then s++([32]++(zig c.Period))else s)=s++perT c.Period:=by
  intro s;unfold perT;by_cases h0:c.Period=0
  ·rw[h0];simp
  ·rw[decide_eq_true (show 0<c.Period by omega),if_neg h0,ydo _ hp hp2];simp
 unfold zfd chrT ybd;rw[ye0,ylv c g2 (yh4 c) (fun j s=>rfl),ylv c g2 (yb4 c) (fun j s=>rfl)];by_cases h8:c.Kind=8
 ·have hg:c.Group=[]:=by
   unfold zqb at hf;rw[h8]at hf;have hf:(((zec c.Letter) != []) && ((c.Group.length:Int) == 0))=true:=hf;rw[Bool.and_eq_true,beq_iff_eq]at hf;exact List.length_eq_zero_iff.1 (by omega)
  rw[h8,hg];have e1:((8:Int) == 8)=true:=rfl;have e2:((8:Int) != 8)=false:=rfl;have e3:decide (0<((([]:List Int).length:Int)))=false:=rfl;simp only[e1,e2,e3,cond_true,cond_false,Bool.and_false,if_true,grp0,hsec];simp
 ·have e8:(c.Kind == 8)=false:=by rw[beq_eq_false_iff_ne];exact h8
  have e9:(c.Kind != 8)=true:=by rw[bne_iff_ne];exact h8
  have hL:(c.Letter == [76])=(c.Letter != []):=(ysr c hf h8).symm;rw[e8,e9,if_neg h8,hL];simp only[cond_false,Bool.and_true,hsec];by_cases hg:c.Group=[]
  ·rw[hg]
   have e3:decide (0<((([]:List Int).length:Int)))=false:=rfl;simp only[e3,cond_false,grp0,grpT,if_true];by_cases hl:c.Letter=[]
   ·rw[hl];simp
   ·have:(c.Letter != [])=true:=by simpa using hl
    rw[this,if_neg hl];simp
  ·have hpos:0<c.Group.length:=List.length_pos_iff.2 hg
   rw[decide_eq_true (show 0<(c.Group.length:Int)by omega)];simp only[cond_true,grp0,grpT,if_neg hg];by_cases hl:c.Letter=[]
   ·rw[hl];simp
   ·have:(c.Letter != [])=true:=by simpa using hl
    rw[this,if_neg hl];simp
def u8D (k:Nat):UInt8:=UInt8.ofNat (48+k)
theorem y0h {k:Nat} (h:k<10):(u8D k).toNat=48+k:=yym k h
def pad2 (m:Nat):List UInt8:=[u8D (m / 10),u8D (m % 10)]
def pad4 (y:Nat):List UInt8:=[u8D (y / 1000),u8D (y / 100 % 10),u8D (y / 10 % 10),u8D (y % 10)]
theorem ysj {m:Nat} (h:m<100):yjd (pad2 m)/\digV 0 (pad2 m)=m:=by
 have h1:=y0h (k:=m / 10) (by omega);have h2:=y0h (k:=m % 10) (by omega);refine⟨fun b hb => ?_,?_⟩
 ·simp only[pad2,List.mem_cons,List.not_mem_nil,or_false]at hb
  rcases hb with rfl|rfl<;>omega
 ·unfold pad2
  rw[ynb,ynb,yod,h1,h2];omega
theorem ywu {y:Nat} (h:y<10000):yjd (pad4 y)/\digV 0 (pad4 y)=y:=by
 have h1:=y0h (k:=y / 1000) (by omega);have h2:=y0h (k:=y / 100 % 10) (by omega);have h3:=y0h (k:=y / 10 % 10) (by omega);have h4:=y0h (k:=y % 10) (by omega);refine⟨fun b hb => ?_,?_⟩
 ·simp only[pad4,List.mem_cons,List.not_mem_nil,or_false]at hb
  rcases hb with rfl|rfl|rfl|rfl<;>omega
 ·unfold pad4
  rw[ynb,ynb,ynb,ynb,yod,h1,h2,h3,h4];omega
theorem yp1 {y:Nat} (h1:1000<=y) (h2:y<10000):Lib.decDigits y=pad4 y:=by
 rw[yib y (by omega),yib (y / 10) (by omega),yib (y / 10 / 10) (by omega),Lib.decDigits_one (by omega)];unfold pad4 u8D;rw[show y / 10 / 10 / 10=y / 1000 by omega,show y / 10 / 10 % 10=y / 100 % 10 by omega];rfl
theorem y5k {m:Nat} (h:m<100):zxg (m:Int) 2=pad2 m:=by
 unfold zxg;rw[yo2,yqe];by_cases h10:m<10
 ·rw[Lib.decDigits_one h10]
  unfold pad2 u8D;rw[show m / 10=0 by omega,show m % 10=m by omega];rfl
 ·rw[yib m h10,Lib.decDigits_one (by omega)]
  rfl
def D10 (y m d:Nat):List UInt8:=pad4 y++45::(pad2 m++45::pad2 d)
theorem y5i {a:Int} (h1:0<=a) (h2:a<=99999):∃ y m d:Nat,zdf a=((y:Int),(m:Int),(d:Int))/\2000<=y/\y<=2273/\1<=m/\m<=12/\1<=d/\d<=31/\ydp a y m d/\zrg a=D10 y m d:=by
 obtain⟨y,m,d,e,hy,hd⟩:=y57 a h1 h2;have hm:=yu8 (l:=ydc y) hd.2.1 hd.2.2.1;obtain⟨q1,q2,q3,q4,q5,q6⟩:=hd;refine⟨y.toNat,m.toNat,d.toNat,?_,by omega,by omega,by omega,by omega,by omega,by omega,?_,?_⟩
 ·rw[e,show(y.toNat:Int)=y by omega,show(m.toNat:Int)=m by omega,show(d.toNat:Int)=d by omega]
 ·rw[show(y.toNat:Int)=y by omega,show(m.toNat:Int)=m by omega,show(d.toNat:Int)=d by omega]
  exact⟨q1,q2,q3,q4,q5,q6⟩
 ·unfold zrg zzg zk
  simp only[h1,h2,decide_true,Bool.and_self,Bool.not_true,cond_false,e];conv=>lhs;rw[show y=(y.toNat:Int)by omega,show m=(m.toNat:Int)by omega,show d=(d.toNat:Int)by omega]
  rw[yo2,yqe,yp1 (by omega) (by omega),y5k (by omega),y5k (by omega)];unfold D10;simp
def yng (w:List UInt8) (r:Int×Bool):Prop:=
 (∃ a:Int,0<=a/\a<=99999/\w=zrg a/\r=(a,true))\/((∀ a:Int,0<=a->a<=99999->w≠zrg a)/\r=(0,false))
theorem ye6 {y m d y' m' d':Nat} (h1:y<10000) (h2:m<100) (h3:d<100) (h1':y'<10000) (h2':m'<100) (h3':d'<100) (h:D10 y m d=D10 y' m' d'):y=y'/\m=m'/\d=d':=by
 have t1:∀ y m d,(D10 y m d).take 4=pad4 y:=fun _ _ _=>rfl
 have t2:∀ y m d,((D10 y m d).take 7).drop 5=pad2 m:=fun _ _ _=>rfl
 have t3:∀ y m d,(D10 y m d).drop 8=pad2 d:=fun _ _ _=>rfl
 have e1:=congrArg (fun l=>digV 0 (List.take 4 l)) h;have e2:=congrArg (fun l=>digV 0 ((List.take 7 l).drop 5)) h;have e3:=congrArg (fun l=>digV 0 (List.drop 8 l)) h;simp only[t1,t2,t3]at e1 e2 e3;rw[(ywu h1).2,(ywu h1').2]at e1;rw[(ysj h2).2,(ysj h2').2]at e2;rw[(ysj h3).2,(ysj h3').2]at e3;exact⟨e1,e2,e3⟩
theorem y8o {a a':Int} (h1:0<=a) (h2:a<=99999) (h1':0<=a') (h2':a'<=99999) (h:zrg a=zrg a'):a=a':=by
 obtain⟨y,m,d,_,_,_,_,_,_,_,hd,e⟩:=y5i h1 h2;obtain⟨y',m',d',_,_,_,_,_,_,_,hd',e'⟩:=y5i h1' h2';rw[e,e']at h;obtain⟨rfl,rfl,rfl⟩:=ye6 (by omega) (by omega) (by omega) (by omega) (by omega) (by omega) h;have q:=hd.2.2.2.2.2;have q':=hd'.2.2.2.2.2;omega
theorem yng.unique {w:List UInt8} {r r':Int×Bool} (h:yng w r) (h':yng w r'):r=r':=by
 rcases h with⟨n,h0,h1,h2,rfl⟩|⟨h1,rfl⟩<;>rcases h' with⟨n',h0',h1',h2',rfl⟩|⟨h1',rfl⟩
 ·rw[y8o h0 h1 h0' h1' (h2.symm.trans h2')]
 ·exact absurd h2 (h1' n h0 h1)
 ·exact absurd h2' (h1 n' h0' h1')
 ·rfl
theorem yng.of {w:List UInt8} {r:Int×Bool} (h1:r=(0,false)\/∃ a:Int,0<=a/\a<=99999/\w=zrg a) (h2:∀ a:Int,0<=a->a<=99999->w=zrg a->r=(a,true)):yng w r:=by
 by_cases h:∃ a:Int,0<=a/\a<=99999/\w=zrg a
 ·obtain⟨a,q1,q2,q3⟩:=h
  exact .inl ⟨a,q1,q2,q3,h2 a q1 q2 q3⟩
 ·refine .inr ⟨fun a q1 q2 q3=>h ⟨a,q1,q2,q3⟩,?_⟩
  rcases h1 with h1|h1
  ·exact h1
  ·exact absurd h1 h
def y4h (c : UInt8) : List (List UInt8) -> List UInt8
 | []=>[]
 | [x]=>x
 | x::y::r=>x++c::y4h c (y::r)
theorem y3d (c : UInt8) : ∀ l, y4h c (ym c l) = l
 | []=>rfl
 | b::l=>by
  have ih:=y3d c l;simp only[ym];split
  ·rename_i h
   obtain⟨x,r,e⟩:=List.exists_cons_of_ne_nil (y1e c l);rw[e]at ih ⊢;simp only[y4h,List.nil_append];rw[ih,h]
  ·obtain⟨x,r,e⟩:=List.exists_cons_of_ne_nil (y1e c l)
   rw[e]at ih ⊢;simp only
   cases r with
   | nil=>simp only[y4h]at ih ⊢;rw[ih]
   | cons y r=>simp only[y4h,List.cons_append]at ih ⊢;rw[ih]
theorem y5j (n:Int):(32:UInt8)∉Lib.itoa n/\Lib.itoa n≠[]:=by
 obtain⟨d1,_,d3,_⟩:=y8 n.natAbs;by_cases h:n<0
 ·rw[ywb h]
  refine⟨fun hm => ?_,by simp⟩;rcases List.mem_cons.1 hm with hm|hm
  ·simp at hm
  ·have:=d1 32 hm;simp at this
 ·rw[yxd h]
  exact⟨fun hm=>by have:=d1 32 hm;simp at this,d3⟩
theorem ypp {n:Int} (h:n.natAbs<E18) (hl:(Lib.itoa n).length<=1048576):zq (Lib.itoa n)=(n,true):=by
 rcases ygc (Lib.itoa n) hl with⟨n',h',e,hr⟩|⟨hn,_⟩
 ·rw[hr,ydn e]
 ·exact absurd rfl (hn n h)
def zie (a0:(List UInt8)):(Int×Bool):=
 (bif (!((zd a0 [46]).2.2))then(IntKind.wrap .i64 ((IntKind.wrap .i64 (10 * ((zp ((zd a0 [46]).1)).1)))+((zp [48]).1)),(((((zp ((zd a0 [46]).1)).2 && (zp [48]).2) && (zk ((zp ((zd a0 [46]).1)).1) 0 1200)) && (zk ((zp [48]).1) 0 9)) && ((zhe (IntKind.wrap .i64 ((IntKind.wrap .i64 (10 * ((zp ((zd a0 [46]).1)).1)))+((zp [48]).1)))) == a0)))else(IntKind.wrap .i64 ((IntKind.wrap .i64 (10 * ((zp ((zd a0 [46]).1)).1)))+((zp ((zd a0 [46]).2.1)).1)),(((((zp ((zd a0 [46]).1)).2 && (zp ((zd a0 [46]).2.1)).2) && (zk ((zp ((zd a0 [46]).1)).1) 0 1200)) && (zk ((zp ((zd a0 [46]).2.1)).1) 0 9)) && ((zhe (IntKind.wrap .i64 ((IntKind.wrap .i64 (10 * ((zp ((zd a0 [46]).1)).1)))+((zp ((zd a0 [46]).2.1)).1)))) == a0))))
namespace N168
theorem DD:DOk Tryz.prog (Go.Ab.DD [(111,dP D_zk),(142,dP D_zhe),(164,dP D_zd),(81,dP D_zp)]):=ya yed.e <| ya yfv.e <| ya yhk.e <| ya y3j.e <| ye _
theorem dn:type_of% (And.intro @D_zk.eq_1 <| And.intro @D_zhe.eq_1 <| And.intro @D_zd.eq_1 <| @D_zp.eq_1):=by and_intros<;>intros<;>rfl
theorem ol:type_of% (@zk.eq_1):=@zk.eq_1
theorem gr {p:Prop} (h:p:=by(grind [yze]);first|done|fail):p:=h
set_option maxHeartbeats 400000 in
set_option maxRecDepth 20000 in
theorem den (a0:(List UInt8)) (hb0:a0.length<1099511627776) (hp0:a0.length<=1048576):Den Tryz.prog 168 [.str a0] (.tup [.int .i64 ((zie a0).1),.bool ((zie a0).2)]):=by
 generalize hR:zie a0=r;unfold zie at hR;refine di Tryz.func168 Tryz.ntmps168 Tryz.results168 ?_;intro c hL hc hk;obtain⟨hL0,_⟩:=hL;have hw0:a0.length<9223372036854775808:=Nat.lt_succ_of_le hL0;clear hL0;simp only[pars,Nat.zero_add];iterate 3 refine rS ?_
 refine AWP.cond rfl (fun hb => ?_) (fun hb => ?_)
 ·replace hR:=ct hR
  iterate 5 refine rS ?_
  refine AWP.ret ?_;subst hR;exact es
 ·replace hR:=cf hR
  iterate 4 refine rS ?_
  refine AWP.ret ?_;subst hR;exact es
end N168
def D_zie : DF
 | [x0]=>some (.tup [.int .i64 ((zie (rdS x0)).1),.bool ((zie (rdS x0)).2)],false,[wS x0,(rdS x0).length<1099511627776,(rdS x0).length<=1048576])
 | _=>none
theorem yq1:OkD Tryz.prog 168 D_zie:=by unfold D_zie;exact dk N168.den
theorem y3c {n:Int} (h:0<=n) (b:UInt8) (hb:b.toNat<48\/57<b.toNat):b∉Lib.itoa n:=by
 obtain⟨d1,_,_,_⟩:=y8 n.natAbs;rw[yxd (by omega)];intro hm;have:=d1 b hm;omega
theorem yyc {n:Int} (h1:0<=n) (h2:n<=1000000):y2b (Lib.itoa n)=(n,true):=by
 rcases y4i (Lib.itoa n)with⟨m,hm,he,hr⟩|⟨hn,_⟩
 ·rw[hr,ydn he]
 ·exact absurd rfl (hn n (by unfold E18;omega))
theorem y6y (b : UInt8) (hb : b ≠ 43) : ∀ (xs : List (List UInt8)), (∀ x ∈ xs, b ∉ x) -> b ∉ Lib.join xs [43]
 | [],_=>by simp[Lib.join_nil]
 | x::r,h=>by
  rw[Lib.join_cons];intro hm;rcases List.mem_append.1 hm with hm|hm
  ·exact h x (by simp) hm
  ·unfold Lib.joinTail at hm
   rw[List.mem_flatten]at hm;obtain⟨l,hl,hbl⟩:=hm;obtain⟨y,hy,rfl⟩:=List.mem_map.1 hl;rcases List.mem_append.1 hbl with h9|h9
   ·rw[List.mem_singleton]at h9;exact hb h9
   ·exact h y (by simp[hy]) h9
theorem y7h (b : UInt8) : ∀ (x : List UInt8) (r : List (List UInt8)), b ∉ x -> (∀ y ∈ r, b ∉ y) -> ym b (x ++ Lib.joinTail [b] r) = x :: r
 | x,[],hx,_=>by simp[Lib.joinTail,ykb b x hx]
 | x,y::r,hx,hr=>by
  have e:Lib.joinTail [b] (y::r)=b::(y++Lib.joinTail [b] r):=by simp[Lib.joinTail]
  rw[e,y7 b x _ hx,y7h b y r (hr y (by simp)) (fun z hz=>hr z (by simp[hz]))]
theorem y4d (g:List Int) (hg:g≠[]) (h2:∀ v∈g,1<=v/\v<=9):ym 43 (Lib.join (g.map Lib.itoa) [43])=g.map Lib.itoa:=by
 cases g with
 | nil=>exact absurd rfl hg
 | cons x r=>
  rw[List.map_cons,Lib.join_cons];refine y7h 43 _ _ (y3c (by have:=h2 x (by simp);omega) 43 (by decide)) ?_;intro y hy;obtain⟨z,hz,rfl⟩:=List.mem_map.1 hy;exact y3c (by have:=h2 z (by simp[hz]);omega) 43 (by decide)
theorem y16 (k:Int) (h:1<=k/\k<=8):(40:UInt8)∉kt k/\(32:UInt8)∉kt k:=by
 rcases(show k=1\/k=2\/k=3\/k=4\/k=5\/k=6\/k=7\/k=8 by omega)with h|h|h|h|h|h|h|h<;>subst h<;>decide
theorem yco (n:Int) (h1:0<n) (h2:n<=600):zie (secT n)=(n,true):=by
 have hm:n.tmod 10=n % 10:=Int.tmod_eq_emod_of_nonneg (by omega)
 have z0:Lib.itoa 0=[48]:=by
  rw[yxd (by omega)];first|rfl|decide|(rw[show(0:Int).natAbs=0 from rfl,Lib.decDigits];rfl)
 have e0:zp [48]=(0,true):=by
  have:=yyc (n:=0) (by omega) (by omega);rw[z0]at this;exact this
 have e1:zp (Lib.itoa (n / 10))=(n / 10,true):=yyc (by omega) (by omega);have hst:=y1v n (by omega) h2;have hcut:∀ s,zd s [46]=Lib.cut s [46]:=fun s=>rfl
 unfold zie;simp only[hcut];have hw:∀ m:Int,0<=m->m<=100000->IntKind.wrap .i64 m=m:=fun m _ _=>by rw[IntKind.wrap_i64];omega
 by_cases h:n.tmod 10=0
 ·have hs:secT n=Lib.itoa (n / 10):=by unfold secT;rw[if_pos h]
  rw[hs]at hst ⊢;rw[ylj _ 46 (y3c (by omega) 46 (by decide))];simp only[Bool.not_false,cond_true];rw[e0,e1];simp only;rw[hw (10 * (n / 10)) (by omega) (by omega),hw (10 * (n / 10)+0) (by omega) (by omega),show 10 * (n / 10)+0=n by omega,hst];have w1:zk (n / 10) 0 1200=true:=by unfold zk;rw[decide_eq_true (by omega),decide_eq_true (by omega)];rfl
  rw[w1];simp[zk]
 ·have hs:secT n=Lib.itoa (n / 10)++(46::Lib.itoa (n % 10)):=by unfold secT;rw[if_neg h]
  have e2:zp (Lib.itoa (n % 10))=(n % 10,true):=yyc (by omega) (by omega);rw[hs]at hst ⊢;rw[y0e _ _ 46 (y3c (by omega) 46 (by decide))];simp only[Bool.not_true,cond_false];rw[e1,e2];simp only;rw[hw (10 * (n / 10)) (by omega) (by omega),hw (10 * (n / 10)+n % 10) (by omega) (by omega),show 10 * (n / 10)+n % 10=n by omega,hst];have w1:zk (n / 10) 0 1200=true:=by unfold zk;rw[decide_eq_true (by omega),decide_eq_true (by omega)];rfl
  have w2:zk (n % 10) 0 9=true:=by unfold zk;rw[decide_eq_true (by omega),decide_eq_true (by omega)];rfl
  rw[w1,w2];simp
end Go.Ab
