/- A part of a proof: walks of functions and lemmas of our own. No conditions. -/
import Derived.Test.YtijmcongeemehaaGreatDoorFAl
import Derived.Test.YtijmcongeemehaaGreatDoorFAq
import Derived.Test.YtijmcongeemehaaGreatDoorFAp
import Derived.Test.YtijmcongeemehaaGreatDoorFBe
import Derived.Test.YtijmcongeemehaaGreatDoorFAr
import Derived.Test.YtijmcongeemehaaGreatDoorFAv
import Derived.Test.YtijmcongeemehaaGreatDoorFAo
import Derived.Test.YtijmcongeemehaaGreatDoorFBf
import Derived.Test.YtijmcongeemehaaGreatDoorFBd
import Derived.Test.YtijmcongeemehaaGreatDoorFAw
import Derived.Test.YtijmcongeemehaaGreatDoorFAt
import Derived.Test.YtijmcongeemehaaGreatDoorFAz
import Derived.Test.YtijmcongeemehaaGreatDoorFAx
import Derived.Test.YtijmcongeemehaaGreatDoorFAu
import Derived.Test.YtijmcongeemehaaGreatDoorFAy
import Derived.Test.YtijmcongeemehaaGreatDoorFBc
import Derived.Test.YtijmcongeemehaaGreatDoorFAs
set_option linter.unusedSectionVars false
set_option linter.unusedVariables false
set_option linter.unusedSimpArgs false
set_option maxHeartbeats 1000000
namespace Go.Ab
open Go Go.Proofs
def yzh (a0:(List UInt8)) (i1:Nat) (s1:List Sector):Except (((List Sector)×Bool)) (List Sector):=
 (bif ((((zd ((zg a0 [44]).getD i1 default) [45]).2.1) == []) || (!(zyb (s1.length:Int) 12)))then .error ([],false)else(bif ((!((zp ((zd ((zg a0 [44]).getD i1 default) [45]).1)).2)) || (!((zp (((zd ((zg a0 [44]).getD i1 default) [45]).2.1).take ((IntKind.wrap .i64 ((((zd ((zg a0 [44]).getD i1 default) [45]).2.1).length:Int)-1)).toNat))).2)))then .error ([],false)else .ok (s1++[{ From:=(zp ((zd ((zg a0 [44]).getD i1 default) [45]).1)).1,To:=(zp (((zd ((zg a0 [44]).getD i1 default) [45]).2.1).take ((IntKind.wrap .i64 ((((zd ((zg a0 [44]).getD i1 default) [45]).2.1).length:Int)-1)).toNat))).1,Color:=(((zd ((zg a0 [44]).getD i1 default) [45]).2.1).take (((zd ((zg a0 [44]).getD i1 default) [45]).2.1).length)).drop ((IntKind.wrap .i64 ((((zd ((zg a0 [44]).getD i1 default) [45]).2.1).length:Int)-1)).toNat):Sector }])))
def zwb (a0:(List UInt8)):((List Sector)×Bool):=
 (bif (a0 == [45])then([],true)else(match yf (yzh a0) (((zg a0 [44]).length)-0) 0 ([]:List Sector)with|.error e=>e|.ok s1=>(bif ((!(znb s1)) || ((zad s1) != a0))then([],false)else(s1,true))))
namespace N85
theorem DD:DOk Tryz.prog (Go.Ab.DD [(110,dP D_zyb),(139,dP D_znb),(164,dP D_zd),(66,dP D_zad),(80,dP D_zg),(81,dP D_zp)]):=ya ych.e <| ya yln.e <| ya yhk.e <| ya yhu.e <| ya ygo.e <| ya y3j.e <| ye _
theorem dn:type_of% (And.intro @D_zyb.eq_1 <| And.intro @D_znb.eq_1 <| And.intro @D_zd.eq_1 <| And.intro @D_zad.eq_1 <| And.intro @D_zg.eq_1 <| @D_zp.eq_1):=by and_intros<;>intros<;>rfl
theorem gr {p:Prop} (h:p:=by(grind [yze]);first|done|fail):p:=h
theorem o0 {p:Prop} (h:p:=by(first|(obtain⟨q1,q2,q3⟩:=hlo i1 _ (by assumption);have h1:=e1 i1;have h2:=hct i1;(repeat' with_reducible apply And.intro)<;>first|with_reducible assumption|exact q2|(rw[q1];omega)|omega)|(have h1:=e1 i1;have h2:=hct i1;(repeat' with_reducible apply And.intro)<;>first|with_reducible assumption|omega)|(obtain⟨w1,w2,w3⟩:=hW1;(repeat' with_reducible apply And.intro)<;>first|with_reducible assumption|omega)|((repeat' with_reducible apply And.intro)<;>omega));first|done|fail):p:=h
theorem o2 {p:Prop} (h:p:=by(first|((repeat' with_reducible apply And.intro)<;>first|(simp only[List.length_append,List.length_singleton];(first|done|fail))|(rw[IntKind.wrap_i64];omega)|(intro j hj;by_cases hji:j<s1.length;(focus(simp only[ybf hji,yll hji,cond_true];first|(first|done|fail)|with_reducible rfl));(have e0:j-s1.length=0:=by omega);(simp only[y8e hji hj,yzk hji,cond_false,e0,elt,borrowL,borrow];first|(first|done|fail)|with_reducible rfl))|decide));first|done|fail):p:=h
set_option maxHeartbeats 1000000 in
set_option maxRecDepth 20000 in
theorem den (a0:(List UInt8)) (hb0:a0.length<1099511627776) (hp0:a0.length<=1048576):Den Tryz.prog 85 [.str a0] (.tup [ownL 135 3 yl ((zwb a0).1),.bool ((zwb a0).2)]):=by
 generalize hR:zwb a0=r;unfold zwb at hR;refine di Tryz.func85 Tryz.ntmps85 Tryz.results85 ?_;intro c hL hc hk;obtain⟨hL0,_⟩:=hL;have hw0:a0.length<9223372036854775808:=Nat.lt_succ_of_le hL0;clear hL0;simp only[pars,Nat.zero_add];have e1:=fun i=>ypu a0 44 i
 have e2:=yg3 a0 44;have hct:=fun i:Nat=>yze ((zg a0 [44]).getD i default) [45]
 have hlo:∀ (i:Nat) (b:Bool),((((zd ((zg a0 [44]).getD i default) [45]).2.1) == []) || b)=false->_:=fun i b h=>yu5 (y:=(zd ((zg a0 [44]).getD i default) [45]).2.1) (by intro e;rw[e]at h;cases h) (by have h1:=hct i;have h2:=e1 i;omega)
 iterate 2 refine rS ?_
 refine AWP.cond rfl (fun hb => ?_) (fun hb => ?_)
 ·replace hR:=ct hR
  refine rS ?_;refine AWP.ret ?_;subst hR;exact es
 ·replace hR:=cf hR
  iterate 2 refine rS ?_
  refine AWP.block ?_;generalize hz1:yf (yzh a0) (((zg a0 [44]).length)-0) 0 ([]:List Sector)=z1 at hR;refine AWP.range (yzh a0) (fun i1 s1=>⟨[(0,.str a0),(4,.ref 0 3 0 s1.length),(19,.ref 1 1 0 ((zg a0 [44]).length)),(20,.int .i64 ((zg a0 [44]).length:Int)),(21,.int .i64 (i1:Int))],[.arr 135 3 s1.length (fun j=>yl (s1.getD j default)),.arr 9 1 (zg a0 [44]).length (fun j=>eS ((zg a0 [44]).getD j default))]⟩) (fun i1 s1=>s1.length<=([]:List Sector).length+1 * i1/\s1.length<=i1/\∀ v∈s1,bdSector v) (((zg a0 [44]).length)) 0 ([]:List Sector) [0,1] hz1 ot (by(simp)) sm ?_;clear hz1;intro i1 s1 hi1 hW1 hz1;have hV1:=hW1;obtain⟨hV1_0,hV1_1,hV1_2⟩:=hV1;refine rS ?_;refine AWP.seq ?_;refine AWP.cond rfl (fun hb => ?_) (fun hb => ?_)
  ·have hlt1:i1<((zg a0 [44]).length):=ot
   rw[yp hlt1]at hz1;simp only[yzh]at hz1;iterate 3 refine rS ?_
   refine AWP.cond rfl (fun hb => ?_) (fun hb => ?_)
   ·simp only[hb,cond_true]at hz1
    refine rS ?_;refine AWP.ret ?_;subst hz1;dsimp only at hR;subst hR;exact es
   ·simp only[hb,cond_false]at hz1
    iterate 4 refine rS ?_
    refine AWP.cond rfl (fun hb => ?_) (fun hb => ?_)
    ·simp only[hb,cond_true]at hz1
     refine rS ?_;refine AWP.ret ?_;subst hz1;dsimp only at hR;subst hR;exact es
    ·simp only[hb,cond_false]at hz1
     iterate 2 refine rS ?_
     exact⟨_,[3,1],hlt1,by(have h1:=e1 i1;have c1:=hct i1;obtain⟨w0,w1,w2⟩:=hW1;refine⟨by simp only[List.length_append,List.length_cons,List.length_nil,List.length_singleton];omega,by simp only[List.length_append,List.length_cons,List.length_nil,List.length_singleton];omega,fun v hv=>(List.mem_append.1 hv).elim (fun h=>w2 v h) (fun h=>by rw[List.mem_singleton]at h;subst h;show List.length _<1099511627776;simp only[List.length_drop,List.length_take];omega)⟩),hz1,sm⟩
  ·obtain rfl:i1=((zg a0 [44]).length):=ot
   rw[yq (Nat.le_refl _)]at hz1;subst hz1;dsimp only at hR;refine AWP.exit ?_;refine yb ?_;refine rS ?_;refine AWP.cond rfl (fun hb => ?_) (fun hb => ?_)
   ·replace hR:=ct hR
    refine rS ?_;refine AWP.ret ?_;subst hR;exact es
   ·replace hR:=cf hR
    refine rS ?_;refine AWP.ret ?_;subst hR;exact es
end N85
def D_zwb : DF
 | [x0]=>some (.tup [ownL 135 3 yl ((zwb (rdS x0)).1),.bool ((zwb (rdS x0)).2)],false,[wS x0,(rdS x0).length<1099511627776,(rdS x0).length<=1048576])
 | _=>none
theorem yp0:OkD Tryz.prog 85 D_zwb:=by unfold D_zwb;exact dk N85.den
theorem y07 {l:List Sector} (h:znb l=true):l.length<=12:=by
 unfold znb at h
 have he:=y1d (b:=ywh l) (e0:=false) (fun j s e h=>by
  unfold ywh at h;rw[Bool.cond_eq_ite]at h;split at h
  ·simpa using h.symm
  ·have h2:=y1d (b:=yri l j s) (e0:=false) (fun k s2 e2 h2=>by
    unfold yri at h2;rw[Bool.cond_eq_ite]at h2;split at h2
    ·simpa using h2.symm
    ·cases h2) (l.length-0) 0 ()
   generalize yf (yri l j s) (l.length-0) 0 ()=z at h h2
   cases z with
   | error e3=>
    have h:e3=e:=by simpa using h
    rw[<- h];exact h2 e3 rfl
   | ok _=>cases h) (l.length-0) 0 0
 generalize yf (ywh l) (l.length-0) 0 0=z at h he
 cases z with
 | error e=>have:=he e rfl;subst this;cases h
 | ok s=>simp[zyb]at h;omega
theorem yxf (c : UInt8) : ∀ xs : List (List UInt8), Lib.join xs [c] = y4h c xs
 | []=>rfl
 | [x]=>by simp[Lib.join_cons,Lib.joinTail,y4h]
 | x::y::r=>by
  have ih:=yxf c (y::r);rw[y4h, <- ih];simp[Lib.join_cons,Lib.joinTail]
theorem ya4 {s:Sector} (h:zfc s=true) (c:UInt8) (h1:c≠45) (h2:c.toNat<48):c∉scT s:=by
 unfold zfc at h;rw[Bool.and_eq_true]at h;unfold scT;intro hm;rw[List.mem_append]at hm;rcases hm with hm|hm
 ·exact ypg _ c h1 (.inl h2) hm
 rcases List.mem_cons.1 hm with hm|hm
 ·exact h1 hm
 rw[List.mem_append]at hm;rcases hm with hm|hm
 ·exact ypg _ c h1 (.inl h2) hm
 ·rcases y6s h.2 with e|e|e|e<;>rw[e]at hm<;>rw[List.mem_singleton]at hm<;>subst hm<;>revert h2<;>decide
theorem y2p {s:Sector} (h:zfc s=true):0<=s.From/\s.From<=359/\0<=s.To/\s.To<=359/\s.Color.length=1/\(45:UInt8)∉s.Color:=by
 have hb:=yio h;unfold zfc at h;rw[Bool.and_eq_true]at h;refine⟨hb.1.1,hb.1.2,hb.2.1,hb.2.2,?_,?_⟩<;>rcases y6s h.2 with e|e|e|e<;>rw[e]<;>decide
theorem yih {l:List Sector} (h:zy l=true) (hn:l≠[]):ym 44 (scsT l)=l.map scT:=by
 have h1:=(yvd h).2
 have hmem:∀ s∈l,(44:UInt8)∉scT s:=fun s hs=>by
  obtain⟨i,hi,e⟩:=List.getElem_of_mem hs;have:=h1 i hi;rw[List.getD_eq_getElem?_getD,List.getElem?_eq_getElem hi,Option.getD_some,e]at this;exact ya4 this 44 (by decide) (by decide)
 unfold scsT;rw[if_neg hn]
 cases l with
 | nil=>exact absurd rfl hn
 | cons x r=>
  rw[List.map_cons,Lib.join_cons,y7h 44 _ _ (hmem x (by simp)) (fun y hy=>by
   obtain⟨s,hs,rfl⟩:=List.mem_map.1 hy
   exact hmem s (by simp[hs]))]
theorem yy4 {l:List Sector} (hn:l≠[]):(scsT l == [45])=false:=by
 rw[beq_eq_false_iff_ne];unfold scsT;rw[if_neg hn]
 cases l with
 | nil=>exact absurd rfl hn
 | cons x r=>
  intro e;rw[List.map_cons,Lib.join_cons]at e;have:=congrArg List.length e;unfold scT at this;have h1:=List.length_pos_iff.2 (ynn x.From);have h2:=List.length_pos_iff.2 (ynn x.To);simp only[List.length_append,List.length_cons,List.length_nil]at this;omega
theorem yhz (l:List Sector) (j:Nat) (hj:j<l.length):(l.map scT).getD j default=scT (l.getD j default):=y51 scT l j hj
theorem yrp (x y:List UInt8) (h:y.length=1) (hl:x.length<=1048576):(x++y).take ((IntKind.wrap .i64 (((x++y).length:Int)-1)).toNat)=x/\(((x++y).take (x++y).length).drop ((IntKind.wrap .i64 (((x++y).length:Int)-1)).toNat))=y:=by
 have hw:(IntKind.wrap .i64 (((x++y).length:Int)-1)).toNat=x.length:=by
  rw[List.length_append,h,IntKind.wrap_i64];omega
 rw[hw];exact⟨List.take_left' rfl,by rw[List.take_length,List.drop_left' rfl]⟩
theorem yjj {n:Int} (h0:0<=n) (h1:n<=359):(Lib.itoa n).length<=3/\(45:UInt8)∉Lib.itoa n/\y2b (Lib.itoa n)=(n,true)/\zq (Lib.itoa n)=(n,true):=by
 have hk:=y4g n 2 h0 (by show n<(1000:Int);omega);exact⟨hk,y3c h0 45 (by decide),yyc h0 (by omega),ypp (by unfold E18;omega) (by omega)⟩
theorem yi8 {l:List Sector} (h:zy l=true):zwb (zqf l)=(l,true):=by
 rw[yfg h];by_cases hn:l=[]
 ·subst hn;rfl
 have hv:znb l=true:=by
  have:=(yvd h).1;rw[yub l (by omega)];exact h
 unfold zwb;rw[yy4 hn,cond_false,ynx,yih h hn,List.length_map]
 obtain⟨t,q1,q2⟩:=yqb (b:=yzh (scsT l)) (fun i s=>s=l.take i) (k:=l.length-0) (i:=0) (s:=[]) rfl (fun j u _ hj hu=>by
  have hj:j<l.length:=by omega
  refine⟨_,?_,rfl⟩;subst hu;have h1:=y2p ((yvd h).2 j hj);obtain⟨f1,f2,f3,_⟩:=yjj h1.1 h1.2.1;obtain⟨t1,t2,t3,_⟩:=yjj h1.2.2.1 h1.2.2.2.1;have h12:=(yvd h).1;unfold yzh;rw[ynx,yih h hn,yhz l j hj,cutI];unfold scT;rw[y0e _ _ 45 f2];simp only
  have hne:(Lib.itoa (l.getD j default).To++(l.getD j default).Color == [])=false:=by
   rw[beq_eq_false_iff_ne];intro e;have:=congrArg List.length e;simp only[List.length_append,List.length_nil]at this;omega
  have tl:=yrp (Lib.itoa (l.getD j default).To) (l.getD j default).Color h1.2.2.2.2.1 (by omega)
  have hf:zyb ((l.take j).length:Int) 12=true:=by
   unfold zyb;rw[List.length_take];simp;omega
  have r1:zp (Lib.itoa (l.getD j default).From)=((l.getD j default).From,true):=f3;have r2:zp (Lib.itoa (l.getD j default).To)=((l.getD j default).To,true):=t3;rw[hne,hf,tl.1,tl.2,r1,r2];simp only[Bool.not_true,Bool.or_self,cond_false]
  rw[yhf l j hj])
 rw[q1];simp only;have:t=l:=by rw[q2];simp
 rw[this,hv,yws h];simp
theorem yz4 {l:List Sector} (h:zy l=true):zwc (zqf l)=(l,true):=by
 have hlen:=y93 h;rw[yfg h];by_cases hn:l=[]
 ·subst hn;rfl
 unfold zwc;have h12:=(yvd h).1;have hs:=yxh (scsT l) 44 44 rfl (by omega);rw[yy4 hn,cond_false,hs,yih h hn,List.length_map,decide_eq_false (show ¬ 12<(l.length:Int)by omega),cond_false]
 have hl:=y1c (yok (scsT l)) (fun j=>[l.getD j default]) l.length 0 [] (fun j u _ hj=>by
  have hj:j<l.length:=by omega
  have h1:=y2p ((yvd h).2 j hj);obtain⟨f1,f2,_,f3⟩:=yjj h1.1 h1.2.1;obtain⟨t1,t2,_,t3⟩:=yjj h1.2.2.1 h1.2.2.2.1;unfold yok
  have hno:(45:UInt8)∉Lib.itoa (l.getD j default).To++(l.getD j default).Color:=fun hm=>by
   rcases List.mem_append.1 hm with hm|hm
   ·exact t2 hm
   ·exact h1.2.2.2.2.2 hm
  have e2:ze (scT (l.getD j default)) 45=[Lib.itoa (l.getD j default).From,Lib.itoa (l.getD j default).To++(l.getD j default).Color]:=by
   rw[yxh _ 45 45 rfl (by unfold scT;simp only[List.length_append,List.length_cons];omega)];unfold scT;rw[y7 45 _ _ f2,ykb 45 _ hno]
  rw[hs,yih h hn,yhz l j hj,e2];simp only[List.getD_cons_zero,List.getD_cons_succ];have tl:=yrp (Lib.itoa (l.getD j default).To) (l.getD j default).Color h1.2.2.2.2.1 (by omega);have hp:=List.length_pos_iff.2 (ynn (l.getD j default).To);have hq:decide (((Lib.itoa (l.getD j default).To++(l.getD j default).Color).length:Int)<2)=false:=decide_eq_false (by rw[List.length_append];omega);rw[hq,tl.1,tl.2,f3,t3]
  rfl)
 rw[Nat.sub_zero,hl,List.nil_append];have e:=y9e l default (fun s=>s);rw[List.map_id']at e;rw[e];simp only;rw[h];rfl
theorem yc6:RdOk (fun l=>zy l=true) zqf [] zwb 1048576:=.of (fun p h _=>yi8 h) (fun a ha=>by
 unfold zwb
 cases h0:(a == [45])with
 | true=>exact .inr ⟨[],rfl,y3s,eq_of_beq h0⟩
 | false=>
  rw[cond_false]
  have he:=y1d (b:=yzh a) (e0:=([],false)) (fun j s e h=>by
   unfold yzh at h;simp only[Bool.cond_eq_ite]at h;split at h
   ·simpa using h.symm
   ·split at h
    ·simpa using h.symm
    ·cases h) ((zg a [44]).length-0) 0 []
  generalize yf (yzh a) ((zg a [44]).length-0) 0 []=z at he
  cases z with
  | error e=>exact .inl (he e rfl)
  | ok s=>
   refine yfi a s _ (fun hc => ?_);simp only[Bool.or_eq_false_iff,Bool.not_eq_false',bne_eq_false_iff_eq]at hc;have h12:=y07 hc.1;have hv:zy s=true:=by rw[<- yub s (by omega)];exact hc.1
   exact⟨hv,by rw[<- hc.2,yws hv,yfg hv]⟩)
theorem y91 {w : List UInt8} (hw : w.length <= 1048576) {u r : List Sector} {e : List Sector × Bool}
  (h:(bif ((((ze w 45).length:Int) != 2) || decide ((((ze w 45).getD 1 default).length:Int)<2))then(.error ([],false):Except (List Sector×Bool) (List Sector))else(bif ((!((zq ((ze w 45).getD 0 default)).2)) || (!((zq (((ze w 45).getD 1 default).take ((IntKind.wrap .i64 ((((ze w 45).getD 1 default).length:Int)-1)).toNat))).2)))then .error ([],false)else .ok (u++[{ From:=(zq ((ze w 45).getD 0 default)).1,To:=(zq (((ze w 45).getD 1 default).take ((IntKind.wrap .i64 ((((ze w 45).getD 1 default).length:Int)-1)).toNat))).1,Color:=(((ze w 45).getD 1 default).take (((ze w 45).getD 1 default).length)).drop ((IntKind.wrap .i64 ((((ze w 45).getD 1 default).length:Int)-1)).toNat):Sector }])))=.ok r) :
  ∃ s,r=u++[s]/\w=scT s:=by
 rw[yxh w 45 45 rfl hw]at h
 cases hl:((((ym 45 w).length:Int) != 2) || decide ((((ym 45 w).getD 1 default).length:Int)<2))with
 | true=>rw[hl]at h;cases h
 | false=>
  rw[hl,cond_false]at h;rw[Bool.or_eq_false_iff]at hl;have hl2:(ym 45 w).length=2:=by have h:=hl.1;simp at h;omega
  obtain⟨x,y,e⟩:∃ x y,ym 45 w=[x,y]:=by
   match ym 45 w,hl2 with
   | [x,y],_=>exact⟨x,y,rfl⟩
  have hj:=y3d 45 w;have hsl:=(ycb 45 w).2;rw[e]at hj h hl hsl;have hx:x.length<=1048576:=by have:=hsl x (by simp);omega
  have hy:y.length<=1048576:=by have:=hsl y (by simp);omega
  simp only[List.getD_cons_zero,List.getD_cons_succ]at h hl;have hy2:2<=y.length:=by have:=of_decide_eq_false hl.2;omega
  have hwr:(IntKind.wrap .i64 ((y.length:Int)-1)).toNat=y.length-1:=by rw[IntKind.wrap_i64];omega
  rw[hwr]at h
  cases hc:((!((zq x).2)) || (!((zq (y.take (y.length-1))).2)))with
  | true=>rw[hc]at h;cases h
  | false=>
   rw[hc,cond_false]at h;simp only[Bool.or_eq_false_iff,Bool.not_eq_false']at hc;have n1:=(yhe hx hc.1).1;have n2:=(yhe (by rw[List.length_take];omega) hc.2).1;have h:=Except.ok.inj h;refine⟨_,h.symm,?_⟩;unfold scT;simp only;rw[<- n1, <- n2,List.take_length,List.take_append_drop, <- hj];simp[y4h]
theorem yd7:RdOk (fun l=>zy l=true) zqf [] zwc 1048576:=.of (fun p h _=>yz4 h) (fun a ha=>by
 unfold zwc;have hs:=yxh a 44 44 rfl ha
 cases h0:(a == [45])with
 | true=>exact .inr ⟨[],rfl,y3s,eq_of_beq h0⟩
 | false=>
  rw[cond_false]
  cases h12:decide (12<((ze a 44).length:Int))with
  | true=>exact .inl rfl
  | false=>
   rw[cond_false]
   have he:=y1d (b:=yok a) (e0:=([],false)) (fun j s e h=>by
    unfold yok at h;simp only[Bool.cond_eq_ite]at h;split at h
    ·simpa using h.symm
    ·split at h
     ·simpa using h.symm
     ·cases h) ((ze a 44).length-0) 0 []
   cases hz:yf (yok a) ((ze a 44).length-0) 0 []with
   | error e=>exact .inl (he e hz)
   | ok s=>
    refine yfi a s _ (fun hc => ?_);have hv:zy s=true:=by simpa using hc
    refine⟨hv,?_⟩;rw[yfg hv]
    have hk:=yde (fun k (t:List Sector)=>t.map scT=(ym 44 a).take k) hz rfl (fun j u v _ hj hI hb=>by
     have hj:j<(ym 44 a).length:=by rw[hs]at hj;omega
     have hw:((ym 44 a).getD j default).length<=1048576:=by
      have:=(ycb 44 a).2 ((ym 44 a).getD j default) (by rw[List.getD_eq_getElem?_getD,List.getElem?_eq_getElem hj];simp);omega
     unfold yok at hb;rw[hs]at hb;obtain⟨q,e1,e2⟩:=y91 (e:=([],false)) hw hb
     rw[e1,List.map_append,hI,List.map_singleton, <- e2,yhf _ j hj])
    rw[hs,Nat.sub_zero,Nat.zero_add,List.take_length]at hk
    have hn:s≠[]:=fun e=>by
     rw[e]at hk;exact y1e 44 a hk.symm
    unfold scsT
    rw[if_neg hn,hk,yxf,y3d])
theorem yqp (a:List UInt8) (ha:a.length<=1048576):zwb a=zwc a:=yc6.eq yd7 a ha
theorem ynw (s:List UInt8) (h:zob s=true):(47:UInt8)∉s:=by
 intro hm;obtain⟨i,hi,he⟩:=List.getElem_of_mem hm;unfold zob at h
 cases hl:yf (yte s) (s.length-0) 0 ()with
 | error e=>
  rw[hl]at h;obtain⟨j,t,_,_,h3⟩:=ypc hl;unfold yte at h3;simp only[Bool.cond_eq_ite]at h3;split at h3
  ·cases h3;simp at h
  ·cases h3
 | ok u=>
  have hk:=yde (fun k (_:Unit)=>∀ j,j<k->zse ((s.getD j 0).toNat:Int)≠0) hl (by intro j hj;omega) (fun j u v _ _ hI hv=>by
   unfold yte at hv;simp only[Bool.cond_eq_ite]at hv;split at hv
   ·cases hv
   ·rename_i hn
    simp only[Bool.or_eq_true,beq_iff_eq,not_or]at hn;intro q hq;by_cases hqj:q=j
    ·subst hqj;exact hn.1
    ·exact hI q (by omega))
  have:=hk i (by omega);rw[List.getD_eq_getElem?_getD,List.getElem?_eq_getElem hi,Option.getD_some,he]at this;exact this rfl
theorem yg0 (c:Character) (h:zqb c=true):(47:UInt8)∉ybd c:=by
 have hk:=y8c c h;obtain⟨g1,g2⟩:=y7c c h
 have h47:(47:UInt8)∉kt c.Kind:=by
  rcases(show c.Kind=1\/c.Kind=2\/c.Kind=3\/c.Kind=4\/c.Kind=5\/c.Kind=6\/c.Kind=7\/c.Kind=8 by omega)with e|e|e|e|e|e|e|e<;>rw[e]<;>decide
 unfold ybd;by_cases h8:c.Kind=8
 ·rw[if_pos h8]
  obtain⟨_,f2,f3,f4⟩:=y0j c h h8;obtain⟨x,hx⟩:=List.length_eq_one_iff.1 f2;rw[hx]at f3 f4 ⊢;simp only[List.getD_cons_zero]at f3 f4;intro hm;simp only[List.mem_append,List.mem_cons,List.not_mem_nil,or_false]at hm;rcases hm with hm|hm|hm|hm
  ·exact absurd hm (by decide)
  ·exact absurd hm (by decide)
  ·subst hm;exact absurd f3 (by decide)
  ·exact absurd hm (by decide)
 ·rw[if_neg h8]
  intro hm;rcases List.mem_append.1 hm with hm|hm
  ·exact h47 hm
  ·rcases List.mem_append.1 hm with hm|hm
   ·unfold grpT at hm
    split at hm
    ·simp at hm
    ·rcases List.mem_cons.1 hm with hm|hm
     ·exact absurd hm (by decide)
     ·rcases List.mem_append.1 hm with hm|hm
      ·refine y6y 47 (by decide) (c.Group.map Lib.itoa) (fun y hy => ?_) hm
       obtain⟨z,hz,rfl⟩:=List.mem_map.1 hy;exact y3c (by have:=g2 z hz;omega) 47 (by decide)
      ·rw[List.mem_singleton]at hm;exact absurd hm (by decide)
   ·split at hm
    ·simp at hm
    ·exact absurd hm (by decide)
theorem yf5 (n:Int) (h1:0<=n) (h2:n<=600):(47:UInt8)∉perT n:=by
 unfold perT;split
 ·simp
 ·unfold secT
  have i1:=y3c (n:=n / 10) (by omega) 47 (by decide);have i2:=y3c (n:=n % 10) (by omega) 47 (by decide);split
  ·intro hm
   simp only[List.mem_append,List.mem_cons,List.not_mem_nil,or_false]at hm;rcases hm with hm|hm|hm
   ·exact absurd hm (by decide)
   ·exact i1 hm
   ·exact absurd hm (by decide)
  ·intro hm
   simp only[List.mem_append,List.mem_cons,List.not_mem_nil,or_false]at hm;rcases hm with hm|(hm|hm|hm)|hm
   ·exact absurd hm (by decide)
   ·exact i1 hm
   ·exact absurd hm (by decide)
   ·exact i2 hm
   ·exact absurd hm (by decide)
theorem yv5 (c:Character) (h:zib c=true) (hl:c.Colors.length<9223372036854775808):(47:UInt8)∉chrT c:=by
 have hf:=yzb c h;have hp:=y2c c h;have hp2:=(ymc c h).2.2;unfold chrT;intro hm;simp only[List.mem_append,List.mem_cons]at hm;rcases hm with hm|hm|hm|hm
 ·exact yg0 c hf hm
 ·exact absurd hm (by decide)
 ·exact ynw _ (yef c h hl) hm
 ·exact yf5 _ hp hp2 hm
theorem yly:(allMarks.all fun m => !((zoe m).contains 47))=true:=by decide +kernel
theorem y11 {m:Mark} (h:zrb m=true):(47:UInt8)∉zoe m:=by
 have:=List.all_eq_true.1 yly m (yzt h);simpa using this
theorem yqt (c : UInt8) (hc : c ≠ 44) : ∀ (xs : List (List UInt8)), (∀ x ∈ xs, c ∉ x) -> c ∉ Lib.join xs [44]
 | [],_=>by simp[Lib.join_nil]
 | x::r,h=>by
  rw[yxf]
  cases r with
  | nil=>exact h x (by simp)
  | cons y r=>
   simp only[y4h];have ih:=yqt c hc (y::r) (fun z hz=>h z (by simp[hz]));rw[yxf]at ih;intro hm;simp only[List.mem_append,List.mem_cons]at hm;rcases hm with hm|hm|hm
   ·exact h x (by simp) hm
   ·exact hc hm
   ·exact ih hm
theorem yx6 {l:List Sector} (h:zy l=true):(47:UInt8)∉scsT l:=by
 unfold scsT;split
 ·decide
 ·refine yqt 47 (by decide) _ (fun x hx => ?_)
  obtain⟨s,hs,rfl⟩:=List.mem_map.1 hx;obtain⟨i,hi,e⟩:=List.getElem_of_mem hs;have:=(yvd h).2 i hi;rw[List.getD_eq_getElem?_getD,List.getElem?_eq_getElem hi]at this;rw[<- e];exact ya4 this 47 (by decide) (by decide)
theorem ym3 {s:List UInt8} (h:zlc s=true):(47:UInt8)∉s:=by
 obtain⟨h1,h2,h3⟩:=(yjg s).1 h;intro hm;obtain⟨j,hj,e⟩:=List.getElem_of_mem hm;have:=h3 j hj;have hg:s.getD j 0=47:=by simp[List.getD,List.getElem?_eq_getElem hj,e]
 rw[hg]at this;rcases this with⟨h,_⟩|⟨_,h,_⟩<;>simp at h
def zsc (a0:Aid):(List UInt8):=
 (bif (!(zxc a0))then[]else(bif (zne a0)then(zkc [(zu a0.Number),a0.Name,(zhf a0.At),(zu a0.Height),(zyd a0.Mark),(zgd a0.Light),(zad a0.Sectors),(zu a0.Intensity)] [47])else(zkc [(zu a0.Number),a0.Name,(zhf a0.At),(zu a0.Height),(zyd a0.Mark),[45],(zad a0.Sectors),(zu a0.Intensity)] [47])))
namespace N21
theorem DD:DOk Tryz.prog (Go.Ab.DD [(59,dP D_zxc),(60,dP D_zne),(61,dP D_zgd),(62,dP D_zkc),(63,dP D_zu),(64,dP D_zhf),(65,dP D_zyd),(66,dP D_zad)]):=ya ynj.e <| ya ysu.e <| ya ymv.e <| ya ymj.e <| ya y6j.e <| ya yb2.e <| ya ytu.e <| ya yhu.e <| ye _
theorem dn:type_of% (And.intro @D_zxc.eq_1 <| And.intro @D_zne.eq_1 <| And.intro @D_zgd.eq_1 <| And.intro @D_zkc.eq_1 <| And.intro @D_zu.eq_1 <| And.intro @D_zhf.eq_1 <| And.intro @D_zyd.eq_1 <| @D_zad.eq_1):=by and_intros<;>intros<;>rfl
theorem gr {p:Prop} (h:p:=by(grind [yxe]);first|done|fail):p:=h
theorem o0 {p:Prop} (h:p:=by(first|(have h9:=yuv hb0 (by assumption);have hr:=y6e h9;obtain⟨⟨e1,l1⟩,⟨e2,l2⟩,⟨e3,l3⟩,⟨e4,l4⟩,hch,⟨e6,l6⟩,⟨e7,l7⟩,l8⟩:=yo6 h9 (Nat.lt_of_lt_of_le hb0.2.2.1.2.2 (by decide));obtain⟨e5,l5⟩:=hch (by rw[<- hlt h9];assumption);rw[<- e5]at l5;rw[<- e1]at l1;rw[<- e2]at l2;rw[<- e3]at l3;rw[<- e4]at l4;rw[<- e6]at l6;rw[<- e7]at l7;(repeat' with_reducible apply And.intro)<;>(first|omega|exact hb0.2.1|exact hb0.2.2.2.1|exact hb0.2.2.2.2|exact hb0.2.2.1|exact hr.2.2.2.1|exact hr.2.2.2.2.2.2.2.2.1|(refine Nat.le_trans (yml _ _) ?_;simp only[jl,List.length_cons,List.length_nil];omega)))|(have h9:=yuv hb0 (by assumption);have hr:=y6e h9;obtain⟨⟨e1,l1⟩,⟨e2,l2⟩,⟨e3,l3⟩,⟨e4,l4⟩,hch,⟨e6,l6⟩,⟨e7,l7⟩,l8⟩:=yo6 h9 (Nat.lt_of_lt_of_le hb0.2.2.1.2.2 (by decide));skip;rw[<- e1]at l1;rw[<- e2]at l2;rw[<- e3]at l3;rw[<- e4]at l4;rw[<- e6]at l6;rw[<- e7]at l7;(repeat' with_reducible apply And.intro)<;>(first|omega|exact hb0.2.1|exact hb0.2.2.2.1|exact hb0.2.2.2.2|exact hb0.2.2.1|exact hr.2.2.2.1|exact hr.2.2.2.2.2.2.2.2.1|(refine Nat.le_trans (yml _ _) ?_;simp only[jl,List.length_cons,List.length_nil];omega))));first|done|fail):p:=h
theorem lx {p:Prop} (h:p:=by(exact lxx);first|done|fail):p:=h
set_option maxHeartbeats 4000000 in
set_option maxRecDepth 20000 in
theorem den (a0:Aid) (hb0:bdAid a0):Den Tryz.prog 21 [.agg (eAid a0)] (.str (zsc a0)):=by
 generalize hR:zsc a0=r;unfold zsc at hR;refine di Tryz.func21 Tryz.ntmps21 Tryz.results21 ?_;intro c hL hc hk;obtain⟨hL0,_⟩:=hL;have hw0:bwAid a0:=y5 a0 hL0;clear hL0;simp only[pars,Nat.zero_add];have hlt:=fun h=>y64 (a:=a0) h (Nat.lt_of_lt_of_le hb0.2.2.1.2.2 (by decide))
 iterate 2 refine rS ?_
 refine AWP.cond rfl (fun hb => ?_) (fun hb => ?_)
 ·replace hR:=ct hR
  refine rS ?_;refine AWP.ret ?_;subst hR;exact es
 ·replace hR:=cf hR
  iterate 2 refine rS ?_
  refine AWP.cond rfl (fun hb => ?_) (fun hb => ?_)
  ·replace hR:=ct hR
   refine rS ?_;refine rD 21 ?_;refine AWP.ret ?_;subst hR;exact es
  ·replace hR:=cf hR
   refine rD 21 ?_;refine AWP.ret ?_;subst hR;exact es
end N21
def D_zsc : DF
 | [x0]=>some (.str (zsc (rdG dAid x0)),false,[wG eAid dAid x0,bdAid (rdG dAid x0)])
 | _=>none
theorem y0u:OkD Tryz.prog 21 D_zsc:=by unfold D_zsc;exact dk N21.den
def zsg (a0:Aid):(List UInt8):=
 (bif (zpf a0)then((((((((((((((zv a0.Number)++[47])++a0.Name)++[47])++(zye a0.At))++[47])++(zv a0.Height))++[47])++(zjg a0.Mark))++[47])++(zfd a0.Light))++[47])++(zqf a0.Sectors))++[47])++(zv a0.Intensity)else((((((((((((((zv a0.Number)++[47])++a0.Name)++[47])++(zye a0.At))++[47])++(zv a0.Height))++[47])++(zjg a0.Mark))++[47])++[45])++[47])++(zqf a0.Sectors))++[47])++(zv a0.Intensity))
theorem y78 (a b c d e f g h:List UInt8) (s:List UInt8):Lib.join [a,b,c,d,e,f,g,h] s=a++(s++(b++(s++(c++(s++(d++(s++(e++(s++(f++(s++(g++(s++h))))))))))))):=by
 simp[Lib.join_cons,Lib.joinTail]
theorem ykh {a:Aid} (h:zmb a=true) (hl:a.Light.Colors.length<9223372036854775808):zsc a=zsg a/\(zsg a).length<=300:=by
 have hr:=y6e h;have hs:=(yne hr.2.2.2.2.2.2.2.2.1).1;obtain⟨⟨e1,l1⟩,⟨e2,l2⟩,⟨e3,l3⟩,⟨e4,l4⟩,hch,⟨e6,l6⟩,⟨e7,l7⟩,l8⟩:=yo6 h hl;have e:∀ a b c d e f g h:List UInt8,zkc [a,b,c,d,e,f,g,h] [47]=a++([47]++(b++([47]++(c++([47]++(d++([47]++(e++([47]++(f++([47]++(g++([47]++h))))))))))))):=fun a b c d e f g h=>y78 a b c d e f g h [47]
 unfold zsc zsg;rw[y8b a hl (by omega),h,y64 h hl];simp only[Bool.not_true,cond_false]
 cases ht:zpf a with
 | true=>
  obtain⟨e5,l5⟩:=hch ht;simp only[cond_true];rw[e,e1,e2,e3,e4,e5,e6,e7];refine⟨by simp only[List.append_assoc],?_⟩;simp only[List.length_append,List.length_cons,List.length_nil];omega
 | false=>
  simp only[cond_false];rw[e,e1,e2,e3,e4,e6,e7];refine⟨by simp only[List.append_assoc],?_⟩;simp only[List.length_append,List.length_cons,List.length_nil];omega
theorem y6r (a:Aid) (hb:bdAid a):(zsc a).length<=300:=by
 have hl:a.Light.Colors.length<9223372036854775808:=Nat.lt_of_lt_of_le hb.2.2.1.2.2 (by decide);have hs:a.Sectors.length<9223372036854775807:=Nat.lt_of_lt_of_le hb.2.2.2.1 (by decide)
 cases h:zmb a with
 | true=>rw[(ykh h hl).1];exact(ykh h hl).2
 | false=>
  unfold zsc;rw[y8b a hl hs,h];simp
def parB (s:List UInt8×List UInt8×Int):Except (Sum (Character×Bool) (List UInt8×List UInt8×Int)) (List UInt8×List UInt8×Int):=
 (bif decide (s.2.2<(s.1.length:Int))then(bif ((((s.1.getD ((s.2.2).toNat) 0).toNat:Int) == 40) && (((s.1.getD ((IntKind.wrap .i64 ((s.1.length:Int)-1)).toNat) 0).toNat:Int) == 41))then .error (.inr (s.1.take ((s.2.2).toNat),(s.1.take ((IntKind.wrap .i64 ((s.1.length:Int)-1)).toNat)).drop ((IntKind.wrap .i64 (s.2.2+1)).toNat),s.2.2))else .ok (s.1,s.2.1,IntKind.wrap .i64 (s.2.2+1)))else .error (.inr (s.1,s.2.1,s.2.2)))
theorem ysh (p X:List UInt8) (h40:(40:UInt8)∉p) (hl:(p++40::(X++[41])).length<=1048576):∀ (k i n:Nat),i+k=p.length->k<n ->
  y0 parB n (p++40::(X++[41]),[],(i:Int))=.error (.inr (p,X,(p.length:Int)))
 | k,i,0,_,h=>by omega
 | 0,i,n+1,h,_=>by
  have hi:i=p.length:=by omega
  subst hi;simp only[List.length_append,List.length_cons,List.length_nil]at hl;have d1:decide (((p.length:Nat):Int)<((p++40::(X++[41])).length:Int))=true:=decide_eq_true (by simp only[List.length_append,List.length_cons,List.length_nil];omega)
  have w1:IntKind.wrap .i64 (((p++40::(X++[41])).length:Int)-1)=((p.length+1+X.length:Nat):Int):=by
   simp only[List.length_append,List.length_cons,List.length_nil];rw[IntKind.wrap_i64];omega
  have w2:IntKind.wrap .i64 ((p.length:Int)+1)=((p.length+1:Nat):Int):=by rw[IntKind.wrap_i64];omega
  have g1:(p++40::(X++[41])).getD p.length 0=40:=by
   rw[List.getD_eq_getElem?_getD,List.getElem?_append_right (Nat.le_refl _)];simp
  have g2:(p++40::(X++[41])).getD (p.length+1+X.length) 0=41:=by
   rw[List.getD_eq_getElem?_getD,List.getElem?_append_right (by omega),show p.length+1+X.length-p.length=X.length+1 by omega,List.getElem?_cons_succ,List.getElem?_append_right (Nat.le_refl _)];simp
  simp only[y0,parB];rw[d1,w1,w2,Int.toNat_natCast,Int.toNat_natCast,Int.toNat_natCast,g1,g2];have t1:(p++40::(X++[41])).take p.length=p:=List.take_left' rfl
  have t2:((p++40::(X++[41])).take (p.length+1+X.length)).drop (p.length+1)=X:=by
   have:p++40::(X++[41])=(p++[40])++(X++[41]):=by simp
   rw[this,List.take_append,List.drop_append];simp
  rw[t1,t2];rfl
 | k+1,i,n+1,h,hn=>by
  simp only[List.length_append,List.length_cons,List.length_nil]at hl;have d1:decide ((i:Int)<((p++40::(X++[41])).length:Int))=true:=decide_eq_true (by simp only[List.length_append,List.length_cons,List.length_nil];omega);have w2:IntKind.wrap .i64 ((i:Int)+1)=((i+1:Nat):Int):=by rw[IntKind.wrap_i64];omega
  have hi:i<p.length:=by omega
  have g1:(((((p++40::(X++[41])).getD i 0).toNat:Int)) == 40)=false:=by
   rw[List.getD_eq_getElem?_getD,List.getElem?_append_left hi,List.getElem?_eq_getElem hi,Option.getD_some,beq_eq_false_iff_ne];intro he;have:p[i]=40:=UInt8.toNat_inj.1 (by show _=40;omega);exact h40 (this ▸ List.getElem_mem hi)
  have:=ysh p X h40 (by simp only[List.length_append,List.length_cons,List.length_nil];exact hl) k (i+1) n (by omega) (by omega);simp only[y0,parB];rw[d1,Int.toNat_natCast,g1,w2];simp only[Bool.false_and,cond_true,cond_false];exact this
theorem yeu (p:List UInt8) (h40:(40:UInt8)∉p) (hl:p.length<=1048576):∀ (k i n:Nat),i+k=p.length->k<n ->
  y0 parB n (p,[],(i:Int))=.error (.inr (p,[],(p.length:Int)))
 | k,i,0,_,h=>by omega
 | 0,i,n+1,h,_=>by
  have hi:i=p.length:=by omega
  subst hi;simp only[y0,parB];rw[decide_eq_false (by omega)];rfl
 | k+1,i,n+1,h,hn=>by
  have hi:i<p.length:=by omega
  have d1:decide ((i:Int)<(p.length:Int))=true:=decide_eq_true (by omega);have w2:IntKind.wrap .i64 ((i:Int)+1)=((i+1:Nat):Int):=by rw[IntKind.wrap_i64];omega
  have g1:((((p.getD i 0).toNat:Int)) == 40)=false:=by
   rw[List.getD_eq_getElem?_getD,List.getElem?_eq_getElem hi,Option.getD_some,beq_eq_false_iff_ne];intro he;have:p[i]=40:=UInt8.toNat_inj.1 (by show _=40;omega);exact h40 (this ▸ List.getElem_mem hi)
  have:=yeu p h40 hl k (i+1) n (by omega) (by omega);simp only[y0,parB];rw[d1,Int.toNat_natCast,g1,w2];simp only[Bool.false_and,cond_true,cond_false];exact this
theorem yfo (k:Int) (hk:1<=k/\k<=8) (b:Nat->Int->Except (Character×Bool) Int) (hb:∀ i s,b i s=(bif (((zxf ).getD i default) == kt k)then .ok (i:Int)else .ok s)) :
  yf b (((zxf ).length)-1) 1 0=.ok k:=by
 have e:b=fun i s=>(bif (((zxf ).getD i default) == kt k)then .ok (i:Int)else .ok s):=funext fun i=>funext fun s=>hb i s
 rw[e];rcases(show k=1\/k=2\/k=3\/k=4\/k=5\/k=6\/k=7\/k=8 by omega)with h|h|h|h|h|h|h|h<;>subst h<;>rfl
theorem yh7 {ρ : Type} (g : List Int) (h2 : ∀ v ∈ g, 1 <= v /\ v <= 9) (r : Nat -> List Int -> ρ) (b : Nat -> List Int -> Except ρ (List Int))
  (hb:∀ i s,b i s=(bif (!(zq ((g.map Lib.itoa).getD i default)).2)then .error (r i s)else .ok (s++([(zq ((g.map Lib.itoa).getD i default)).1]:List Int)))) :
  yf b ((g.map Lib.itoa).length-0) 0 []=.ok g:=by
 refine y56 g h2 r b (fun i s => ?_);rw[hb]
 have e:zq ((g.map Lib.itoa).getD i default)=zp ((g.map Lib.itoa).getD i default):=by
  have hlen:((g.map Lib.itoa).getD i default).length<=1048576:=by
   rw[List.getD_eq_getElem?_getD,List.getElem?_map]
   cases hg:g[i]? with
   | none=>show(0:Nat)<=_;omega
   | some x=>
    have:=h2 x (List.mem_of_getElem? hg);have:=ysf x (by omega) (by omega);simp only[Option.map_some,Option.getD_some];omega
  exact(y9o _ hlen).symm
 rw[e]
def yqu (a0:(List UInt8)) (s1:Int):Except (Sum ((Int×Bool)) (Int)) (Int):=
 (bif decide (s1<=600)then(bif ((zig s1) == a0)then .error (.inl (s1,true))else .ok (IntKind.wrap .i64 (s1+1)))else .error (.inr s1))
def zkg (a0:(List UInt8)):(Int×Bool):=
 (match y0 (yqu a0) (((601-(1:Int)).toNat)+1) 1 with|.error (.inl e)=>e|.error (.inr s1)=>(0,false)|.ok _=>default)
def zog (a0:(List UInt8)):(Character×Bool):=
 (bif ((((ze a0 32).length:Int) != 2) && (((ze a0 32).length:Int) != 3))then({ Kind:=0,Group:=[],Letter:=[],Colors:=[],Period:=0:Character },false)else(bif (((ze a0 32).length:Int) == 3)then(bif (((!((zz ((ze a0 32).getD 0 default)).2 && (zkg ((ze a0 32).getD 2 default)).2)) || (!(ztb ({ Kind:=((zz ((ze a0 32).getD 0 default)).1).Kind,Group:=((zz ((ze a0 32).getD 0 default)).1).Group,Letter:=((zz ((ze a0 32).getD 0 default)).1).Letter,Colors:=((ze a0 32).getD 1 default),Period:=(zkg ((ze a0 32).getD 2 default)).1:Character })))) || ((zfd ({ Kind:=((zz ((ze a0 32).getD 0 default)).1).Kind,Group:=((zz ((ze a0 32).getD 0 default)).1).Group,Letter:=((zz ((ze a0 32).getD 0 default)).1).Letter,Colors:=((ze a0 32).getD 1 default),Period:=(zkg ((ze a0 32).getD 2 default)).1:Character })) != a0))then({ Kind:=0,Group:=[],Letter:=[],Colors:=[],Period:=0:Character },false)else({ Kind:=((zz ((ze a0 32).getD 0 default)).1).Kind,Group:=((zz ((ze a0 32).getD 0 default)).1).Group,Letter:=((zz ((ze a0 32).getD 0 default)).1).Letter,Colors:=((ze a0 32).getD 1 default),Period:=(zkg ((ze a0 32).getD 2 default)).1:Character },true))else(bif (((!((zz ((ze a0 32).getD 0 default)).2)) || (!(ztb ({ Kind:=((zz ((ze a0 32).getD 0 default)).1).Kind,Group:=((zz ((ze a0 32).getD 0 default)).1).Group,Letter:=((zz ((ze a0 32).getD 0 default)).1).Letter,Colors:=((ze a0 32).getD 1 default),Period:=((zz ((ze a0 32).getD 0 default)).1).Period:Character })))) || ((zfd ({ Kind:=((zz ((ze a0 32).getD 0 default)).1).Kind,Group:=((zz ((ze a0 32).getD 0 default)).1).Group,Letter:=((zz ((ze a0 32).getD 0 default)).1).Letter,Colors:=((ze a0 32).getD 1 default),Period:=((zz ((ze a0 32).getD 0 default)).1).Period:Character })) != a0))then({ Kind:=0,Group:=[],Letter:=[],Colors:=[],Period:=0:Character },false)else({ Kind:=((zz ((ze a0 32).getD 0 default)).1).Kind,Group:=((zz ((ze a0 32).getD 0 default)).1).Group,Letter:=((zz ((ze a0 32).getD 0 default)).1).Letter,Colors:=((ze a0 32).getD 1 default),Period:=((zz ((ze a0 32).getD 0 default)).1).Period:Character },true))))
end Go.Ab
