/- A part of a proof: walks of functions and lemmas of our own. No conditions. -/
import Derived.Test.YtbgiihoaldolfaaGreatCAv
import Derived.Test.YtbgiihoaldolfaaGreatCAt
import Derived.Test.YtbgiihoaldolfaaGreatCAp
import Derived.Test.YtbgiihoaldolfaaGreatCAr
import Derived.Test.YtbgiihoaldolfaaGreatCAu
import Derived.Test.YtbgiihoaldolfaaGreatCAl
import Derived.Test.YtbgiihoaldolfaaGreatCAk
import Derived.Test.YtbgiihoaldolfaaGreatCAo
import Derived.Test.YtbgiihoaldolfaaGreatCAq
import Derived.Test.YtbgiihoaldolfaaGreatCAn
set_option linter.unusedSectionVars false
set_option linter.unusedVariables false
set_option linter.unusedSimpArgs false
set_option maxHeartbeats 1000000
namespace Go.Ab
open Go Go.Proofs
theorem yox (g:List Int):zjc g=zhc g:=Bool.eq_iff_iff.2 ((ykj g).trans (yre g).symm)
theorem yls (a:List UInt8):(zlb a != [])=decide (a.length=1/\65<=(a.getD 0 0).toNat/\(a.getD 0 0).toNat<=90):=by
 rw[yti];by_cases h:a.length=1/\65<=(a.getD 0 0).toNat/\(a.getD 0 0).toNat<=90
 ·rw[if_pos h,decide_eq_true h]
  have hlt:(a.getD 0 0).toNat-65<y0c.length:=by show _<26;omega
  rw[List.getD_eq_getElem?_getD,List.getElem?_eq_getElem hlt,Option.getD_some];have:=(y5g _ (List.getElem_mem hlt)).1;rw[bne_iff_ne];intro h2;rw[h2]at this;simp at this
 ·rw[if_neg h,decide_eq_false h];rfl
theorem ywy (L:List UInt8) (g:List Int) :
  (bif (L == [])then(((g.length:Int) == 0) || (((g.length:Int) == 1) && (zh (g.getD 0 default) 2 9)))else((L == [76]) && (zrb g [6]))) =
  (bif (L == [76])then(((g.length:Int) == 1) && ((g.getD 0 default) == 6))else(((L == []) && decide ((g.length:Int)<=1)) && (zhc g))):=by
 by_cases h1:L=[]
 ·subst h1
  simp only[show(([]:List UInt8) == [])=true from rfl,show(([]:List UInt8) == [76])=false from rfl,cond_true,cond_false,Bool.true_and];apply Bool.eq_iff_iff.2;rw[Bool.and_eq_true,yre,decide_eq_true_eq]
  match g with
  | []=>simp[y0s]
  | [x]=>
   have e:((([x]:List Int).length:Int) == 0)=false:=rfl;have e2:((([x]:List Int).length:Int) == 1)=true:=rfl;rw[e,e2];simp only[Bool.false_or,Bool.true_and,zh,Bool.and_eq_true,decide_eq_true_eq,List.getD_cons_zero,y0s,List.length_singleton,List.mem_singleton,forall_eq,List.sum_cons,List.sum_nil,ne_eq,List.cons.injEq,and_true];omega
  | x::y::t=>
   have e:(((x::y::t).length:Int) == 0)=false:=by rw[beq_eq_false_iff_ne];simp only[List.length_cons];omega
   have e2:(((x::y::t).length:Int) == 1)=false:=by rw[beq_eq_false_iff_ne];simp only[List.length_cons];omega
   rw[e,e2];simp only[Bool.false_and,Bool.or_self,Bool.false_eq_true,false_iff,List.length_cons];omega
 ·have e1:(L == [])=false:=by simpa using h1
  rw[e1];by_cases h2:L=[76]
  ·subst h2
   simp only[BEq.rfl,cond_true,cond_false,Bool.true_and,yzg];apply Bool.eq_iff_iff.2;rw[Bool.and_eq_true,decide_eq_true_eq,beq_iff_eq,beq_iff_eq];constructor
   ·intro h;subst h;simp
   ·rintro⟨h3,h4⟩
    obtain⟨x,rfl⟩:=List.length_eq_one_iff.1 (show g.length=1 by omega);simp only[List.getD_cons_zero]at h4;rw[h4]
  ·have e2:(L == [76])=false:=by simpa using h2
   rw[e2];simp
theorem yns (c:Character) (hl:c.Colors.length<9223372036854775808):zoc c=(zgc c.Colors && zdc c):=by
 unfold zoc zdc zld zd;rw[ybv _ hl, <- ywy,yox,yls]
 cases zwb c.Colors with
 | false=>simp
 | true=>
  simp only[Bool.not_true,Bool.or_false,Bool.true_and];rcases(show c.Kind=1\/c.Kind=2\/c.Kind=3\/c.Kind=4\/c.Kind=5\/c.Kind=6\/c.Kind=7\/c.Kind=8\/(c.Kind<1\/8<c.Kind)by omega)with h|h|h|h|h|h|h|h|h
  ·rw[h];rfl
  ·rw[h];rfl
  ·rw[h];rfl
  ·rw[h];rfl
  ·rw[h];rfl
  ·rw[h];rfl
  ·rw[h];rfl
  ·rw[h]
   show((((((c.Group.length:Int) == 0) && ((c.Letter.length:Int) == 1)) && decide (65<=((c.Letter.getD 0 0).toNat:Int))) && decide (((c.Letter.getD 0 0).toNat:Int)<=90)))=(decide (c.Letter.length=1/\65<=(c.Letter.getD 0 0).toNat/\(c.Letter.getD 0 0).toNat<=90) && ((c.Group.length:Int) == 0))
   apply Bool.eq_iff_iff.2;simp only[Bool.and_eq_true,beq_iff_eq,decide_eq_true_eq];omega
  ·have e0:(decide (1<=c.Kind) && decide (c.Kind<=8))=false:=by
    rw[Bool.and_eq_false_iff,decide_eq_false_iff_not,decide_eq_false_iff_not];omega
   have e:∀ n:Int,1<=n->n<=8->(c.Kind == n)=false:=fun n h1 h2=>by rw[beq_eq_false_iff_ne];omega
   rw[e0,e 1 (by omega) (by omega),e 2 (by omega) (by omega),e 3 (by omega) (by omega),e 4 (by omega) (by omega),e 5 (by omega) (by omega),e 6 (by omega) (by omega),e 7 (by omega) (by omega),e 8 (by omega) (by omega)];rfl
theorem yiv (l:List Int):zbc l=zcb l:=rfl
theorem ymg (c:Character):zcc c=zhb c:=rfl
theorem ygw (c:Character) (h:zdc c=true) (h8:c.Kind≠8):(c.Letter != [])=(c.Letter == [76]):=by
 unfold zdc at h;simp only[Bool.cond_eq_ite]at h;have e8:(c.Kind == 8)=false:=by rw[beq_eq_false_iff_ne];exact h8
 repeat' split at h
 all_goals first
  | (rename_i q;rw[e8]at q;cases q;done)
  | (cases h;done)
  | (simp only[Bool.and_eq_true,beq_iff_eq]at h;rw[h.2];rfl)
  | (simp only[Bool.and_eq_true,beq_iff_eq]at h;rw[h.1];rfl)
  | (rename_i q;simp only[beq_iff_eq]at q;rw[q];rfl)
theorem ywj (k:Int) (h:k=2\/k=4\/k=5\/k=6\/k=7\/k=8):(zl k).1=zsb k/\(zl k).2.1=zu k:=by
 rcases h with h|h|h|h|h|h<;>subst h<;>exact⟨rfl,rfl⟩
theorem yor (c:Character) (h:zdc c=true) (hk:c.Kind=2\/c.Kind=4\/c.Kind=5\/c.Kind=6\/c.Kind=7\/c.Kind=8):ze c=za c:=by
 obtain⟨r1,r2⟩:=ywj c.Kind hk;by_cases h8:c.Kind=8
 ·have hs:(zlb c.Letter != [])=true:=by
   unfold zdc at h;rw[h8]at h;have h:(((zlb c.Letter) != []) && ((c.Group.length:Int) == 0))=true:=h;rw[Bool.and_eq_true]at h;exact h.1
  rw[yls,decide_eq_true_eq]at hs;have e1:=yti c.Letter;rw[if_pos hs]at e1;have e2:=y6j ((c.Letter.getD 0 0).toNat:Int);rw[ygj _ (by omega) (by omega),show((((c.Letter.getD 0 0).toNat:Int)-65).toNat)=(c.Letter.getD 0 0).toNat-65 by omega]at e2;have hd:(default:List UInt8)=[]:=rfl;rw[hd]at e2
  have hall:∀ x∈y0c.getD ((c.Letter.getD 0 0).toNat-65) [],x=45\/x=46:=by
   have hlt:(c.Letter.getD 0 0).toNat-65<y0c.length:=by show _<26;omega
   rw[List.getD_eq_getElem?_getD,List.getElem?_eq_getElem hlt,Option.getD_some];exact(y5g _ (List.getElem_mem hlt)).2.2
  generalize y0c.getD ((c.Letter.getD 0 0).toNat-65) []=code at *
  have hb:ye (y7s c) code.length 0 []=ye (yyk c) code.length 0 []:=y9k _ _ _ (fun j u _ hj=>by
   unfold y7s yyk;rw[e1,e2,r1,r2,h8]
   have hg:(code.map (fun c=>if c=46 then(5:Int)else 15)).getD j default=if code.getD j 0=46 then 5 else 15:=by
    rw[List.getD_eq_getElem?_getD,List.getD_eq_getElem?_getD,List.getElem?_map,List.getElem?_eq_getElem (by omega)];rfl
   rw[hg];have hm:=hall (code.getD j 0) (by rw[List.getD_eq_getElem?_getD,List.getElem?_eq_getElem (by omega),Option.getD_some];exact List.getElem_mem _);generalize code.getD j 0=x at hm
   rcases hm with hm|hm<;>subst hm<;>rfl)
  unfold ze za;rw[h8,e1,e2];simp only[List.length_map,Nat.sub_zero];rw[hb];rfl
 ·have e8:(c.Kind == 8)=false:=by rw[beq_eq_false_iff_ne];exact h8
  unfold ze za;rw[e8,ygw c h h8,r2]
  have b3:ymt c=yjk c:=by
   funext i s j t
   unfold ymt yjk;rw[r1,r2]
  have b5:yot c=ywk c:=by
   funext i s j t
   unfold yot ywk;rw[r1,r2]
  have b2:ygt c=yyh c:=by
   funext i s
   unfold ygt yyh;rw[b3];all_goals rfl
  have b4:yxt c=y0k c:=by
   funext i s
   unfold yxt y0k;rw[b5];all_goals rfl
  rw[b2,b4];rfl
theorem yjx (c:Character) (h:zdc c=true) (hs:zcc c=false):zwd c=zmd c:=by
 unfold zwd zmd;rw[hs, <- ymg,hs];simp only[cond_false];by_cases h3:c.Kind=3
 ·rw[h3];rfl
 ·have e3:(c.Kind == 3)=false:=by rw[beq_eq_false_iff_ne];exact h3
  rw[e3];simp only[cond_false]
  have hk:c.Kind=2\/c.Kind=4\/c.Kind=5\/c.Kind=6\/c.Kind=7\/c.Kind=8:=by
   unfold zdc at h;unfold zcc at hs;simp only[Bool.cond_eq_ite]at h;simp only[Bool.or_eq_false_iff,beq_eq_false_iff_ne]at hs;repeat' split at h
   all_goals (try simp only[beq_iff_eq]at *)
   all_goals first|omega|(cases h;done)
  rw[yor c h hk,yiv];have hg:=(y8q c h).1
  have hone:c.Kind=6\/c.Kind=7\/c.Kind=8->c.Group.length<=1:=by
   intro hq;unfold zdc at h;simp only[Bool.cond_eq_ite]at h;repeat' split at h
   all_goals (try simp only[Bool.and_eq_true,Bool.or_eq_true,beq_iff_eq,yzg,decide_eq_true_eq]at *)
   all_goals first|omega|(rcases h with h|h<;>omega)|(rw[h.2];simp)
  have e1:∀ n:Int,IntKind.wrap .i64 n=n\/True:=fun _=>.inr trivial
  unfold zdd;rcases hk with hk|hk|hk|hk|hk|hk
  ·rw[hk]
   cases decide (1<(c.Group.length:Int))<;>rfl
  ·rw[hk]
   cases decide (1<(c.Group.length:Int))<;>rfl
  ·rw[hk]
   cases decide (1<(c.Group.length:Int))<;>rfl
  ·have:=hone (by omega)
   rw[hk,decide_eq_false (show ¬ 1<(c.Group.length:Int)by omega)];rfl
  ·have:=hone (by omega)
   rw[hk,decide_eq_false (show ¬ 1<(c.Group.length:Int)by omega)];rfl
  ·have:=hone (by omega)
   rw[hk,decide_eq_false (show ¬ 1<(c.Group.length:Int)by omega)];rfl
theorem y6x (c:Character) (hl:c.Colors.length<9223372036854775808):zxd c=zg c:=by
 unfold zxd zg;rw[yns c hl, <- ymg]
 cases h1:zgc c.Colors with
 | false=>rfl
 | true=>
  cases h2:zdc c with
  | false=>rfl
  | true=>
   cases h3:zcc c with
   | true=>rfl
   | false=>
    rw[yjx c h2 h3];simp only[Bool.not_true,Bool.or_self,Bool.and_self,cond_false,zh,zd]
    cases h4:(c.Kind == 3)with
    | false=>
     have:(c.Kind != 3)=true:=by rw[bne,h4];rfl
     rw[this];simp
    | true=>
     have:(c.Kind != 3)=false:=by rw[bne,h4];rfl
     rw[this];simp only[Bool.false_or,Bool.true_and]
     cases h5:(c.Period.tmod 2 == 0)with
     | true=>
      have:(c.Period.tmod 2 != 0)=false:=by rw[bne,h5];rfl
      rw[this];simp
     | false=>
      have:(c.Period.tmod 2 != 0)=true:=by rw[bne,h5];rfl
      rw[this];simp
theorem yxd {c:Character} (h:zg c=true):zoc c=true:=by
 unfold zg at h
 cases hs:zoc c with
 | true=>rfl
 | false=>rw[hs]at h;simp at h
theorem yhg {c:Character} (h:zg c=true):c.Group.length<=4/\(∀ v∈c.Group,1<=v/\v<=9)/\(c.Kind=8->c.Letter.length=1/\65<=(c.Letter.getD 0 0).toNat/\(c.Letter.getD 0 0).toNat<=90):=yun c (yxd h)
theorem ylk {c:Character} (h:zg c=true) (hb:bdCharacter c) (k1:c.Kind≠1) (k3:c.Kind≠3):ze c=za c/\(ze c).length<=100:=by
 have hs:=yxd h
 have hk:zld c.Kind=true:=by
  unfold zoc at hs
  cases hk:zld c.Kind with
  | true=>rfl
  | false=>rw[hk]at hs;simp at hs
 have hr:1<=c.Kind/\c.Kind<=8:=by unfold zld zd at hk;simp at hk;omega
 rw[yns c (Nat.lt_of_lt_of_le hb.2.2 (by decide)),Bool.and_eq_true]at hs;have e:=yor c hs.2 (by omega);obtain⟨g1,g2,_⟩:=yhg h;exact⟨e,by rw[e];exact(yyg c g1 g2).1⟩
def yxn (a0:Character) (a1:(List UInt8)) (i1:Nat) (s1:List Phase):Except ((List Phase)) (List Phase):=
 (bif (((i1:Int).tmod 2) == 0)then .ok (s1++[{ Color:=[],Length:=((ze a0).getD i1 default):Phase }])else .ok (s1++[{ Color:=a1,Length:=((ze a0).getD i1 default):Phase }]))
def yfp (a0:Character) (a1:(List UInt8)) (i2:Nat) (s2:List Phase):Except ((List Phase)) (List Phase):=
 (bif (((i2:Int).tmod 2) == 0)then .ok (s2++[{ Color:=a1,Length:=((ze a0).getD i2 default):Phase }])else .ok (s2++[{ Color:=[],Length:=((ze a0).getD i2 default):Phase }]))
def zv (a0:Character) (a1:(List UInt8)):(List Phase):=
 (bif (a0.Kind == 2)then(bif (a0.Kind == 1)then[{ Color:=a1,Length:=10:Phase }]else(bif (a0.Kind == 3)then[{ Color:=a1,Length:=IntKind.wrap .i64 (a0.Period.tdiv 2):Phase },{ Color:=[],Length:=IntKind.wrap .i64 (a0.Period.tdiv 2):Phase }]else(bif (zcc a0)then[{ Color:=a1,Length:=(zl a0.Kind).1:Phase },{ Color:=[],Length:=(zl a0.Kind).2.1:Phase }]else(match ye (yxn a0 a1) (((ze a0).length)-0) 0 ([]:List Phase)with|.error e=>e|.ok s1=>s1++[{ Color:=a1,Length:=IntKind.wrap .i64 (a0.Period-(zbc (ze a0))):Phase }]))))else(bif (a0.Kind == 1)then[{ Color:=a1,Length:=10:Phase }]else(bif (a0.Kind == 3)then[{ Color:=a1,Length:=IntKind.wrap .i64 (a0.Period.tdiv 2):Phase },{ Color:=[],Length:=IntKind.wrap .i64 (a0.Period.tdiv 2):Phase }]else(bif (zcc a0)then[{ Color:=a1,Length:=(zl a0.Kind).1:Phase },{ Color:=[],Length:=(zl a0.Kind).2.1:Phase }]else(match ye (yfp a0 a1) (((ze a0).length)-0) 0 ([]:List Phase)with|.error e=>e|.ok s2=>s2++[{ Color:=[],Length:=IntKind.wrap .i64 (a0.Period-(zbc (ze a0))):Phase }])))))
namespace N74
theorem DD:DOk Tryz.prog (Go.Ab.DD [(100,dP D_zl),(101,dP D_zbc),(102,dP D_ze),(70,dP D_zcc)]):=yd y0p.e <| yd yds.e <| yd y0v.e <| yd yrm.e <| yj _
theorem dn:type_of% (And.intro @D_zl.eq_1 <| And.intro @D_zbc.eq_1 <| And.intro @D_ze.eq_1 <| @D_zcc.eq_1):=by and_intros<;>intros<;>rfl
theorem o0 {p:Prop} (h:p:=by(first|(exact Nat.le_refl _)|(with_reducible exact hp2.1)|(with_reducible exact hp2.2.1)|(with_reducible exact hp2.2.2)|(with_reducible exact hcg.1)|(with_reducible exact fun v hv=>(hcg.2.1 v hv).2)|(have h8:=hti (by assumption) (by assumption);have h9:=hW1;simp only[List.length_nil]at h9;omega)|(have h8:=hti (by assumption) (by assumption);have h9:=hW2;simp only[List.length_nil]at h9;omega)|(exact⟨hp2,hcg.1,fun v hv=>(hcg.2.1 v hv).2,hcg.2.2⟩)|(exact⟨hp2,hcg.1,fun v hv=>(hcg.2.1 v hv).2⟩));first|done|fail):p:=h
theorem o2 {p:Prop} (h:p:=by(first|((repeat' with_reducible apply And.intro)<;>first|(simp only[List.length_append,List.length_singleton];(first|done|fail))|(rw[IntKind.wrap_i64];omega)|(intro j hj;by_cases hji:j<s1.length;(focus(simp only[ysf hji,ywh hji,cond_true];first|(first|done|fail)|with_reducible rfl));(have e0:j-s1.length=0:=by omega);(simp only[ypf hji hj,ybj hji,cond_false,e0,elt,borrowL,borrow];first|(first|done|fail)|with_reducible rfl))|decide)|((repeat' with_reducible apply And.intro)<;>first|(simp only[List.length_append,List.length_singleton];(first|done|fail))|(rw[IntKind.wrap_i64];omega)|(intro j hj;by_cases hji:j<s2.length;(focus(simp only[ysf hji,ywh hji,cond_true];first|(first|done|fail)|with_reducible rfl));(have e0:j-s2.length=0:=by omega);(simp only[ypf hji hj,ybj hji,cond_false,e0,elt,borrowL,borrow];first|(first|done|fail)|with_reducible rfl))|decide));first|done|fail):p:=h
theorem o3 {p:Prop} (h:p:=by(first|(generalize zbc (ze a0)=zz;generalize IntKind.wrap .i64 (a0.Period-zz)=zy;exact cl));first|done|fail):p:=h
theorem lx {p:Prop} (h:p:=by(exact lxx);first|done|fail):p:=h
set_option maxHeartbeats 2000000 in
set_option maxRecDepth 20000 in
theorem den (a0:Character) (a1:(List UInt8)) (hp0:zg a0=true) (hp1:a1.length<=1) (hp2:bdCharacter a0):Den Tryz.prog 74 [.agg (eCharacter a0),.str a1] (ownL 112 2 yn (zv a0 a1)):=by
 generalize hR:zv a0 a1=r;unfold zv at hR;refine di Tryz.func74 Tryz.ntmps74 Tryz.results74 ?_;intro c hL hc hk;obtain⟨hL0,hL1,_⟩:=hL;have hw0:bwCharacter a0:=yf a0 hL0;have hw1:a1.length<9223372036854775808:=Nat.lt_succ_of_le hL1;clear hL0 hL1;simp only[pars,Nat.zero_add];have hcg:=yhg hp0;have hti:(a0.Kind == 1)=false->(a0.Kind == 3)=false->(ze a0).length<=100:=fun h1 h3=>(ylk hp0 hp2 (by simpa using h1) (by simpa using h3)).2
 iterate 3 refine rS ?_
 refine AWP.cond rfl (fun hb => ?_) (fun hb => ?_)
 ·replace hR:=ct hR
  iterate 3 refine rS ?_
  refine AWP.cond rfl (fun hb => ?_) (fun hb => ?_)
  ·replace hR:=ct hR
   refine rS ?_;refine AWP.ret ?_;subst hR;exact es
  ·replace hR:=cf hR
   refine rS ?_;refine AWP.cond rfl (fun hb => ?_) (fun hb => ?_)
   ·replace hR:=ct hR
    refine rS ?_;refine AWP.ret ?_;subst hR;exact es
   ·replace hR:=cf hR
    refine rS ?_;refine AWP.cond rfl (fun hb => ?_) (fun hb => ?_)
    ·replace hR:=ct hR
     iterate 2 refine rS ?_
     refine AWP.ret ?_;subst hR;exact es
    ·replace hR:=cf hR
     iterate 2 refine rS ?_
     refine AWP.block ?_;generalize hz1:ye (yxn a0 a1) (((ze a0).length)-0) 0 ([]:List Phase)=z1 at hR;refine AWP.range (yxn a0 a1) (fun i1 s1=>⟨[(2,.ptr 0 0),(5,.str []),(6,.str a1),(13,.ref 1 2 0 s1.length),(67,.ref 2 1 0 ((ze a0).length)),(68,.int .i64 ((ze a0).length:Int)),(69,.int .i64 (i1:Int))],[.box [.int .i64 a0.Kind,encL 1 yi a0.Group,.str a0.Letter,.str a0.Colors,.int .i64 a0.Period],.arr 112 2 s1.length (fun j=>yn (s1.getD j default)),.arr 2 1 (ze a0).length (fun j=>yi ((ze a0).getD j default))]⟩) (fun i1 s1=>s1.length<=([]:List Phase).length+1 * i1) (((ze a0).length)) 0 ([]:List Phase) [0,1,2] hz1 ot wt sm ?_;clear hz1;intro i1 s1 hi1 hW1 hz1;refine rS ?_;refine AWP.seq ?_;refine AWP.cond rfl (fun hb => ?_) (fun hb => ?_)
     ·have hlt1:i1<((ze a0).length):=ot
      rw[yg hlt1]at hz1;simp only[yxn]at hz1;iterate 2 refine rS ?_
      refine AWP.cond rfl (fun hb => ?_) (fun hb => ?_)
      ·simp only[hb,cond_true]at hz1
       iterate 2 refine rS ?_
       exact⟨_,[0,4,2],hlt1,wt,hz1,sm⟩
      ·simp only[hb,cond_false]at hz1
       iterate 2 refine rS ?_
       exact⟨_,[0,4,2],hlt1,wt,hz1,sm⟩
     ·obtain rfl:i1=((ze a0).length):=ot
      rw[yh (Nat.le_refl _)]at hz1;subst hz1;dsimp only at hR;refine AWP.exit ?_;refine yb ?_;refine AWP.seq ?_;refine AWP.regP mixed G_ok DD hc 11 [0,1,2,3,4] (.alt 5 [6,7,8] [0,1,2,3,6,7,8] (.alt 9 [] [0] (.alt 10 [] [] .leaf .stop) .stop) .stop) (by kernel_rfl) (by kernel_rfl) (by kernel_rfl) (fun K hK => ?_);simp only[yjj,runN,runP,yec,nthO,ea,absV,absVL,cput,gv,sv,dn,reduceCtorEq,reduceIte,Nat.reduceBEq,Nat.reduceAdd,Nat.reduceEqDiff,Nat.reduceLT,Nat.reduceLeDiff,Nat.reduceMul,Nat.reduceSub,BEq.rfl,beq_self_eq_true,Int.reduceToNat];repeat' apply And.intro
      all_goals first|refine hK _ ?_|exact ot
      all_goals clear hK K
      refine AWP.ret ?_;subst hR;exact es
 ·replace hR:=cf hR
  iterate 2 refine rS ?_
  refine AWP.cond rfl (fun hb => ?_) (fun hb => ?_)
  ·replace hR:=ct hR
   refine rS ?_;refine AWP.ret ?_;subst hR;exact es
  ·replace hR:=cf hR
   refine rS ?_;refine AWP.cond rfl (fun hb => ?_) (fun hb => ?_)
   ·replace hR:=ct hR
    refine rS ?_;refine AWP.ret ?_;subst hR;exact es
   ·replace hR:=cf hR
    refine rS ?_;refine AWP.cond rfl (fun hb => ?_) (fun hb => ?_)
    ·replace hR:=ct hR
     iterate 2 refine rS ?_
     refine AWP.ret ?_;subst hR;exact es
    ·replace hR:=cf hR
     iterate 2 refine rS ?_
     refine AWP.block ?_;generalize hz2:ye (yfp a0 a1) (((ze a0).length)-0) 0 ([]:List Phase)=z2 at hR;refine AWP.range (yfp a0 a1) (fun i2 s2=>⟨[(2,.ptr 0 0),(5,.str a1),(6,.str []),(13,.ref 1 2 0 s2.length),(67,.ref 2 1 0 ((ze a0).length)),(68,.int .i64 ((ze a0).length:Int)),(69,.int .i64 (i2:Int))],[.box [.int .i64 a0.Kind,encL 1 yi a0.Group,.str a0.Letter,.str a0.Colors,.int .i64 a0.Period],.arr 112 2 s2.length (fun j=>yn (s2.getD j default)),.arr 2 1 (ze a0).length (fun j=>yi ((ze a0).getD j default))]⟩) (fun i2 s2=>s2.length<=([]:List Phase).length+1 * i2) (((ze a0).length)) 0 ([]:List Phase) [0,1,2] hz2 ot wt sm ?_;clear hz2;intro i2 s2 hi2 hW2 hz2;refine rS ?_;refine AWP.seq ?_;refine AWP.cond rfl (fun hb => ?_) (fun hb => ?_)
     ·have hlt2:i2<((ze a0).length):=ot
      rw[yg hlt2]at hz2;simp only[yfp]at hz2;iterate 2 refine rS ?_
      refine AWP.cond rfl (fun hb => ?_) (fun hb => ?_)
      ·simp only[hb,cond_true]at hz2
       iterate 2 refine rS ?_
       exact⟨_,[0,4,2],hlt2,wt,hz2,sm⟩
      ·simp only[hb,cond_false]at hz2
       iterate 2 refine rS ?_
       exact⟨_,[0,4,2],hlt2,wt,hz2,sm⟩
     ·obtain rfl:i2=((ze a0).length):=ot
      rw[yh (Nat.le_refl _)]at hz2;subst hz2;dsimp only at hR;refine AWP.exit ?_;refine yb ?_;refine AWP.seq ?_;refine AWP.regP mixed G_ok DD hc 11 [0,1,2,3,4] (.alt 5 [6,7,8] [0,1,2,3,6,7,8] (.alt 9 [] [0] (.alt 10 [] [] .leaf .stop) .stop) .stop) (by kernel_rfl) (by kernel_rfl) (by kernel_rfl) (fun K hK => ?_);simp only[yjj,runN,runP,yec,nthO,ea,absV,absVL,cput,gv,sv,dn,reduceCtorEq,reduceIte,Nat.reduceBEq,Nat.reduceAdd,Nat.reduceEqDiff,Nat.reduceLT,Nat.reduceLeDiff,Nat.reduceMul,Nat.reduceSub,BEq.rfl,beq_self_eq_true,Int.reduceToNat];repeat' apply And.intro
      all_goals first|refine hK _ ?_|exact ot
      all_goals clear hK K
      refine AWP.ret ?_;subst hR;exact es
end N74
def D_zv : DF
 | [x0,x1]=>some (ownL 112 2 yn (zv (rdG ya x0) (rdS x1)),false,[wG eCharacter ya x0,wS x1,zg (rdG ya x0)=true,(rdS x1).length<=1,bdCharacter (rdG ya x0)])
 | _=>none
def Dz_zv : DF
 | [x0,x1]=>some (ownL 112 2 yn (zv (rdG ya x0) (rdS x1)),true,[wG eCharacter ya x0,wS x1,zg (rdG ya x0)=true,(rdS x1).length<=1,bdCharacter (rdG ya x0)])
 | _=>none
theorem y80:OkD Tryz.prog 74 D_zv:=by unfold D_zv;exact dk N74.den
theorem yoy:OkD Tryz.prog 74 Dz_zv:=by unfold Dz_zv;exact dk N74.den
def ysh (a0:Character) (a1:(List UInt8)) (i1:Nat) (s1:List Phase):Except ((List Phase)) (List Phase):=
 (bif (!((((i1:Int).tmod 2) == 1) == (a0.Kind == 2)))then .ok (s1++[{ Color:=[],Length:=(((za a0)++([(zu a0.Kind)]:List Int)).getD i1 default):Phase }])else .ok (s1++[{ Color:=a1,Length:=(((za a0)++([(zu a0.Kind)]:List Int)).getD i1 default):Phase }]))
def yxk (a0:Character) (a1:(List UInt8)) (i2:Nat) (s2:List Phase):Except ((List Phase)) (List Phase):=
 (bif (!((((i2:Int).tmod 2) == 1) == (a0.Kind == 2)))then .ok (s2++[{ Color:=[],Length:=(((za a0)++([IntKind.wrap .i64 (a0.Period-(zcb (za a0)))]:List Int)).getD i2 default):Phase }])else .ok (s2++[{ Color:=a1,Length:=(((za a0)++([IntKind.wrap .i64 (a0.Period-(zcb (za a0)))]:List Int)).getD i2 default):Phase }]))
def zf (a0:Character) (a1:(List UInt8)):(List Phase):=
 (bif (a0.Kind == 1)then[{ Color:=a1,Length:=10:Phase }]else(bif (a0.Kind == 3)then[{ Color:=a1,Length:=IntKind.wrap .i64 (a0.Period.tdiv 2):Phase },{ Color:=[],Length:=IntKind.wrap .i64 (a0.Period.tdiv 2):Phase }]else(bif (zhb a0)then(match ye (ysh a0 a1) (((za a0).length+1)-0) 0 ([]:List Phase)with|.error e=>e|.ok s1=>s1)else(match ye (yxk a0 a1) (((za a0).length+1)-0) 0 ([]:List Phase)with|.error e=>e|.ok s2=>s2))))
namespace N65
theorem DD:DOk Tryz.prog (Go.Ab.DD [(61,dP D_zhb),(89,dP D_zcb),(90,dP D_za),(93,dP D_zu)]):=yd yvm.e <| yd ylr.e <| yd ycw.e <| yd yhq.e <| yj _
theorem dn:type_of% (And.intro @D_zhb.eq_1 <| And.intro @D_zcb.eq_1 <| And.intro @D_za.eq_1 <| @D_zu.eq_1):=by and_intros<;>intros<;>rfl
theorem o0 {p:Prop} (h:p:=by(first|(exact⟨hp2,hcg.1,fun v hv=>(hcg.2.1 v hv).2,hcg.2.2⟩)|(exact⟨hp2,hcg.1,fun v hv=>(hcg.2.1 v hv).2⟩));first|done|fail):p:=h
theorem o2 {p:Prop} (h:p:=by(first|((repeat' with_reducible apply And.intro)<;>first|(simp only[List.length_append,List.length_singleton];(first|done|fail))|(rw[IntKind.wrap_i64];omega)|(intro j hj;by_cases hji:j<(za a0).length;(focus(simp only[ysf hji,ywh hji,cond_true];first|(first|done|fail)|with_reducible rfl));(have e0:j-(za a0).length=0:=by omega);(simp only[ypf hji hj,ybj hji,cond_false,e0,elt,borrowL,borrow];first|(first|done|fail)|with_reducible rfl))|decide)|((repeat' with_reducible apply And.intro)<;>first|(simp only[List.length_append,List.length_singleton];(first|done|fail))|(rw[IntKind.wrap_i64];omega)|(intro j hj;by_cases hji:j<s1.length;(focus(simp only[ysf hji,ywh hji,cond_true];first|(first|done|fail)|with_reducible rfl));(have e0:j-s1.length=0:=by omega);(simp only[ypf hji hj,ybj hji,cond_false,e0,elt,borrowL,borrow];first|(first|done|fail)|with_reducible rfl))|decide)|((repeat' with_reducible apply And.intro)<;>first|(simp only[List.length_append,List.length_singleton];(first|done|fail))|(rw[IntKind.wrap_i64];omega)|(intro j hj;by_cases hji:j<s2.length;(focus(simp only[ysf hji,ywh hji,cond_true];first|(first|done|fail)|with_reducible rfl));(have e0:j-s2.length=0:=by omega);(simp only[ypf hji hj,ybj hji,cond_false,e0,elt,borrowL,borrow];first|(first|done|fail)|with_reducible rfl))|decide));first|done|fail):p:=h
theorem lx {p:Prop} (h:p:=by(exact lxx);first|done|fail):p:=h
set_option maxHeartbeats 2000000 in
set_option maxRecDepth 20000 in
theorem den (a0:Character) (a1:(List UInt8)) (hp0:zg a0=true) (hp1:a1.length<=1) (hp2:bdCharacter a0):Den Tryz.prog 65 [.ep (eCharacter a0),.str a1] (ownL 112 2 yn (zf a0 a1)):=by
 generalize hR:zf a0 a1=r;unfold zf at hR;refine di Tryz.func65 Tryz.ntmps65 Tryz.results65 ?_;intro c hL hc hk;obtain⟨hL0,hL1,_⟩:=hL;have hw0:bwCharacter a0:=yf a0 hL0;have hw1:a1.length<9223372036854775808:=Nat.lt_succ_of_le hL1;clear hL0 hL1;simp only[pars,Nat.zero_add];have hcg:=yhg hp0;have htm:=(yyg a0 hcg.1 hcg.2.1).1;iterate 2 refine rS ?_
 refine AWP.cond rfl (fun hb => ?_) (fun hb => ?_)
 ·replace hR:=ct hR
  refine rS ?_;refine AWP.ret ?_;subst hR;exact es
 ·replace hR:=cf hR
  refine rS ?_;refine AWP.cond rfl (fun hb => ?_) (fun hb => ?_)
  ·replace hR:=ct hR
   refine AWP.seq ?_;refine AWP.regP mixed G_ok DD hc 14 [0,1,2,3,4,5,6,7,8,9,10,11,12] (.alt 13 [] [1,2,7,8] .leaf .stop) (by kernel_rfl) (by kernel_rfl) (by kernel_rfl) (fun K hK => ?_);simp only[yjj,runN,runP,yec,nthO,ea,absV,absVL,cput,gv,sv,dn,reduceCtorEq,reduceIte,Nat.reduceBEq,Nat.reduceAdd,Nat.reduceEqDiff,Nat.reduceLT,Nat.reduceLeDiff,Nat.reduceMul,Nat.reduceSub,BEq.rfl,beq_self_eq_true,Int.reduceToNat];repeat' apply And.intro
   all_goals first|refine hK _ ?_|exact ot
   all_goals clear hK K
   refine AWP.ret ?_;subst hR;exact es
  ·replace hR:=cf hR
   refine rS ?_;refine rD 6 ?_;refine rS ?_;refine AWP.cond rfl (fun hb => ?_) (fun hb => ?_)
   ·replace hR:=ct hR
    iterate 4 refine rS ?_
    refine AWP.block ?_;generalize hz1:ye (ysh a0 a1) (((za a0).length+1)-0) 0 ([]:List Phase)=z1 at hR;refine AWP.range (ysh a0 a1) (fun i1 s1=>⟨[(0,.ep (eCharacter a0)),(1,.str a1),(5,.ref 0 1 0 ((za a0).length+1)),(7,.ref 1 2 0 s1.length),(8,.int .i64 (i1:Int))],[.arr 2 1 ((za a0)++([(zu a0.Kind)]:List Int)).length (fun j=>yi (((za a0)++([(zu a0.Kind)]:List Int)).getD j default)),.arr 112 2 s1.length (fun j=>yn (s1.getD j default))]⟩) (fun i1 s1=>s1.length<=([]:List Phase).length+1 * i1) (((za a0).length+1)) 0 ([]:List Phase) [2,3] hz1 ot wt sm ?_;clear hz1;intro i1 s1 hi1 hW1 hz1;refine rS ?_;refine AWP.cond rfl (fun hb => ?_) (fun hb => ?_)
    ·have hlt1:i1<((za a0).length+1):=ot
     rw[yg hlt1]at hz1;simp only[ysh]at hz1;iterate 2 refine rS ?_
     refine AWP.cond rfl (fun hb => ?_) (fun hb => ?_)
     ·simp only[hb,cond_true]at hz1
      iterate 3 refine rS ?_
      exact⟨_,[0,3],hlt1,wt,hz1,sm⟩
     ·simp only[hb,cond_false]at hz1
      iterate 2 refine rS ?_
      exact⟨_,[0,3],hlt1,wt,hz1,sm⟩
    ·obtain rfl:i1=((za a0).length+1):=ot
     rw[yh (Nat.le_refl _)]at hz1;subst hz1;dsimp only at hR;refine AWP.exit ?_;refine yb ?_;refine rS ?_;refine AWP.ret ?_;subst hR;exact es
   ·replace hR:=cf hR
    iterate 3 refine rS ?_
    refine AWP.block ?_;generalize hz2:ye (yxk a0 a1) (((za a0).length+1)-0) 0 ([]:List Phase)=z2 at hR;refine AWP.range (yxk a0 a1) (fun i2 s2=>⟨[(0,.ep (eCharacter a0)),(1,.str a1),(5,.ref 0 1 0 ((za a0).length+1)),(7,.ref 1 2 0 s2.length),(8,.int .i64 (i2:Int))],[.arr 2 1 ((za a0)++([IntKind.wrap .i64 (a0.Period-(zcb (za a0)))]:List Int)).length (fun j=>yi (((za a0)++([IntKind.wrap .i64 (a0.Period-(zcb (za a0)))]:List Int)).getD j default)),.arr 112 2 s2.length (fun j=>yn (s2.getD j default))]⟩) (fun i2 s2=>s2.length<=([]:List Phase).length+1 * i2) (((za a0).length+1)) 0 ([]:List Phase) [2,3] hz2 ot wt sm ?_;clear hz2;intro i2 s2 hi2 hW2 hz2;refine rS ?_;refine AWP.cond rfl (fun hb => ?_) (fun hb => ?_)
    ·have hlt2:i2<((za a0).length+1):=ot
     rw[yg hlt2]at hz2;simp only[yxk]at hz2;iterate 2 refine rS ?_
     refine AWP.cond rfl (fun hb => ?_) (fun hb => ?_)
     ·simp only[hb,cond_true]at hz2
      iterate 3 refine rS ?_
      exact⟨_,[0,3],hlt2,wt,hz2,sm⟩
     ·simp only[hb,cond_false]at hz2
      iterate 2 refine rS ?_
      exact⟨_,[0,3],hlt2,wt,hz2,sm⟩
    ·obtain rfl:i2=((za a0).length+1):=ot
     rw[yh (Nat.le_refl _)]at hz2;subst hz2;dsimp only at hR;refine AWP.exit ?_;refine yb ?_;refine rS ?_;refine AWP.ret ?_;subst hR;exact es
end N65
def D_zf : DF
 | [x0,x1]=>some (ownL 112 2 yn (zf (rdP ya x0) (rdS x1)),false,[wP eCharacter ya x0,wS x1,zg (rdP ya x0)=true,(rdS x1).length<=1,bdCharacter (rdP ya x0)])
 | _=>none
theorem yl0:OkD Tryz.prog 65 D_zf:=by unfold D_zf;exact dk N65.den
theorem y4y (c:Character):8<=zdd c/\zdd c<=45:=by
 have hg:=yxi c.Kind;unfold zdd;have e1:IntKind.wrap .i64 (zu c.Kind+5)=zu c.Kind+5:=by rw[IntKind.wrap_i64];omega
 have e2:IntKind.wrap .i64 (zu c.Kind+5+20)=zu c.Kind+25:=by rw[IntKind.wrap_i64];omega
 rw[e1,e2];simp only[Bool.cond_eq_ite]
 (repeat' split)<;>omega
theorem ydu {c:Character} (h:zg c=true) (h3:(c.Kind == 3)=false) (hs:zhb c=false):8<=IntKind.wrap .i64 (c.Period-zcb (za c))/\IntKind.wrap .i64 (c.Period-zcb (za c))<=600:=by
 obtain⟨g1,g2,_⟩:=yhg h;have ht:=yyg c g1 g2;obtain⟨t1,t2,t3⟩:=ywx ht (by decide);have hl:=ht.1;have hr:=y4y c;unfold zg at h;rw[yxd (by unfold zg;exact h),hs,h3]at h;unfold zmd at h;rw[hs,h3]at h;simp only[Bool.not_true,cond_false,Bool.false_and]at h;rw[show IntKind.wrap .i64 (zcb (za c)+zdd c)=zcb (za c)+zdd c by rw[IntKind.wrap_i64];omega]at h;unfold zd at h;simp only[Bool.and_eq_true,decide_eq_true_eq]at h;rw[IntKind.wrap_i64];omega
theorem yyz {c:Character} (h:zg c=true) (h3:(c.Kind == 3)=true):10<=IntKind.wrap .i64 (c.Period.tdiv 2)/\IntKind.wrap .i64 (c.Period.tdiv 2)<=300:=by
 have hk:c.Kind=3:=by simpa using h3
 have hs:zhb c=false:=by unfold zhb;rw[hk];rfl
 unfold zg at h;rw[yxd (by unfold zg;exact h),hs]at h;unfold zmd at h;rw[hs,h3]at h
 have h9:zd c.Period 20 600=true:=by
  simp only[Bool.not_true,cond_false,cond_true,Bool.true_and]at h
  cases hm:(c.Period.tmod 2 != 0)with
  | true=>rw[hm]at h;cases h
  | false=>rw[hm]at h;exact h
 unfold zd at h9;simp only[Bool.and_eq_true,decide_eq_true_eq]at h9;rw[Int.tdiv_eq_ediv_of_nonneg (by omega),IntKind.wrap_i64];omega
def PhA (l:List Phase) (n:Nat):Prop:=l.length=n/\∀ v∈l,1<=v.Length/\v.Length<=1000/\v.Color.length<=1
theorem PhA.nil:PhA [] 0:=⟨rfl,fun v h=>by cases h⟩
theorem PhA.snoc {l:List Phase} {n:Nat} {c:List UInt8} {x:Int} (h:PhA l n) (hc:c.length<=1) (h1:1<=x) (h2:x<=1000):PhA (l++[{ Color:=c,Length:=x }]) (n+1):=by
 refine⟨by rw[List.length_append,List.length_singleton,h.1],fun v hv => ?_⟩;rcases List.mem_append.1 hv with hv|hv
 ·exact h.2 v hv
 ·rw[List.mem_singleton]at hv;subst hv;exact⟨h1,h2,hc⟩
theorem PhA.ok {l:List Phase} {n:Nat} (h:PhA l n) (h1:1<=n) (h2:n<=1000):PhOk l:=⟨by rw[h.1];exact h1,by rw[h.1];exact h2,h.2⟩
theorem y0i {ρ:Type} (l:List Int) (hl:∀ v∈l,1<=v/\v<=1000) (b:Nat->List Phase->Except ρ (List Phase)) (hb:∀ i s,∃ c:List UInt8,c.length<=1/\b i s=.ok (s++[{ Color:=c,Length:=l.getD i default }])) (n:Nat) (hn:n=l.length):∃ t,ye b (n-0) 0 []=.ok t/\PhA t n:=by
  obtain⟨t,h1,h2⟩:=ym (b:=b) (fun j s=>PhA s j) (k:=n-0) (i:=0) (s:=[]) PhA.nil (by
    intro j s _ hj hs;obtain⟨c,hc,e⟩:=hb j s;have hx:=hl _ (yz (l:=l) (i:=j) (by omega))
    exact⟨_,e,hs.snoc hc hx.1 hx.2⟩)
  exact ⟨t, h1, by have e : 0 + (n - 0) = n := by omega
                   rw[e]at h2;exact h2⟩
theorem yhc {c:Character} {col:List UInt8} (h:zg c=true) (hc:col.length<=1):PhOk (zf c col):=by
 obtain⟨g1,g2,_⟩:=yhg h;have ht:=yyg c g1 g2;have hg:=yxi c.Kind;have hl:=ht.1;unfold zf
 cases h1:(c.Kind == 1)with
 | true=>exact(PhA.nil.snoc (x:=10) hc (by decide) (by decide)).ok (by decide) (by decide)
 | false=>
  cases h3:(c.Kind == 3)with
  | true=>
   obtain⟨i1,i2⟩:=yyz h h3;exact((PhA.nil.snoc hc (by omega) (by omega)).snoc (c:=[]) (by simp) (by omega) (by omega)).ok (by decide) (by decide)
  | false=>
   have hm:∀ x:Int,1<=x->x<=1000->∀ v∈za c++([x]:List Int),1<=v/\v<=1000:=fun x a1 a2 v hv=>by
    rcases List.mem_append.1 hv with hv|hv
    ·have:=ht.2 v hv;omega
    ·rw[List.mem_singleton]at hv;subst hv;exact⟨a1,a2⟩
   rw[cond_false,cond_false]
   cases hs:zhb c with
   | true=>
    rw[cond_true]
    obtain⟨t,e1,e2⟩:=y0i (za c++([zu c.Kind]:List Int)) (hm _ (by omega) (by omega)) (ysh c col) (fun i s=>by
     unfold ysh
     cases(!((((i:Int).tmod 2) == 1) == (c.Kind == 2)))with
     | true=>exact⟨[],by simp,rfl⟩
     | false=>exact⟨col,hc,rfl⟩) ((za c).length+1) (by simp)
    rw[e1];exact e2.ok (by omega) (by omega)
   | false=>
    rw[cond_false];obtain⟨r1,r2⟩:=ydu h h3 hs
    obtain⟨t,e1,e2⟩:=y0i (za c++([IntKind.wrap .i64 (c.Period-zcb (za c))]:List Int)) (hm _ (by omega) (by omega)) (yxk c col) (fun i s=>by
     unfold yxk
     cases(!((((i:Int).tmod 2) == 1) == (c.Kind == 2)))with
     | true=>exact⟨[],by simp,rfl⟩
     | false=>exact⟨col,hc,rfl⟩) ((za c).length+1) (by simp)
    rw[e1];exact e2.ok (by omega) (by omega)
theorem yel {c:Character} {col:List UInt8} (h:zg c=true) (hb:bdCharacter c) (hc:col.length<=1):PhOk (zv c col):=by
 obtain⟨g1,g2,_⟩:=yhg h;have ht:=yyg c g1 g2;have hl:=ht.1;unfold zv
 cases h1:(c.Kind == 1)with
 | true=>
  have:=(PhA.nil.snoc (c:=col) (x:=10) hc (by decide) (by decide)).ok (by decide) (by decide);cases(c.Kind == 2)<;>exact this
 | false=>
  cases h3:(c.Kind == 3)with
  | true=>
   obtain⟨i1,i2⟩:=yyz h h3;have:=((PhA.nil.snoc (c:=col) hc (show 1<=IntKind.wrap .i64 (c.Period.tdiv 2)by omega) (by omega)).snoc (c:=[]) (x:=IntKind.wrap .i64 (c.Period.tdiv 2)) (by simp) (by omega) (by omega)).ok (by decide) (by decide);cases(c.Kind == 2)<;>exact this
  | false=>
   simp only[cond_false];rw[ymg]
   cases hs:zhb c with
   | true=>
    have hk:c.Kind=6\/c.Kind=7:=by
     unfold zhb at hs;rw[h1]at hs;simp at hs;omega
    have hr:=ywj c.Kind (by omega);have hf:=y4l c.Kind;have hg:=yxi c.Kind;have:=((PhA.nil.snoc (c:=col) (x:=(zl c.Kind).1) hc (by omega) (by omega)).snoc (c:=[]) (x:=(zl c.Kind).2.1) (by simp) (by omega) (by omega)).ok (by decide) (by decide);cases(c.Kind == 2)<;>exact this
   | false=>
    have he:=(ylk h hb (by simpa using h1) (by simpa using h3)).1;obtain⟨r1,r2⟩:=ydu h h3 hs;rw[yiv,he];have hm:∀ v∈za c,1<=v/\v<=1000:=fun v hv=>by have:=ht.2 v hv;omega
    cases(c.Kind == 2)with
    | true=>
     obtain⟨t,e1,e2⟩:=y0i (za c) hm (yxn c col) (fun i s=>by
      unfold yxn;rw[he]
      cases(((i:Int).tmod 2) == 0)with
      | true=>exact⟨[],by simp,rfl⟩
      | false=>exact⟨col,hc,rfl⟩) (za c).length rfl
     simp only[cond_false,cond_true,e1];exact(e2.snoc hc (by omega) (by omega)).ok (by omega) (by omega)
    | false=>
     obtain⟨t,e1,e2⟩:=y0i (za c) hm (yfp c col) (fun i s=>by
      unfold yfp;rw[he]
      cases(((i:Int).tmod 2) == 0)with
      | true=>exact⟨col,hc,rfl⟩
      | false=>exact⟨[],by simp,rfl⟩) (za c).length rfl
     simp only[cond_false,e1];exact(e2.snoc (c:=[]) (by simp) (by omega) (by omega)).ok (by omega) (by omega)
theorem y5s {s:List UInt8} (h:zwb s=true):(∀ b∈s,b=87\/b=82\/b=71\/b=89)/\s.length<=3:=by
 unfold zwb at h;rcases yu (b:=ypk s) (fun i=>((ztc ((s.getD i 0).toNat:Int)) == 0) || (decide (0<(i:Int)) && decide ((ztc ((s.getD i 0).toNat:Int))<=(ztc ((s.getD ((IntKind.wrap .i64 ((i:Int)-1)).toNat) 0).toNat:Int))))) (fun _=>false) (k:=s.length-0) (i:=0) (s:=()) (fun j u _ _=>rfl)with⟨j,_,_,_,_,h5⟩|⟨h1,h2⟩
 ·rw[h5]at h;cases h
 ·rw[h2]at h
  refine⟨fun b hb => ?_,by simp only[Bool.and_eq_true,decide_eq_true_eq]at h;omega⟩;obtain⟨i,hi,rfl⟩:=List.getElem_of_mem hb;have h3:=h1 i (by omega) (by omega);rw[Bool.or_eq_false_iff]at h3;have h4:=h3.1;rw[List.getD_eq_getElem?_getD,List.getElem?_eq_getElem hi]at h4;simp only[Option.getD_some]at h4;unfold ztc at h4;generalize s[i]=b at h4 ⊢;have hb9:∀ n:Nat,n<256->b.toNat=n->b=UInt8.ofNat n:=fun n hn e=>by rw[<- e];simp
  by_cases e1:b.toNat=87
  ·exact .inl (hb9 87 (by decide) e1)
  ·by_cases e2:b.toNat=82
   ·exact .inr (.inl (hb9 82 (by decide) e2))
   ·by_cases e3:b.toNat=71
    ·exact .inr (.inr (.inl (hb9 71 (by decide) e3)))
    ·by_cases e4:b.toNat=89
     ·exact .inr (.inr (.inr (hb9 89 (by decide) e4)))
     ·exfalso
      rw[show((b.toNat:Int) == 87)=false by rw[beq_eq_false_iff_ne];omega,show((b.toNat:Int) == 82)=false by rw[beq_eq_false_iff_ne];omega,show((b.toNat:Int) == 71)=false by rw[beq_eq_false_iff_ne];omega,show((b.toNat:Int) == 89)=false by rw[beq_eq_false_iff_ne];omega]at h4;simp at h4
theorem yrh {c:Character} (h:zg c=true):(∀ b∈c.Colors,b=87\/b=82\/b=71\/b=89)/\c.Colors.length<=3:=by
 refine y5s ?_;have hs:=yxd h;unfold zoc at hs
 cases hc:zwb c.Colors with
 | true=>rfl
 | false=>rw[hc]at hs;simp at hs
theorem ylv {c:Character} (h:zg c=true):∀ x∈c.Colors,x.toNat<128:=fun x hx=>by
 rcases(yrh h).1 x hx with rfl|rfl|rfl|rfl<;>decide
def ygi (a0:Character) (a1:Character) (a2:Int) (i1:Nat) (s1:Unit):Except (Bool) (Unit):=
 (bif ((zjd a1.Colors ((a0.Colors.take ((IntKind.wrap .i64 ((i1:Int)+1)).toNat)).drop i1)) && (ztb (zv a0 ((a0.Colors.take ((IntKind.wrap .i64 ((i1:Int)+1)).toNat)).drop i1)) (zv a1 ((a0.Colors.take ((IntKind.wrap .i64 ((i1:Int)+1)).toNat)).drop i1)) a2))then .error true else .ok ())
def zqb (a0:Character) (a1:Character) (a2:Int):Bool:=
 (match ye (ygi a0 a1 a2) (a0.Colors.length-0) 0 ()with|.error e=>e|.ok s1=>false)
namespace N56
theorem DD:DOk Tryz.prog (Go.Ab.DD [(72,dP D_zjd),(73,dP D_ztb),(74,dP D_zv)]):=yd yis.e <| yd yos.e <| yd y80.e <| yj _
theorem DZ:DOk Tryz.prog (Go.Ab.DD [(72,dP D_zjd),(73,dP D_ztb),(74,dP Dz_zv)]):=yd yis.e <| yd yos.e <| yd yoy.e <| yj _
theorem dn:type_of% (And.intro @D_zjd.eq_1 <| And.intro @D_ztb.eq_1 <| And.intro @D_zv.eq_1 <| @Dz_zv.eq_1):=by and_intros<;>intros<;>rfl
theorem o0 {p:Prop} (h:p:=by(first|(with_reducible exact hasc)|((repeat' with_reducible apply And.intro)<;>first|with_reducible exact hp0|with_reducible exact hp1|with_reducible exact hp2|with_reducible exact hp3|with_reducible exact Nat.le_refl _|with_reducible exact hcl i1|with_reducible exact hc1|with_reducible exact hc2|with_reducible exact hpa|with_reducible exact hpb|omega|(rw[IntKind.wrap_i64];omega)));first|done|fail):p:=h
set_option maxHeartbeats 2000000 in
set_option maxRecDepth 20000 in
theorem den (a0:Character) (a1:Character) (a2:Int) (hp0:zg a0=true) (hp1:zg a1=true) (hp2:bdCharacter a0) (hp3:bdCharacter a1):Den Tryz.prog 56 [.agg (eCharacter a0),.agg (eCharacter a1),.int .i64 a2] (.bool (zqb a0 a1 a2)):=by
 generalize hR:zqb a0 a1 a2=r;unfold zqb at hR;refine di Tryz.func56 Tryz.ntmps56 Tryz.results56 ?_;intro c hL hc hk;obtain⟨hL0,hL1,hL2,_⟩:=hL;have hw0:bwCharacter a0:=yf a0 hL0;have hw1:bwCharacter a1:=yf a1 hL1;clear hL0 hL1 hL2;simp only[pars,Nat.zero_add];have hcl:=fun(i:Nat)=>ywu (l:=a0.Colors) hp2.2.2 i
 have hsa:=fun(col:List UInt8) (h:col.length<=1)=>yel (col:=col) hp0 hp2 h
 have hsb:=fun(col:List UInt8) (h:col.length<=1)=>yel (col:=col) hp1 hp3 h
 have hasc:=ylv hp0;iterate 2 refine rS ?_
 refine AWP.block ?_;refine AWP.lensT 10 rfl (fun hLn1 => ?_);generalize hz1:ye (ygi a0 a1 a2) (a0.Colors.length-0) 0 ()=z1 at hR;refine AWP.range (ygi a0 a1 a2) (fun i1 s1=>⟨[(2,.int .i64 a2),(3,.ptr 0 0),(4,.ptr 1 0),(11,.ptr 2 0)],[.box [.int .i64 a0.Kind,encL 1 yi a0.Group,.str a0.Letter,.str a0.Colors,.int .i64 a0.Period],.box [.int .i64 a1.Kind,encL 1 yi a1.Group,.str a1.Letter,.str a1.Colors,.int .i64 a1.Period],.it a0.Colors i1 (decide (i1<a0.Colors.length))]⟩) (fun i1 s1=>True) (a0.Colors.length) 0 () [0,1,2] hz1 ot wt sm ?_;clear hz1;intro i1 s1 hi1 hW1 hz1;refine AWP.seq ?_;by_cases hlt1:i1<a0.Colors.length
 ·rw[yg hlt1]at hz1;simp only[ygi]at hz1
  rw[decide_eq_true hlt1];refine rS ?_;refine AWP.seq ?_;refine AWP.cond rfl (fun hb => ?_) (fun hb=>nomatch hb);iterate 2 refine rS ?_
  have hc1:=hcl i1;have hc2:((a0.Colors.take ((IntKind.wrap .i64 ((i1:Int)+1)).toNat)).drop i1).length=1:=by rw[List.length_drop,List.length_take,show(IntKind.wrap .i64 ((i1:Int)+1)).toNat=i1+1 by rw[IntKind.wrap_i64];omega];omega
  generalize ((a0.Colors.take ((IntKind.wrap .i64 ((i1:Int)+1)).toNat)).drop i1)=col at hz1 hc1 hc2 ⊢;have hpa:=hsa _ hc1;have hpb:=hsb _ hc1;clear hcl hsa hsb;refine rZ 12 ?_;refine AWP.cond rfl (fun hb => ?_) (fun hb => ?_)
  ·simp only[hb,cond_true]at hz1
   refine rS ?_;refine AWP.ret ?_;subst hz1;dsimp only at hR;subst hR;exact es
  ·simp only[hb,cond_false]at hz1
   refine AWP.skip ?_;exact⟨_,[0,1,2],hlt1,wt,hz1,sm⟩
 ·obtain rfl:i1=a0.Colors.length:=by omega
  rw[yh (Nat.le_refl _)]at hz1;subst hz1;dsimp only at hR;simp only[Nat.lt_irrefl,decide_false];refine rS ?_;refine AWP.seq ?_;refine AWP.cond rfl (fun hb=>nomatch hb) (fun hb => ?_);refine AWP.exit ?_;refine yb ?_;refine rS ?_;refine AWP.ret ?_;subst hR;exact es
end N56
def D_zqb : DF
 | [x0,x1,x2]=>some (.bool (zqb (rdG ya x0) (rdG ya x1) (rdI x2)),false,[wG eCharacter ya x0,wG eCharacter ya x1,wI .i64 x2,zg (rdG ya x0)=true,zg (rdG ya x1)=true,bdCharacter (rdG ya x0),bdCharacter (rdG ya x1)])
 | _=>none
theorem yex:OkD Tryz.prog 56 D_zqb:=by unfold D_zqb;exact dk N56.den
def y5t (a0:(List Character)) (a1:Int) (i1:Nat) (s1:List (List Int)) (i2:Nat) (s2:List (List Int)):Except ((List (List Int))) (List (List Int)):=
 (bif (zqb (a0.getD i1 default) (a0.getD i2 default) a1)then .ok (s2++[([(i1:Int),(i2:Int)]:List Int)])else .ok s2)
def yzu (a0:(List Character)) (a1:Int) (i1:Nat) (s1:List (List Int)):Except ((List (List Int))) (List (List Int)):=
 (match ye (y5t a0 a1 i1 s1) (a0.length-(IntKind.wrap .i64 ((i1:Int)+1)).toNat) ((IntKind.wrap .i64 ((i1:Int)+1)).toNat) s1 with|.error e=>.error e|.ok s2=>.ok s2)
def zr (a0:(List Character)) (a1:Int):(List (List Int)):=
 (match ye (yzu a0 a1) (a0.length-0) 0 ([]:List (List Int))with|.error e=>e|.ok s1=>s1)
namespace N44
theorem DD:DOk Tryz.prog (Go.Ab.DD [(56,dP D_zqb)]):=yd yex.e <| yj _
theorem dn:type_of% (@D_zqb.eq_1):=by and_intros<;>intros<;>rfl
theorem o1 {p:Prop} (h:p:=by(first|(first|exact(hat _ (by first|assumption|omega)).1|exact(hat _ (by first|assumption|omega)).2)|(have h9:=hW2;omega)|(have h9:=hW1;omega));first|done|fail):p:=h
theorem lx {p:Prop} (h:p:=by(exact lxx);first|done|fail):p:=h
set_option maxHeartbeats 2000000 in
set_option maxRecDepth 20000 in
theorem den (a0:(List Character)) (a1:Int) (hp0:a0.length<=12) (hp1:∀ v∈a0,zg v=true/\bdCharacter v):Den Tryz.prog 44 [encL 5 eCharacter a0,.int .i64 a1] (ownL 26 1 yw (zr a0 a1)):=by
 generalize hR:zr a0 a1=r;unfold zr at hR;refine di Tryz.func44 Tryz.ntmps44 Tryz.results44 ?_;intro c hL hc hk;obtain⟨hL0,hL1,_⟩:=hL;have hw0:a0.length<9223372036854775808:=Nat.lt_succ_of_le (yc hL0).1;have hw1:∀ v∈a0,bwCharacter v:=fun v hv=>yf v ((yc hL0).2 v hv)
 clear hL0 hL1;simp only[pars,Nat.zero_add];have hat:=fun(i:Nat) (h:i<a0.length)=>hp1 _ (yz h)
 iterate 3 refine rS ?_
 refine AWP.block ?_;generalize hz1:ye (yzu a0 a1) (a0.length-0) 0 ([]:List (List Int))=z1 at hR;refine AWP.range (yzu a0 a1) (fun i1 s1=>⟨[(0,encL 5 eCharacter a0),(1,.int .i64 a1),(5,.ref 0 1 0 s1.length),(10,encL 5 eCharacter a0),(11,.int .i64 (a0.length:Int)),(12,.int .i64 (i1:Int))],[.arr 26 1 s1.length (fun j=>yw (s1.getD j default))]⟩) (fun i1 s1=>s1.length<=12 * i1) (a0.length) 0 ([]:List (List Int)) [0] hz1 ot (by(exact Nat.le_refl _)) sm ?_;clear hz1;intro i1 s1 hi1 hW1 hz1;refine rS ?_;refine AWP.seq ?_;refine AWP.cond rfl (fun hb => ?_) (fun hb => ?_)
 ·have hlt1:i1<a0.length:=ot
  rw[yg hlt1]at hz1;simp only[yzu]at hz1;iterate 2 refine rS ?_
  refine AWP.block ?_;generalize hz2:ye (y5t a0 a1 i1 s1) (a0.length-(IntKind.wrap .i64 ((i1:Int)+1)).toNat) ((IntKind.wrap .i64 ((i1:Int)+1)).toNat) s1=z2 at hz1;refine AWP.range (y5t a0 a1 i1 s1) (fun i2 s2=>⟨[(0,encL 5 eCharacter a0),(1,.int .i64 a1),(5,.ref 0 1 0 s2.length),(6,.int .i64 (i1:Int)),(7,.ptr 1 0),(8,.int .i64 (i2:Int)),(10,encL 5 eCharacter a0),(11,.int .i64 (a0.length:Int)),(12,.int .i64 (i1:Int))],[.arr 26 1 s2.length (fun j=>yw (s2.getD j default)),.box [.int .i64 ((a0.getD i1 default).Kind),encL 1 yi ((a0.getD i1 default).Group),.str ((a0.getD i1 default).Letter),.str ((a0.getD i1 default).Colors),.int .i64 ((a0.getD i1 default).Period)]]⟩) (fun i2 s2=>((IntKind.wrap .i64 ((i1:Int)+1)).toNat)<=i2/\s2.length<=s1.length+1 * i2/\s2.length<=12 * i1+i2) (a0.length) ((IntKind.wrap .i64 ((i1:Int)+1)).toNat) s1 [0,1] hz2 ot (by(have h9:=hW1;omega)) sm ?_;clear hz2;intro i2 s2 hi2 hW2 hz2;refine rS ?_;refine AWP.cond rfl (fun hb => ?_) (fun hb => ?_)
  ·have hlt2:i2<a0.length:=ot
   rw[yg hlt2]at hz2;simp only[y5t]at hz2;refine rD 6 ?_;refine AWP.cond rfl (fun hb => ?_) (fun hb => ?_)
   ·simp only[hb,cond_true]at hz2
    refine rS ?_;refine AWP.arrS 4 (fun j=>yw ((s2++[([(i1:Int),(i2:Int)]:List Int)]).getD j default)) rfl (fun j hj => ?_) ?_
    ·by_cases hji:j<s2.length
     ·simp only[joinF,ysf hji,ywh hji,cond_true];exact yp _
     ·have e0:j-s2.length=0:=by omega
      simp only[joinF,ypf hji hj,ybj hji,cond_false,e0,elt,borrowL,borrow];refine⟨⟨rfl,rfl,rfl,fun q hq => ?_⟩,trivial⟩;rcases q with _|_|q
      ·exact⟨⟨rfl,rfl⟩,trivial⟩
      ·exact⟨⟨rfl,rfl⟩,trivial⟩
      ·omega
    simp only[setE];refine rS ?_;exact⟨_,[4,1],hlt2,by(have h9:=hW2;first|omega|(simp only[List.length_append,List.length_singleton];omega)),hz2,sm⟩
   ·simp only[hb,cond_false]at hz2
    refine rS ?_;exact⟨_,[0,1],hlt2,by(have h9:=hW2;first|omega|(simp only[List.length_append,List.length_singleton];omega)),hz2,sm⟩
  ·obtain rfl:i2=a0.length:=ot
   rw[yh (Nat.le_refl _)]at hz2;subst hz2;dsimp only at hz1;refine AWP.exit ?_;refine yb ?_;refine rS ?_;exact⟨_,[0],hlt1,by(have h9:=hW2;omega),hz1,sm⟩
 ·obtain rfl:i1=a0.length:=ot
  rw[yh (Nat.le_refl _)]at hz1;subst hz1;dsimp only at hR;refine AWP.exit ?_;refine yb ?_;refine rS ?_;refine AWP.ret ?_;subst hR;exact es
end N44
def D_zr : DF
 | [x0,x1]=>some (ownL 26 1 yw (zr (rdL ya x0) (rdI x1)),false,[wL 5 eCharacter ya x0,wI .i64 x1,(rdL ya x0).length<=12,∀ v∈(rdL ya x0),zg v=true/\bdCharacter v])
 | _=>none
theorem yc1:OkD Tryz.prog 44 D_zr:=by unfold D_zr;exact dk N44.den
theorem y2d {ρ α : Type} (g : Nat -> List α) {b : Nat -> List α -> Except ρ (List α)} : ∀ (k i : Nat) (s : List α), (∀ j s, i <= j -> j < i + k -> b j s = .ok (s ++ g j)) -> ye b k i s = .ok (s ++ (List.range' i k).flatMap g)
 | 0,i,s,hb=>by simp[ye]
 | k+1,i,s,hb=>by
  simp only[ye,hb i s (Nat.le_refl _) (by omega)];rw[y2d g k (i+1) (s++g i) (fun j s h1 h2=>hb j s (by omega) (by omega)),List.range'_succ,List.flatMap_cons,List.append_assoc]
def yli (a0:List Character) (a1:Int) (i k:Nat):List (List Int):=bif zqb (a0.getD i default) (a0.getD k default) a1 then[[(i:Int),(k:Int)]]else[]
theorem yhi (a0:List Character) (a1:Int) (hm:a0.length<=12):zr a0 a1=(List.range' 0 a0.length).flatMap fun i=>(List.range' (i+1) (a0.length-(i+1))).flatMap (yli a0 a1 i):=by
 unfold zr;rw[y2d (fun i=>(List.range' (i+1) (a0.length-(i+1))).flatMap (yli a0 a1 i)) (a0.length-0) 0 [] (fun i s _ hi => ?_)]
 ·simp
 ·unfold yzu
  rw[show(IntKind.wrap .i64 ((i:Int)+1)).toNat=i+1 by rw[IntKind.wrap_i64];omega];rw[y2d (yli a0 a1 i) (a0.length-(i+1)) (i+1) s (fun k s _ hk => ?_)];unfold y5t yli
  cases zqb (a0.getD i default) (a0.getD k default) a1 with
  | true=>rfl
  | false=>simp
theorem yyc {a0:List Character} {a1:Int} (hm:a0.length<=12) {p:List Int}:p∈zr a0 a1↔∃ i k,i<k/\k<a0.length/\zqb (a0.getD i default) (a0.getD k default) a1=true/\p=[(i:Int),(k:Int)]:=by
 rw[yhi a0 a1 hm];simp only[List.mem_flatMap,List.mem_range'_1,yli];constructor
 ·rintro⟨i,hi,k,hk,hp⟩
  cases hc:zqb (a0.getD i default) (a0.getD k default) a1 with
  | true=>
   rw[hc]at hp;exact⟨i,k,by omega,by omega,hc,by simpa using hp⟩
  | false=>rw[hc]at hp;simp at hp
 ·rintro⟨i,k,h1,h2,hc,rfl⟩
  exact⟨i,by omega,k,by omega,by rw[hc];simp⟩
theorem yfg {α β : Type} (g : α -> List β) (n : Nat) : ∀ l : List α, (∀ x ∈ l, (g x).length <= n) -> (l.flatMap g).length <= n * l.length
 | [],_=>by simp
 | x::l,h=>by
  rw[List.flatMap_cons,List.length_append,List.length_cons];have h1:=h x (by simp);have h2:=yfg g n l (fun y hy=>h y (by simp[hy]));rw[Nat.mul_add];omega
theorem y4p (a0:List Character) (a1:Int) (hm:a0.length<=12):(zr a0 a1).length<=144:=by
 rw[yhi a0 a1 hm]
 have h:=yfg (fun i=>(List.range' (i+1) (a0.length-(i+1))).flatMap (yli a0 a1 i)) 12 (List.range' 0 a0.length) (fun i _=>by
  have h2:=yfg (yli a0 a1 i) 1 (List.range' (i+1) (a0.length-(i+1))) (fun k _=>by
   unfold yli
   cases zqb (a0.getD i default) (a0.getD k default) a1<;>simp)
  rw[List.length_range']at h2
  omega)
 rw[List.length_range']at h;omega
theorem ylt (a2:List Character) (a3:Int) (hm:a2.length<=12):∀ i,i<(zr a2 a3).length->((zr a2 a3).getD i default).length=2/\0<=((zr a2 a3).getD i default).getD 0 default/\((zr a2 a3).getD i default).getD 0 default<(a2.length:Int)/\0<=((zr a2 a3).getD i default).getD 1 default/\((zr a2 a3).getD i default).getD 1 default<(a2.length:Int):=fun i hi=>by
 have hmem:(zr a2 a3).getD i default∈zr a2 a3:=by
  rw[List.getD_eq_getElem?_getD,List.getElem?_eq_getElem hi,Option.getD_some];exact List.getElem_mem _
 obtain⟨x,k,h1,h2,_,e⟩:=(yyc hm).1 hmem;rw[e];refine⟨rfl,?_,?_,?_,?_⟩<;>simp<;>omega
end Go.Ab
