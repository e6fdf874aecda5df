/- A part of a proof: walks of functions and lemmas of our own. No conditions. -/
import Derived.Test.YthadgghdkkapaaaGreatDoorNAl
import Derived.Test.YthadgghdkkapaaaGreatDoorNAp
import Derived.Test.YthadgghdkkapaaaGreatDoorNAn
import Derived.Test.YthadgghdkkapaaaGreatDoorNAi
import Derived.Test.YthadgghdkkapaaaGreatDoorNAk
import Derived.Test.YthadgghdkkapaaaGreatDoorNAo
set_option linter.unusedSectionVars false
set_option linter.unusedVariables false
set_option linter.unusedSimpArgs false
set_option maxHeartbeats 1000000
namespace Go.Ab
open Go Go.Proofs
def zjd (a0:Int):(List (List UInt8)):=
 (zzf (zbd a0 ([[],[99,97,110,32,112,105,108,108,97,114,32,115,112,97,114],[99,111,110,101,32,112,105,108,108,97,114,32,115,112,97,114],[112,105,108,108,97,114,32,115,112,97,114],[112,105,108,108,97,114,32,115,112,97,114],[112,105,108,108,97,114,32,115,112,97,114],[112,105,108,108,97,114,32,115,112,97,114],[112,105,108,108,97,114,32,115,112,97,114],[115,112,104,101,114,101,32,112,105,108,108,97,114,32,115,112,97,114],[99,97,110,32,99,111,110,101,32,112,105,108,108,97,114,32,115,112,97,114,32,115,112,104,101,114,101]]:List (List UInt8))))
namespace N158
theorem DD:DOk Tryz.prog (Go.Ab.DD [(216,dP D_zbd),(218,dP D_zzf)]):=ya ydl.e <| ya y7v.e <| ye _
theorem dn:type_of% (And.intro @D_zbd.eq_1 <| @D_zzf.eq_1):=by and_intros<;>intros<;>rfl
theorem o0 {p:Prop} (h:p:=by(first|(and_intros<;>first|exact yrq (P:=fun y=>y.length<=1048576) _ _ (by simp) (by simp)|exact yrq (P:=fun y=>∀ x∈y,x.toNat<128) _ _ (by simp) (by simp)));first|done|fail):p:=h
theorem lx {p:Prop} (h:p:=by(exact lxx);first|done|fail):p:=h
theorem den (a0:Int)  : Den Tryz.prog 158 [.int .i64 a0] (ownL 9 1 eS (zjd a0)):=by
 generalize hR:zjd a0=r;unfold zjd at hR;refine di Tryz.func158 Tryz.ntmps158 Tryz.results158 ?_;intro c hL hc hk;clear hL;simp only[pars,Nat.zero_add];iterate 2 refine rS ?_
 refine AWP.ret ?_;subst hR;exact es
end N158
def D_zjd : DF
 | [x0]=>some (ownL 9 1 eS (zjd (rdI x0)),false,[wI .i64 x0])
 | _=>none
def Dz_zjd : DF
 | [x0]=>some (ownL 9 1 eS (zjd (rdI x0)),true,[wI .i64 x0])
 | _=>none
theorem yzw:OkD Tryz.prog 158 D_zjd:=by unfold D_zjd;exact dk N158.den
theorem y2t:OkD Tryz.prog 158 Dz_zjd:=by unfold Dz_zjd;exact dk N158.den
def zwe (a0:Int):(List UInt8):=
 (zbd a0 ([[],[99,97,110],[99,111,110,101],[117,112],[98,97,115,101],[100,111,119,110],[112,111,105,110,116],[98,97,108,108,115],[98,97,108,108],[99,114,111,115,115]]:List (List UInt8)))
namespace N159
theorem DD:DOk Tryz.prog (Go.Ab.DD [(216,dP D_zbd)]):=ya ydl.e <| ye _
theorem dn:type_of% (@D_zbd.eq_1):=by and_intros<;>intros<;>rfl
theorem lx {p:Prop} (h:p:=by(exact lxx);first|done|fail):p:=h
theorem den (a0:Int)  : Den Tryz.prog 159 [.int .i64 a0] (.str (zwe a0)):=by
 generalize hR:zwe a0=r;unfold zwe at hR;refine di Tryz.func159 Tryz.ntmps159 Tryz.results159 ?_;intro c hL hc hk;clear hL;simp only[pars,Nat.zero_add];iterate 2 refine rS ?_
 refine AWP.ret ?_;subst hR;exact es
end N159
def D_zwe : DF
 | [x0]=>some (.str (zwe (rdI x0)),false,[wI .i64 x0])
 | _=>none
theorem ydq:OkD Tryz.prog 159 D_zwe:=by unfold D_zwe;exact dk N159.den
def zxe (a0:Mark):Bool:=
 (bif (a0.Kind == 0 && (a0.Colors == [] && (a0.Shape == [] && a0.Topmark == [])))then true else((((zte a0.Kind) && (a0.Colors == (zve a0.Kind))) && (zne (zjd a0.Kind) a0.Shape)) && ((a0.Topmark == []) || (a0.Topmark == (zwe a0.Kind)))))
namespace N106
theorem DD:DOk Tryz.prog (Go.Ab.DD [(155,dP D_zte),(156,dP D_zve),(157,dP D_zne),(158,dP D_zjd),(159,dP D_zwe)]):=ya ycq.e <| ya yiq.e <| ya ycr.e <| ya yzw.e <| ya ydq.e <| ye _
theorem DZ:DOk Tryz.prog (Go.Ab.DD [(155,dP D_zte),(156,dP D_zve),(157,dP D_zne),(158,dP Dz_zjd),(159,dP D_zwe)]):=ya ycq.e <| ya yiq.e <| ya ycr.e <| ya y2t.e <| ya ydq.e <| ye _
theorem dn:type_of% (And.intro @D_zte.eq_1 <| And.intro @D_zve.eq_1 <| And.intro @D_zne.eq_1 <| And.intro @D_zjd.eq_1 <| And.intro @D_zwe.eq_1 <| @Dz_zjd.eq_1):=by and_intros<;>intros<;>rfl
theorem den (a0:Mark) (hb0:bdMark a0):Den Tryz.prog 106 [.agg (y1g a0)] (.bool (zxe a0)):=by
 generalize hR:zxe a0=r;unfold zxe at hR;refine di Tryz.func106 Tryz.ntmps106 Tryz.results106 ?_;intro c hL hc hk;obtain⟨hL0,_⟩:=hL;have hw0:bwMark a0:=ybi a0 hL0;clear hL0;simp only[pars,Nat.zero_add];iterate 2 refine rS ?_
 refine AWP.cond rfl (fun hb => ?_) (fun hb => ?_)
 ·replace hR:=ct hR
  refine rS ?_;refine AWP.ret ?_;subst hR;exact es
 ·replace hR:=cf hR
  refine rZ 32 ?_;refine AWP.ret ?_;subst hR;exact es
end N106
def D_zxe : DF
 | [x0]=>some (.bool (zxe (rdG ytk x0)),false,[wG y1g ytk x0,bdMark (rdG ytk x0)])
 | _=>none
theorem ypy:OkD Tryz.prog 106 D_zxe:=by unfold D_zxe;exact dk N106.den
def y5j (a0:(List Int)) (a1:(List Int)) (i1:Nat) (s1:Unit):Except (Bool) (Unit):=
 (bif ((a0.getD i1 default) != (a1.getD i1 default))then .error false else .ok ())
def zkd (a0:(List Int)) (a1:(List Int)):Bool:=
 (bif ((a0.length:Int) != (a1.length:Int))then false else(match yh (y5j a0 a1) (a0.length-0) 0 ()with|.error e=>e|.ok s1=>true))
namespace N219
theorem DD:DOk Tryz.prog (Go.Ab.DD []):=ye _
theorem den (a0:(List Int)) (a1:(List Int))  : Den Tryz.prog 219 [encL 1 yu a0,encL 1 yu a1] (.bool (zkd a0 a1)):=by
 generalize hR:zkd a0 a1=r;unfold zkd at hR;refine di Tryz.func219 Tryz.ntmps219 Tryz.results219 ?_;intro c hL hc hk;obtain⟨hL0,hL1,_⟩:=hL;have hw0:a0.length<9223372036854775808:=Nat.lt_succ_of_le (yb hL0).1;have hw1:a1.length<9223372036854775808:=Nat.lt_succ_of_le (yb hL1).1;clear hL0 hL1;simp only[pars,Nat.zero_add];iterate 2 refine rS ?_
 refine AWP.cond rfl (fun hb => ?_) (fun hb => ?_)
 ·replace hR:=ct hR
  refine rS ?_;refine AWP.ret ?_;subst hR;exact es
 ·replace hR:=cf hR
  refine rS ?_;refine AWP.block ?_;generalize hz1:yh (y5j a0 a1) (a0.length-0) 0 ()=z1 at hR;refine AWP.range (y5j a0 a1) (fun i1 s1=>⟨[(0,encL 1 yu a0),(1,encL 1 yu a1),(12,.int .i64 (a0.length:Int)),(13,.int .i64 (i1:Int))],[]⟩) (fun i1 s1=>True) (a0.length) 0 () [] hz1 ot wt sm ?_;clear hz1;intro i1 s1 hi1 hW1 hz1;refine rS ?_;refine AWP.seq ?_;refine AWP.cond rfl (fun hb => ?_) (fun hb => ?_)
  ·have hlt1:i1<a0.length:=ot
   rw[yp hlt1]at hz1;simp only[y5j]at hz1;refine rS ?_;refine rD 8 ?_;refine AWP.cond rfl (fun hb => ?_) (fun hb => ?_)
   ·simp only[hb,cond_true]at hz1
    refine rS ?_;refine AWP.ret ?_;subst hz1;dsimp only at hR;subst hR;exact es
   ·simp only[hb,cond_false]at hz1
    refine rS ?_;exact⟨_,[],hlt1,wt,hz1,sm⟩
  ·obtain rfl:i1=a0.length:=ot
   rw[yn (Nat.le_refl _)]at hz1;subst hz1;dsimp only at hR;refine AWP.exit ?_;refine yd ?_;refine rS ?_;refine AWP.ret ?_;subst hR;exact es
end N219
def D_zkd : DF
 | [x0,x1]=>some (.bool (zkd (rdL yhb x0) (rdL yhb x1)),false,[wL 1 yu yhb x0,wL 1 yu yhb x1])
 | _=>none
theorem yey:OkD Tryz.prog 219 D_zkd:=by unfold D_zkd;exact dk N219.den
theorem yve (a b:List Int):zkd a b=decide (a=b):=by
 unfold zkd;by_cases hl:a.length=b.length
 ·have h1:((a.length:Int) != (b.length:Int))=false:=by simp[hl]
  rw[h1,cond_false,ybc (b:=y5j a b) (fun j => !decide (a.getD j default=b.getD j default)) false (fun j u _ _=>by simp only[y5j,ned])];simp only[Nat.sub_zero,Nat.zero_add];rw[yht a b hl];by_cases h:a=b<;>simp[h]
 ·have h1:((a.length:Int) != (b.length:Int))=true:=by simp;omega
  have h2:¬ a=b:=fun e=>hl (by rw[e])
  rw[h1,cond_true,decide_eq_false h2]
def zjc (a0:Int):Bool:=
 (zg a0 1 9999)
namespace N104
theorem DD:DOk Tryz.prog (Go.Ab.DD [(101,dP D_zg)]):=ya yrc.e <| ye _
theorem dn:type_of% (@D_zg.eq_1):=by and_intros<;>intros<;>rfl
theorem ol:type_of% (@zg.eq_1):=@zg.eq_1
theorem den (a0:Int)  : Den Tryz.prog 104 [.int .i64 a0] (.bool (zjc a0)):=by
 generalize hR:zjc a0=r;unfold zjc at hR;refine di Tryz.func104 Tryz.ntmps104 Tryz.results104 ?_;intro c hL hc hk;clear hL;simp only[pars,Nat.zero_add];iterate 2 refine rS ?_
 refine AWP.ret ?_;subst hR;exact es
end N104
def D_zjc : DF
 | [x0]=>some (.bool (zjc (rdI x0)),false,[wI .i64 x0])
 | _=>none
theorem yrk:OkD Tryz.prog 104 D_zjc:=by unfold D_zjc;exact dk N104.den
def znf (a0:Int):Bool:=
 (zg a0 0 3000)
namespace N105
theorem DD:DOk Tryz.prog (Go.Ab.DD [(101,dP D_zg)]):=ya yrc.e <| ye _
theorem dn:type_of% (@D_zg.eq_1):=by and_intros<;>intros<;>rfl
theorem ol:type_of% (@zg.eq_1):=@zg.eq_1
theorem den (a0:Int)  : Den Tryz.prog 105 [.int .i64 a0] (.bool (znf a0)):=by
 generalize hR:znf a0=r;unfold znf at hR;refine di Tryz.func105 Tryz.ntmps105 Tryz.results105 ?_;intro c hL hc hk;clear hL;simp only[pars,Nat.zero_add];iterate 2 refine rS ?_
 refine AWP.ret ?_;subst hR;exact es
end N105
def D_znf : DF
 | [x0]=>some (.bool (znf (rdI x0)),false,[wI .i64 x0])
 | _=>none
theorem yxv:OkD Tryz.prog 105 D_znf:=by unfold D_znf;exact dk N105.den
def zud (a0:Character) (a1:Character):Bool:=
 (((((a0.Kind == a1.Kind) && (zkd a0.Group a1.Group)) && (a0.Letter == a1.Letter)) && (a0.Colors == a1.Colors)) && (a0.Period == a1.Period))
namespace N160
theorem DD:DOk Tryz.prog (Go.Ab.DD [(219,dP D_zkd)]):=ya yey.e <| ye _
theorem dn:type_of% (@D_zkd.eq_1):=by and_intros<;>intros<;>rfl
theorem den (a0:Character) (a1:Character)  : Den Tryz.prog 160 [.agg (yl a0),.agg (yl a1)] (.bool (zud a0 a1)):=by
 generalize hR:zud a0 a1=r;unfold zud at hR;refine di Tryz.func160 Tryz.ntmps160 Tryz.results160 ?_;intro c hL hc hk;obtain⟨hL0,hL1,_⟩:=hL;have hw0:bwCharacter a0:=yw a0 hL0;have hw1:bwCharacter a1:=yw a1 hL1;clear hL0 hL1;simp only[pars,Nat.zero_add];iterate 2 refine rS ?_
 refine AWP.ret ?_;subst hR;exact es
end N160
def D_zud : DF
 | [x0,x1]=>some (.bool (zud (rdG yg x0) (rdG yg x1)),false,[wG yl yg x0,wG yl yg x1])
 | _=>none
theorem y2q:OkD Tryz.prog 160 D_zud:=by unfold D_zud;exact dk N160.den
def zef (a0:Aid):Bool:=
 (((zud a0.Light ({ Kind:=0,Group:=[],Letter:=[],Colors:=[],Period:=0:Character })) && ((a0.Sectors.length:Int) == 0)) && (a0.Intensity == 0))
namespace N107
theorem DD:DOk Tryz.prog (Go.Ab.DD [(160,dP D_zud)]):=ya y2q.e <| ye _
theorem dn:type_of% (@D_zud.eq_1):=by and_intros<;>intros<;>rfl
theorem den (a0:Aid)  : Den Tryz.prog 107 [.agg (eAid a0)] (.bool (zef a0)):=by
 generalize hR:zef a0=r;unfold zef at hR;refine di Tryz.func107 Tryz.ntmps107 Tryz.results107 ?_;intro c hL hc hk;obtain⟨hL0,_⟩:=hL;have hw0:bwAid a0:=yy a0 hL0;clear hL0;simp only[pars,Nat.zero_add];iterate 2 refine rS ?_
 refine AWP.ret ?_;subst hR;exact es
end N107
def D_zef : DF
 | [x0]=>some (.bool (zef (rdG dAid x0)),false,[wG eAid dAid x0])
 | _=>none
theorem yay:OkD Tryz.prog 107 D_zef:=by unfold D_zef;exact dk N107.den
def zof (a0:Point):Bool:=
 ((zg a0.X 0 200000) && (zg a0.Y 0 200000))
namespace N50
theorem DD:DOk Tryz.prog (Go.Ab.DD [(101,dP D_zg)]):=ya yrc.e <| ye _
theorem dn:type_of% (@D_zg.eq_1):=by and_intros<;>intros<;>rfl
theorem ol:type_of% (@zg.eq_1):=@zg.eq_1
theorem den (a0:Point)  : Den Tryz.prog 50 [.agg (ylg a0)] (.bool (zof a0)):=by
 generalize hR:zof a0=r;unfold zof at hR;refine di Tryz.func50 Tryz.ntmps50 Tryz.results50 ?_;intro c hL hc hk;clear hL;simp only[pars,Nat.zero_add];iterate 2 refine rS ?_
 refine AWP.ret ?_;subst hR;exact es
end N50
def D_zof : DF
 | [x0]=>some (.bool (zof (rdG yhf x0)),false,[wG ylg yhf x0])
 | _=>none
theorem ygy:OkD Tryz.prog 50 D_zof:=by unfold D_zof;exact dk N50.den
def zpf (a0:Int):Bool:=
 (zg a0 1 100000000)
namespace N128
theorem DD:DOk Tryz.prog (Go.Ab.DD [(101,dP D_zg)]):=ya yrc.e <| ye _
theorem dn:type_of% (@D_zg.eq_1):=by and_intros<;>intros<;>rfl
theorem ol:type_of% (@zg.eq_1):=@zg.eq_1
theorem den (a0:Int)  : Den Tryz.prog 128 [.int .i64 a0] (.bool (zpf a0)):=by
 generalize hR:zpf a0=r;unfold zpf at hR;refine di Tryz.func128 Tryz.ntmps128 Tryz.results128 ?_;intro c hL hc hk;clear hL;simp only[pars,Nat.zero_add];iterate 2 refine rS ?_
 refine AWP.ret ?_;subst hR;exact es
end N128
def D_zpf : DF
 | [x0]=>some (.bool (zpf (rdI x0)),false,[wI .i64 x0])
 | _=>none
theorem yny:OkD Tryz.prog 128 D_zpf:=by unfold D_zpf;exact dk N128.den
def y1s (a0:(List Aid)) (a1:Int) (s1:Int):Except (Sum ((Int×Bool)) (Int)) (Int):=
 (bif (decide (s1<(a0.length:Int)) && decide (((a0.getD ((s1).toNat) default).Number)<a1))then .ok (IntKind.wrap .i64 (s1+1))else .error (.inr s1))
def zq (a0:(List Aid)) (a1:Int):(Int×Bool):=
 (match yqb (y1s a0 a1) ((a0.length-((0:Int)).toNat)+1) 0 with|.error (.inl e)=>e|.error (.inr s1)=>(s1,(decide (s1<(a0.length:Int)) && (((a0.getD ((s1).toNat) default).Number) == a1)))|.ok _=>default)
namespace N256
theorem DD:DOk Tryz.prog (Go.Ab.DD []):=ye _
theorem den (a0:(List Aid)) (a1:Int)  : Den Tryz.prog 256 [encL 16 eAid a0,.int .i64 a1] (.tup [.int .i64 ((zq a0 a1).1),.bool ((zq a0 a1).2)]):=by
 generalize hR:zq a0 a1=r;unfold zq at hR;refine di Tryz.func256 Tryz.ntmps256 Tryz.results256 ?_;intro c hL hc hk;obtain⟨hL0,hL1,_⟩:=hL;have hw0:a0.length<9223372036854775808:=Nat.lt_succ_of_le (yb hL0).1;have hw1:∀ v∈a0,bwAid v:=fun v hv=>yy v ((yb hL0).2 v hv)
 clear hL0 hL1;simp only[pars,Nat.zero_add];iterate 2 refine rS ?_
 refine AWP.seq ?_;refine AWP.block ?_;generalize hz1:yqb (y1s a0 a1) ((a0.length-((0:Int)).toNat)+1) 0=z1 at hR;refine AWP.whileW (y1s a0 a1) (fun s1=>⟨[(0,encL 16 eAid a0),(1,.int .i64 a1),(6,.int .i64 s1)],[]⟩) (fun s1=>0<=s1/\s1<=a0.length) (fun s1=>a0.length-(s1).toNat) ((a0.length-((0:Int)).toNat)+1) 0 [] hz1 m0 wt sm ?_;clear hz1;intro s1 k1 hW1 hm1 hz1;simp only[y1s]at hz1;refine rS ?_;refine AWP.cond rfl (fun hb => ?_) (fun hb => ?_)
 ·simp only[hb,cond_true]at hz1
  refine rS ?_;exact⟨_,[],ms,wt,hz1,sm⟩
 ·simp only[hb,cond_false]at hz1
  refine AWP.exit ?_;refine yd ?_;subst hz1;dsimp only at hR;refine AWP.seq ?_;refine AWP.regP mixed G_ok DD hc 15 [0,1,2,3,4,5,6,7,8,9,10,11,12,13] (.alt 14 [] [6,7,8,9,10,11,12,13] .leaf .stop) (by kernel_rfl) (by kernel_rfl) (by kernel_rfl) (fun K hK => ?_);simp only[y0g,runN,runP,y5b,nthO,ea,absV,absVL,cput,gv,sv,dn,reduceCtorEq,reduceIte,Nat.reduceBEq,Nat.reduceAdd,Nat.reduceEqDiff,Nat.reduceLT,Nat.reduceLeDiff,Nat.reduceMul,Nat.reduceSub,BEq.rfl,beq_self_eq_true,Int.reduceToNat];repeat' apply And.intro
  all_goals first|refine hK _ ?_|exact ot
  all_goals clear hK K
  refine AWP.ret ?_;subst hR;exact es
end N256
def D_zq : DF
 | [x0,x1]=>some (.tup [.int .i64 ((zq (rdL dAid x0) (rdI x1)).1),.bool ((zq (rdL dAid x0) (rdI x1)).2)],false,[wL 16 eAid dAid x0,wI .i64 x1])
 | _=>none
theorem yro:OkD Tryz.prog 256 D_zq:=by unfold D_zq;exact dk N256.den
def upto (l:List Aid) (n:Int):Nat:=(l.takeWhile (fun x=>decide (x.Number<n))).length
theorem ywk (l:List Aid) (n:Int):upto l n<=l.length:=by unfold upto;exact(List.takeWhile_prefix _).length_le
theorem yuo {ρ : Type} (l : List Aid) (n : Int) (hl : l.length < 9223372036854775808) (b : Int -> Except (Sum ρ Int) Int)
  (hb:∀ s,b s=bif (decide (s<(l.length:Int)) && decide ((l.getD s.toNat default).Number<n))then .ok (IntKind.wrap .i64 (s+1))else .error (.inr s)) :
  ∀ (r p:List Aid) (k:Nat),l=p++r->r.length<k->yqb b k (p.length:Int)=.error (.inr ((p.length+upto r n:Nat):Int))
 | _,_,0,_,h=>absurd h (Nat.not_lt_zero _)
 | [],p,k+1,e,_=>by
  subst e;simp only[yqb,hb,List.append_nil,Int.lt_irrefl,decide_false,Bool.false_and,cond_false];simp[upto]
 | x::r,p,k+1,e,hk=>by
  have hg:l.getD ((p.length:Int)).toNat default=x:=by subst e;simp
  have hlt:decide ((p.length:Int)<(l.length:Int))=true:=by subst e;simp;omega
  simp only[yqb,hb,hg,hlt,Bool.true_and]
  cases hx:decide (x.Number<n)with
  | false=>simp[upto,List.takeWhile_cons,hx]
  | true=>
   have hw:IntKind.wrap .i64 ((p.length:Int)+1)=((p++[x]).length:Int):=by
    have:p.length<l.length:=by subst e;simp
    have e2:(p++[x]).length=p.length+1:=by simp
    rw[IntKind.wrap_i64,e2];omega
   simp only[cond_true,hw];rw[yuo l n hl b hb r (p++[x]) k (by simp[e]) (by simp at hk;omega)]
   have e3:(p++[x]).length+upto r n=p.length+upto (x::r) n:=by
    simp[upto,List.takeWhile_cons,hx];omega
   rw[e3]
theorem y3q (l:List Aid) (n:Int) (hl:l.length<9223372036854775808):zq l n=((upto l n:Int),decide (upto l n<l.length) && ((l.getD (upto l n) default).Number == n)):=by
 unfold zq;have:=yuo l n hl (y1s l n) (fun s=>rfl) l [] (l.length-(0:Int).toNat+1) rfl (by simp);simp only[List.length_nil,Nat.zero_add]at this;have e0:((0:Nat):Int)=0:=rfl;simp only[e0]at this;rw[this];simp
theorem ybo (l:List Aid) (n:Int) (hl:l.length<9223372036854775808):0<=(zq l n).1/\(zq l n).1<=l.length/\((zq l n).2=true->(zq l n).1<l.length):=by
 rw[y3q l n hl];have:=ywk l n;refine⟨by simp only;omega,by simp only;omega,fun h => ?_⟩;simp only[Bool.and_eq_true,decide_eq_true_eq]at h;simp only;omega
def zqf (a0:(List Int)):(List Int):=
 (List.replicate 0 (default:Int))++a0
namespace N254
theorem DD:DOk Tryz.prog (Go.Ab.DD []):=ye _
theorem den (a0:(List Int)) (hb0:a0.length<1099511627776):Den Tryz.prog 254 [encL 1 yu a0] (ownL 2 1 yu (zqf a0)):=by
 generalize hR:zqf a0=r;unfold zqf at hR;refine di Tryz.func254 Tryz.ntmps254 Tryz.results254 ?_;intro c hL hc hk;obtain⟨hL0,_⟩:=hL;have hw0:a0.length<9223372036854775808:=Nat.lt_succ_of_le (yb hL0).1;clear hL0;simp only[pars,Nat.zero_add];iterate 2 refine rS ?_
 refine AWP.ret ?_;subst hR;exact es
end N254
def D_zqf : DF
 | [x0]=>some (ownL 2 1 yu (zqf (rdL yhb x0)),false,[wL 1 yu yhb x0,(rdL yhb x0).length<1099511627776])
 | _=>none
theorem y0x:OkD Tryz.prog 254 D_zqf:=by unfold D_zqf;exact dk N254.den
def zrf (a0:(List Sector)):(List Sector):=
 (List.replicate 0 (default:Sector))++a0
namespace N255
theorem DD:DOk Tryz.prog (Go.Ab.DD []):=ye _
theorem den (a0:(List Sector)) (hb0:a0.length<1099511627776) (hb1:∀ v∈a0,bdSector v):Den Tryz.prog 255 [encL 3 yq a0] (ownL 165 3 yq (zrf a0)):=by
 generalize hR:zrf a0=r;unfold zrf at hR;refine di Tryz.func255 Tryz.ntmps255 Tryz.results255 ?_;intro c hL hc hk;obtain⟨hL0,_⟩:=hL;have hw0:a0.length<9223372036854775808:=Nat.lt_succ_of_le (yb hL0).1;have hw1:∀ v∈a0,bwSector v:=fun v hv=>y7 v ((yb hL0).2 v hv)
 clear hL0;simp only[pars,Nat.zero_add];iterate 2 refine rS ?_
 refine AWP.ret ?_;subst hR;exact es
end N255
def D_zrf : DF
 | [x0]=>some (ownL 165 3 yq (zrf (rdL yx x0)),false,[wL 3 yq yx x0,(rdL yx x0).length<1099511627776,∀ v∈(rdL yx x0),bdSector v])
 | _=>none
theorem y2y:OkD Tryz.prog 255 D_zrf:=by unfold D_zrf;exact dk N255.den
def zcd (a0:Aid):Aid:=
 { Number:=a0.Number,Name:=a0.Name,At:=a0.At,Height:=a0.Height,Mark:=a0.Mark,Light:={ Kind:=a0.Light.Kind,Group:=(zqf a0.Light.Group),Letter:=a0.Light.Letter,Colors:=a0.Light.Colors,Period:=a0.Light.Period:Character },Sectors:=(zrf a0.Sectors),Intensity:=a0.Intensity:Aid }
namespace N204
theorem DD:DOk Tryz.prog (Go.Ab.DD [(254,dP D_zqf),(255,dP D_zrf)]):=ya y0x.e <| ya y2y.e <| ye _
theorem dn:type_of% (And.intro @D_zqf.eq_1 <| @D_zrf.eq_1):=by and_intros<;>intros<;>rfl
theorem den (a0:Aid) (hb0:bdAid a0):Den Tryz.prog 204 [.agg (eAid a0)] (.agg (ynb (zcd a0))):=by
 generalize hR:zcd a0=r;unfold zcd at hR;refine di Tryz.func204 Tryz.ntmps204 Tryz.results204 ?_;intro c hL hc hk;obtain⟨hL0,_⟩:=hL;have hw0:bwAid a0:=yy a0 hL0;clear hL0;simp only[pars,Nat.zero_add];refine rS ?_;refine AWP.seq ?_;refine AWP.regP mixed G_ok DD hc 9 [0,1,2,4,5] (.alt 3 [7,8] [4,5,7,8] (.alt 6 [] [7,8] .leaf .stop) .stop) (by kernel_rfl) (by kernel_rfl) (by kernel_rfl) (fun K hK => ?_);simp only[y0g,runN,runP,y5b,nthO,ea,absV,absVL,cput,gv,sv,dn,reduceCtorEq,reduceIte,Nat.reduceBEq,Nat.reduceAdd,Nat.reduceEqDiff,Nat.reduceLT,Nat.reduceLeDiff,Nat.reduceMul,Nat.reduceSub,BEq.rfl,beq_self_eq_true,Int.reduceToNat];repeat' apply And.intro
 all_goals first|refine hK _ ?_|exact ot
 all_goals clear hK K
 refine rS ?_;refine AWP.ret ?_;subst hR;exact es
end N204
def D_zcd : DF
 | [x0]=>some (.agg (ynb (zcd (rdG dAid x0))),false,[wG eAid dAid x0,bdAid (rdG dAid x0)])
 | _=>none
theorem ykk:OkD Tryz.prog 204 D_zcd:=by unfold D_zcd;exact dk N204.den
def yxj (a0:(List Aid)) (i1:Nat) (s1:List Aid):Except ((List Aid)) (List Aid):=
 .ok (s1++[zcd (a0.getD i1 default)])
def zhb (a0:(List Aid)):(List Aid):=
 (match yh (yxj a0) (a0.length-0) 0 (List.replicate 0 (default:Aid))with|.error e=>e|.ok s1=>s1)
namespace N141
theorem DD:DOk Tryz.prog (Go.Ab.DD [(204,dP D_zcd)]):=ya ykk.e <| ye _
theorem dn:type_of% (@D_zcd.eq_1):=by and_intros<;>intros<;>rfl
theorem den (a0:(List Aid)) (hb0:a0.length<1099511627776) (hb1:∀ v∈a0,bdAid v) (hp0:a0.length<=1073741824):Den Tryz.prog 141 [encL 16 eAid a0] (ownL 45 16 ynb (zhb a0)):=by
 generalize hR:zhb a0=r;unfold zhb at hR;refine di Tryz.func141 Tryz.ntmps141 Tryz.results141 ?_;intro c hL hc hk;obtain⟨hL0,_⟩:=hL;have hw0:a0.length<9223372036854775808:=Nat.lt_succ_of_le (yb hL0).1;have hw1:∀ v∈a0,bwAid v:=fun v hv=>yy v ((yb hL0).2 v hv)
 clear hL0;simp only[pars,Nat.zero_add];iterate 3 refine rS ?_
 refine AWP.block ?_;generalize hz1:yh (yxj a0) (a0.length-0) 0 (List.replicate 0 (default:Aid))=z1 at hR;refine AWP.range (yxj a0) (fun i1 s1=>⟨[(3,.ref 0 16 0 s1.length),(10,encL 16 eAid a0),(11,.int .i64 (a0.length:Int)),(12,.int .i64 (i1:Int))],[.arr 45 16 s1.length (fun j=>ynb (s1.getD j default))]⟩) (fun i1 s1=>s1.length<=(List.replicate 0 (default:Aid)).length+1 * i1) (a0.length) 0 (List.replicate 0 (default:Aid)) [0] hz1 ot wt sm ?_;clear hz1;intro i1 s1 hi1 hW1 hz1;refine rS ?_;refine AWP.seq ?_;refine AWP.cond rfl (fun hb => ?_) (fun hb => ?_)
 ·have hlt1:i1<a0.length:=ot
  rw[yp hlt1]at hz1;simp only[yxj]at hz1;iterate 3 refine rS ?_
  exact⟨_,[5],hlt1,wt,hz1,sm⟩
 ·obtain rfl:i1=a0.length:=ot
  rw[yn (Nat.le_refl _)]at hz1;subst hz1;dsimp only at hR;refine AWP.exit ?_;refine yd ?_;refine rS ?_;refine AWP.ret ?_;subst hR;exact es
end N141
def D_zhb : DF
 | [x0]=>some (ownL 45 16 ynb (zhb (rdL dAid x0)),false,[wL 16 eAid dAid x0,(rdL dAid x0).length<1099511627776,∀ v∈(rdL dAid x0),bdAid v,(rdL dAid x0).length<=1073741824])
 | _=>none
theorem y8g:OkD Tryz.prog 141 D_zhb:=by unfold D_zhb;exact dk N141.den
def yfk (a0:(List Sector)) (a1:(List Sector)) (i1:Nat) (s1:Unit):Except (Bool) (Unit):=
 (bif (!(((a0.getD i1 default).From) == ((a1.getD i1 default).From) && (((a0.getD i1 default).To) == ((a1.getD i1 default).To) && ((a0.getD i1 default).Color) == ((a1.getD i1 default).Color))))then .error false else .ok ())
def zld (a0:(List Sector)) (a1:(List Sector)):Bool:=
 (bif ((a0.length:Int) != (a1.length:Int))then false else(match yh (yfk a0 a1) (a0.length-0) 0 ()with|.error e=>e|.ok s1=>true))
namespace N259
theorem DD:DOk Tryz.prog (Go.Ab.DD []):=ye _
theorem den (a0:(List Sector)) (a1:(List Sector))  : Den Tryz.prog 259 [encL 3 yq a0,encL 3 yq a1] (.bool (zld a0 a1)):=by
 generalize hR:zld a0 a1=r;unfold zld at hR;refine di Tryz.func259 Tryz.ntmps259 Tryz.results259 ?_;intro c hL hc hk;obtain⟨hL0,hL1,_⟩:=hL;have hw0:a0.length<9223372036854775808:=Nat.lt_succ_of_le (yb hL0).1;have hw1:∀ v∈a0,bwSector v:=fun v hv=>y7 v ((yb hL0).2 v hv)
 have hw2:a1.length<9223372036854775808:=Nat.lt_succ_of_le (yb hL1).1;have hw3:∀ v∈a1,bwSector v:=fun v hv=>y7 v ((yb hL1).2 v hv)
 clear hL0 hL1;simp only[pars,Nat.zero_add];iterate 2 refine rS ?_
 refine AWP.cond rfl (fun hb => ?_) (fun hb => ?_)
 ·replace hR:=ct hR
  refine rS ?_;refine AWP.ret ?_;subst hR;exact es
 ·replace hR:=cf hR
  refine rS ?_;refine AWP.block ?_;generalize hz1:yh (yfk a0 a1) (a0.length-0) 0 ()=z1 at hR;refine AWP.range (yfk a0 a1) (fun i1 s1=>⟨[(0,encL 3 yq a0),(1,encL 3 yq a1),(12,.int .i64 (a0.length:Int)),(13,.int .i64 (i1:Int))],[]⟩) (fun i1 s1=>True) (a0.length) 0 () [] hz1 ot wt sm ?_;clear hz1;intro i1 s1 hi1 hW1 hz1;refine rS ?_;refine AWP.seq ?_;refine AWP.cond rfl (fun hb => ?_) (fun hb => ?_)
  ·have hlt1:i1<a0.length:=ot
   rw[yp hlt1]at hz1;simp only[yfk]at hz1;refine rS ?_;refine rD 8 ?_;refine AWP.cond rfl (fun hb => ?_) (fun hb => ?_)
   ·simp only[hb,cond_true]at hz1
    refine rS ?_;refine AWP.ret ?_;subst hz1;dsimp only at hR;subst hR;exact es
   ·simp only[hb,cond_false]at hz1
    refine rS ?_;exact⟨_,[],hlt1,wt,hz1,sm⟩
  ·obtain rfl:i1=a0.length:=ot
   rw[yn (Nat.le_refl _)]at hz1;subst hz1;dsimp only at hR;refine AWP.exit ?_;refine yd ?_;refine rS ?_;refine AWP.ret ?_;subst hR;exact es
end N259
def D_zld : DF
 | [x0,x1]=>some (.bool (zld (rdL yx x0) (rdL yx x1)),false,[wL 3 yq yx x0,wL 3 yq yx x1])
 | _=>none
theorem y8w:OkD Tryz.prog 259 D_zld:=by unfold D_zld;exact dk N259.den
def zye (a0:Aid) (a1:Aid):Bool:=
 ((((((((a0.Number == a1.Number) && (a0.Name == a1.Name)) && (a0.At.X == a1.At.X && a0.At.Y == a1.At.Y)) && (a0.Height == a1.Height)) && (a0.Mark.Kind == a1.Mark.Kind && (a0.Mark.Colors == a1.Mark.Colors && (a0.Mark.Shape == a1.Mark.Shape && a0.Mark.Topmark == a1.Mark.Topmark)))) && (zud a0.Light a1.Light)) && (zld a0.Sectors a1.Sectors)) && (a0.Intensity == a1.Intensity))
namespace N209
theorem DD:DOk Tryz.prog (Go.Ab.DD [(160,dP D_zud),(259,dP D_zld)]):=ya y2q.e <| ya y8w.e <| ye _
theorem dn:type_of% (And.intro @D_zud.eq_1 <| @D_zld.eq_1):=by and_intros<;>intros<;>rfl
set_option maxHeartbeats 4000000 in
set_option maxRecDepth 20000 in
theorem den (a0:Aid) (a1:Aid)  : Den Tryz.prog 209 [.agg (eAid a0),.agg (eAid a1)] (.bool (zye a0 a1)):=by
 generalize hR:zye a0 a1=r;unfold zye at hR;refine di Tryz.func209 Tryz.ntmps209 Tryz.results209 ?_;intro c hL hc hk;obtain⟨hL0,hL1,_⟩:=hL;have hw0:bwAid a0:=yy a0 hL0;have hw1:bwAid a1:=yy a1 hL1;clear hL0 hL1;simp only[pars,Nat.zero_add];iterate 2 refine rS ?_
 refine AWP.ret ?_;subst hR;exact es
end N209
def D_zye : DF
 | [x0,x1]=>some (.bool (zye (rdG dAid x0) (rdG dAid x1)),false,[wG eAid dAid x0,wG eAid dAid x1])
 | _=>none
theorem yuv:OkD Tryz.prog 209 D_zye:=by unfold D_zye;exact dk N209.den
def zvd (a0:Notice) (a1:Notice):Bool:=
 (a0.Number == a1.Target)
namespace N211
theorem DD:DOk Tryz.prog (Go.Ab.DD []):=ye _
theorem den (a0:Notice) (a1:Notice)  : Den Tryz.prog 211 [.agg (yf a0),.ep (yf a1)] (.bool (zvd a0 a1)):=by
 generalize hR:zvd a0 a1=r;unfold zvd at hR;refine di Tryz.func211 Tryz.ntmps211 Tryz.results211 ?_;intro c hL hc hk;obtain⟨hL0,hL1,_⟩:=hL;have hw0:bwNotice a0:=yi a0 hL0;have hw1:bwNotice a1:=yi a1 hL1;clear hL0 hL1;simp only[pars,Nat.zero_add];iterate 2 refine rS ?_
 refine AWP.ret ?_;subst hR;exact es
end N211
def D_zvd : DF
 | [x0,x1]=>some (.bool (zvd (rdG yc x0) (rdP yc x1)),false,[wG yf yc x0,wP yf yc x1])
 | _=>none
theorem ymw:OkD Tryz.prog 211 D_zvd:=by unfold D_zvd;exact dk N211.den
def yrm (a0:(List Notice)) (a1:Notice) (i1:Nat) (s1:Unit):Except (Int) (Unit):=
 (bif (zvd (a0.getD i1 default) a1)then .error (i1:Int)else .ok ())
def zlb (a0:(List Notice)) (a1:Notice):Int:=
 (match yh (yrm a0 a1) (a0.length-0) 0 ()with|.error e=>e|.ok s1=>(-1))
namespace N_zlb
theorem DD:DOk Tryz.prog (Go.Ab.DD [(211,dP D_zvd)]):=ya ymw.e <| ye _
theorem dn:type_of% (@D_zvd.eq_1):=by and_intros<;>intros<;>rfl
theorem den (a0:(List Notice)) (a1:Notice)  : Den Tryz.prog 210 [encL 20 yf a0,.fn 211 0 [.ep (yf a1)]] (.int .i64 (zlb a0 a1)):=by
 generalize hR:zlb a0 a1=r;unfold zlb at hR;refine di Tryz.func210 Tryz.ntmps210 Tryz.results210 ?_;intro c hL hc hk;obtain⟨hL0,hL1,_⟩:=hL;have hw0:a0.length<9223372036854775808:=Nat.lt_succ_of_le (yb hL0).1;have hw1:∀ v∈a0,bwNotice v:=fun v hv=>yi v ((yb hL0).2 v hv)
 have hw2:bwNotice a1:=yi a1 hL1.1;clear hL0 hL1;simp only[pars,Nat.zero_add];iterate 2 refine rS ?_
 refine AWP.block ?_;generalize hz1:yh (yrm a0 a1) (a0.length-0) 0 ()=z1 at hR;refine AWP.range (yrm a0 a1) (fun i1 s1=>⟨[(0,encL 20 yf a0),(1,.fn 211 0 [.ep (yf a1)]),(7,.int .i64 (a0.length:Int)),(8,.int .i64 (i1:Int))],[]⟩) (fun i1 s1=>True) (a0.length) 0 () [] hz1 ot wt sm ?_;clear hz1;intro i1 s1 hi1 hW1 hz1;refine rS ?_;refine AWP.seq ?_;refine AWP.cond rfl (fun hb => ?_) (fun hb => ?_)
 ·have hlt1:i1<a0.length:=ot
  rw[yp hlt1]at hz1;simp only[yrm]at hz1;iterate 2 refine rS ?_
  refine AWP.cond rfl (fun hb => ?_) (fun hb => ?_)
  ·simp only[hb,cond_true]at hz1
   refine rS ?_;refine AWP.ret ?_;subst hz1;dsimp only at hR;subst hR;exact es
  ·simp only[hb,cond_false]at hz1
   refine rS ?_;exact⟨_,[],hlt1,wt,hz1,sm⟩
 ·obtain rfl:i1=a0.length:=ot
  rw[yn (Nat.le_refl _)]at hz1;subst hz1;dsimp only at hR;refine AWP.exit ?_;refine yd ?_;refine rS ?_;refine AWP.ret ?_;subst hR;exact es
end N_zlb
def D_zlb : DF
 | [x0,(.fn f211_2 kf211_2 [y1])]=>some (.int .i64 (zlb (rdL yc x0) (rdP yc y1)),false,[wL 20 yf yc x0,y1=.ep (yf (rdP yc y1)),f211_2=211,kf211_2=0])
 | _=>none
theorem ykx:OkD Tryz.prog 210 D_zlb:=by
 intro xs r z ob h ho;unfold D_zlb at h;split at h
 ·simp only[Option.some.injEq,Prod.mk.injEq]at h
  obtain⟨rfl,rfl,rfl⟩:=h;obtain⟨h0,qy1,qf211_2,qkf211_2,_⟩:=ho;exact Den.sim (N_zlb.den _ _ ) (yz (yfd h0).1 <| yz (by subst qf211_2 qkf211_2;rw[<- qy1];exact yyc _) <| trivial) (y9 (yfd h0).2 <| y9 (by rw[qy1];rfl) <| rfl) rfl
 ·cases h
theorem ynn (a0:List Notice) (a1:Notice):(∃ j,j<a0.length/\(zvd (a0.getD j default) a1)=true/\(∀ q,q<j->(zvd (a0.getD q default) a1)=false)/\zlb a0 a1=(j:Int))\/((∀ q,q<a0.length->(zvd (a0.getD q default) a1)=false)/\zlb a0 a1 = -1):=by
 unfold zlb;rcases yyb (b:=yrm a0 a1) (fun j=>zvd (a0.getD j default) a1) (fun j=>(j:Int)) (k:=a0.length-0) (i:=0) (s:=()) (fun j u _ _=>rfl)with⟨j,_,h2,h3,h4,h5⟩|⟨h1,h2⟩
 ·left
  rw[h5];exact⟨j,by omega,h3,fun q hq=>h4 q (Nat.zero_le _) hq,rfl⟩
 ·right
  rw[h2];exact⟨fun q hq=>h1 q (Nat.zero_le _) (by omega),rfl⟩
theorem yrz (a0:List Notice) (a1:Notice) : -1<=zlb a0 a1/\zlb a0 a1<a0.length:=by
 rcases ynn a0 a1 with⟨j,h1,_,_,h2⟩|⟨_,h2⟩<;>omega
def zsf (a0:Notice):Bool:=
 ((a0.Kind == 1) || (a0.Kind == 2))
namespace N208
theorem DD:DOk Tryz.prog (Go.Ab.DD []):=ye _
theorem den (a0:Notice)  : Den Tryz.prog 208 [.agg (yf a0)] (.bool (zsf a0)):=by
 generalize hR:zsf a0=r;unfold zsf at hR;refine di Tryz.func208 Tryz.ntmps208 Tryz.results208 ?_;intro c hL hc hk;obtain⟨hL0,_⟩:=hL;have hw0:bwNotice a0:=yi a0 hL0;clear hL0;simp only[pars,Nat.zero_add];iterate 2 refine rS ?_
 refine AWP.ret ?_;subst hR;exact es
end N208
def D_zsf : DF
 | [x0]=>some (.bool (zsf (rdG yc x0)),false,[wG yf yc x0])
 | _=>none
theorem y1y:OkD Tryz.prog 208 D_zsf:=by unfold D_zsf;exact dk N208.den
def zib (a0:Int):Bool:=
 (zg a0 0 99999)
namespace N92
theorem DD:DOk Tryz.prog (Go.Ab.DD [(101,dP D_zg)]):=ya yrc.e <| ye _
theorem dn:type_of% (@D_zg.eq_1):=by and_intros<;>intros<;>rfl
theorem ol:type_of% (@zg.eq_1):=@zg.eq_1
theorem den (a0:Int)  : Den Tryz.prog 92 [.int .i64 a0] (.bool (zib a0)):=by
 generalize hR:zib a0=r;unfold zib at hR;refine di Tryz.func92 Tryz.ntmps92 Tryz.results92 ?_;intro c hL hc hk;clear hL;simp only[pars,Nat.zero_add];iterate 2 refine rS ?_
 refine AWP.ret ?_;subst hR;exact es
end N92
def D_zib : DF
 | [x0]=>some (.bool (zib (rdI x0)),false,[wI .i64 x0])
 | _=>none
theorem y0f:OkD Tryz.prog 92 D_zib:=by unfold D_zib;exact dk N92.den
def zbg (a0:Notice) (a1:Notice):Bool:=
 ((a0.Kind == 4) && (a0.Target == a1.Target))
namespace N212
theorem DD:DOk Tryz.prog (Go.Ab.DD []):=ye _
theorem den (a0:Notice) (a1:Notice)  : Den Tryz.prog 212 [.agg (yf a0),.ep (yf a1)] (.bool (zbg a0 a1)):=by
 generalize hR:zbg a0 a1=r;unfold zbg at hR;refine di Tryz.func212 Tryz.ntmps212 Tryz.results212 ?_;intro c hL hc hk;obtain⟨hL0,hL1,_⟩:=hL;have hw0:bwNotice a0:=yi a0 hL0;have hw1:bwNotice a1:=yi a1 hL1;clear hL0 hL1;simp only[pars,Nat.zero_add];iterate 2 refine rS ?_
 refine AWP.ret ?_;subst hR;exact es
end N212
def D_zbg : DF
 | [x0,x1]=>some (.bool (zbg (rdG yc x0) (rdP yc x1)),false,[wG yf yc x0,wP yf yc x1])
 | _=>none
theorem y3v:OkD Tryz.prog 212 D_zbg:=by unfold D_zbg;exact dk N212.den
def yxl (a0:(List Notice)) (a1:Notice) (i1:Nat) (s1:Unit):Except (Int) (Unit):=
 (bif (zbg (a0.getD i1 default) a1)then .error (i1:Int)else .ok ())
def zdd (a0:(List Notice)) (a1:Notice):Int:=
 (match yh (yxl a0 a1) (a0.length-0) 0 ()with|.error e=>e|.ok s1=>(-1))
namespace N_zdd
theorem DD:DOk Tryz.prog (Go.Ab.DD [(212,dP D_zbg)]):=ya y3v.e <| ye _
theorem dn:type_of% (@D_zbg.eq_1):=by and_intros<;>intros<;>rfl
theorem den (a0:(List Notice)) (a1:Notice)  : Den Tryz.prog 210 [encL 20 yf a0,.fn 212 0 [.ep (yf a1)]] (.int .i64 (zdd a0 a1)):=by
 generalize hR:zdd a0 a1=r;unfold zdd at hR;refine di Tryz.func210 Tryz.ntmps210 Tryz.results210 ?_;intro c hL hc hk;obtain⟨hL0,hL1,_⟩:=hL;have hw0:a0.length<9223372036854775808:=Nat.lt_succ_of_le (yb hL0).1;have hw1:∀ v∈a0,bwNotice v:=fun v hv=>yi v ((yb hL0).2 v hv)
 have hw2:bwNotice a1:=yi a1 hL1.1;clear hL0 hL1;simp only[pars,Nat.zero_add];iterate 2 refine rS ?_
 refine AWP.block ?_;generalize hz1:yh (yxl a0 a1) (a0.length-0) 0 ()=z1 at hR;refine AWP.range (yxl a0 a1) (fun i1 s1=>⟨[(0,encL 20 yf a0),(1,.fn 212 0 [.ep (yf a1)]),(7,.int .i64 (a0.length:Int)),(8,.int .i64 (i1:Int))],[]⟩) (fun i1 s1=>True) (a0.length) 0 () [] hz1 ot wt sm ?_;clear hz1;intro i1 s1 hi1 hW1 hz1;refine rS ?_;refine AWP.seq ?_;refine AWP.cond rfl (fun hb => ?_) (fun hb => ?_)
 ·have hlt1:i1<a0.length:=ot
  rw[yp hlt1]at hz1;simp only[yxl]at hz1;iterate 2 refine rS ?_
  refine AWP.cond rfl (fun hb => ?_) (fun hb => ?_)
  ·simp only[hb,cond_true]at hz1
   refine rS ?_;refine AWP.ret ?_;subst hz1;dsimp only at hR;subst hR;exact es
  ·simp only[hb,cond_false]at hz1
   refine rS ?_;exact⟨_,[],hlt1,wt,hz1,sm⟩
 ·obtain rfl:i1=a0.length:=ot
  rw[yn (Nat.le_refl _)]at hz1;subst hz1;dsimp only at hR;refine AWP.exit ?_;refine yd ?_;refine rS ?_;refine AWP.ret ?_;subst hR;exact es
end N_zdd
def D_zdd : DF
 | [x0,(.fn f212_2 kf212_2 [y1])]=>some (.int .i64 (zdd (rdL yc x0) (rdP yc y1)),false,[wL 20 yf yc x0,y1=.ep (yf (rdP yc y1)),f212_2=212,kf212_2=0])
 | _=>none
theorem ysx:OkD Tryz.prog 210 D_zdd:=by
 intro xs r z ob h ho;unfold D_zdd at h;split at h
 ·simp only[Option.some.injEq,Prod.mk.injEq]at h
  obtain⟨rfl,rfl,rfl⟩:=h;obtain⟨h0,qy1,qf212_2,qkf212_2,_⟩:=ho;exact Den.sim (N_zdd.den _ _ ) (yz (yfd h0).1 <| yz (by subst qf212_2 qkf212_2;rw[<- qy1];exact yyc _) <| trivial) (y9 (yfd h0).2 <| y9 (by rw[qy1];rfl) <| rfl) rfl
 ·cases h
def zje (a0:(List Notice)) (a1:Notice):Bool:=
 decide (0<=(zdd a0 a1))
namespace N_zje
theorem DD:DOk Tryz.prog (Go.Ab.DD [(210,dP D_zdd)]):=ya ysx.e <| ye _
theorem dn:type_of% (@D_zdd.eq_1):=by and_intros<;>intros<;>rfl
theorem den (a0:(List Notice)) (a1:Notice)  : Den Tryz.prog 147 [encL 20 yf a0,.fn 212 0 [.ep (yf a1)]] (.bool (zje a0 a1)):=by
 generalize hR:zje a0 a1=r;unfold zje at hR;refine di Tryz.func147 Tryz.ntmps147 Tryz.results147 ?_;intro c hL hc hk;obtain⟨hL0,hL1,_⟩:=hL;have hw0:a0.length<9223372036854775808:=Nat.lt_succ_of_le (yb hL0).1;have hw1:∀ v∈a0,bwNotice v:=fun v hv=>yi v ((yb hL0).2 v hv)
 have hw2:bwNotice a1:=yi a1 hL1.1;clear hL0 hL1;simp only[pars,Nat.zero_add];iterate 2 refine rS ?_
 refine AWP.ret ?_;subst hR;exact es
end N_zje
def D_zje : DF
 | [x0,(.fn f212_2 kf212_2 [y1])]=>some (.bool (zje (rdL yc x0) (rdP yc y1)),false,[wL 20 yf yc x0,y1=.ep (yf (rdP yc y1)),f212_2=212,kf212_2=0])
 | _=>none
theorem yxw:OkD Tryz.prog 147 D_zje:=by
 intro xs r z ob h ho;unfold D_zje at h;split at h
 ·simp only[Option.some.injEq,Prod.mk.injEq]at h
  obtain⟨rfl,rfl,rfl⟩:=h;obtain⟨h0,qy1,qf212_2,qkf212_2,_⟩:=ho;exact Den.sim (N_zje.den _ _ ) (yz (yfd h0).1 <| yz (by subst qf212_2 qkf212_2;rw[<- qy1];exact yyc _) <| trivial) (y9 (yfd h0).2 <| y9 (by rw[qy1];rfl) <| rfl) rfl
 ·cases h
def zff (a0:Notice) (a1:(List Notice)):Bool:=
 (bif (decide ((zlb a1 a0)<0) || (((a1.getD (((zlb a1 a0)).toNat) default).Kind) == 4))then false else(!(zje a1 a0)))
namespace N144
theorem DD:DOk Tryz.prog (Go.Ab.DD [(147,dP D_zje),(210,dP D_zlb)]):=ya yxw.e <| ya ykx.e <| ye _
theorem dn:type_of% (And.intro @D_zje.eq_1 <| @D_zlb.eq_1):=by and_intros<;>intros<;>rfl
theorem gr {p:Prop} (h:p:=by(grind [yrz]);first|done|fail):p:=h
theorem o0 {p:Prop} (h:p:=by(first|(intro h;simp at h;omega));first|done|fail):p:=h
theorem den (a0:Notice) (a1:(List Notice))  : Den Tryz.prog 144 [.agg (yf a0),encL 20 yf a1] (.bool (zff a0 a1)):=by
 generalize hR:zff a0 a1=r;unfold zff at hR;refine di Tryz.func144 Tryz.ntmps144 Tryz.results144 ?_;intro c hL hc hk;obtain⟨hL0,hL1,_⟩:=hL;have hw0:bwNotice a0:=yi a0 hL0;have hw1:a1.length<9223372036854775808:=Nat.lt_succ_of_le (yb hL1).1;have hw2:∀ v∈a1,bwNotice v:=fun v hv=>yi v ((yb hL1).2 v hv)
 clear hL0 hL1;simp only[pars,Nat.zero_add];have hix:=yrz a1 a0;iterate 3 refine rS ?_
 refine AWP.cond rfl (fun hb => ?_) (fun hb => ?_)
 ·replace hR:=ct hR
  refine rS ?_;refine AWP.ret ?_;subst hR;exact es
 ·replace hR:=cf hR
  refine rS ?_;refine AWP.ret ?_;subst hR;exact es
end N144
def D_zff : DF
 | [x0,x1]=>some (.bool (zff (rdG yc x0) (rdL yc x1)),false,[wG yf yc x0,wL 20 yf yc x1])
 | _=>none
theorem yhy:OkD Tryz.prog 144 D_zff:=by unfold D_zff;exact dk N144.den
def zcg (a0:Notice) (a1:Notice) (a2:Int):Bool:=
 (((a0.Kind == 4) && (a0.Target == a1.Number)) && decide (a0.Day<=a2))
namespace N148
theorem DD:DOk Tryz.prog (Go.Ab.DD []):=ye _
theorem den (a0:Notice) (a1:Notice) (a2:Int)  : Den Tryz.prog 148 [.agg (yf a0),.ep (yf a1),.ep (yu a2)] (.bool (zcg a0 a1 a2)):=by
 generalize hR:zcg a0 a1 a2=r;unfold zcg at hR;refine di Tryz.func148 Tryz.ntmps148 Tryz.results148 ?_;intro c hL hc hk;obtain⟨hL0,hL1,hL2,_⟩:=hL;have hw0:bwNotice a0:=yi a0 hL0;have hw1:bwNotice a1:=yi a1 hL1;clear hL0 hL1 hL2;simp only[pars,Nat.zero_add];iterate 2 refine rS ?_
 refine AWP.ret ?_;subst hR;exact es
end N148
def D_zcg : DF
 | [x0,x1,x2]=>some (.bool (zcg (rdG yc x0) (rdP yc x1) (rdP yhb x2)),false,[wG yf yc x0,wP yf yc x1,wP yu yhb x2])
 | _=>none
theorem yzx:OkD Tryz.prog 148 D_zcg:=by unfold D_zcg;exact dk N148.den
def yqm (a0:(List Notice)) (a1:Notice) (a2:Int) (i1:Nat) (s1:Unit):Except (Int) (Unit):=
 (bif (zcg (a0.getD i1 default) a1 a2)then .error (i1:Int)else .ok ())
def zed (a0:(List Notice)) (a1:Notice) (a2:Int):Int:=
 (match yh (yqm a0 a1 a2) (a0.length-0) 0 ()with|.error e=>e|.ok s1=>(-1))
namespace N_zed
theorem DD:DOk Tryz.prog (Go.Ab.DD [(148,dP D_zcg)]):=ya yzx.e <| ye _
theorem dn:type_of% (@D_zcg.eq_1):=by and_intros<;>intros<;>rfl
theorem den (a0:(List Notice)) (a1:Notice) (a2:Int)  : Den Tryz.prog 210 [encL 20 yf a0,.fn 148 0 [.ep (yf a1),.ep (yu a2)]] (.int .i64 (zed a0 a1 a2)):=by
 generalize hR:zed a0 a1 a2=r;unfold zed at hR;refine di Tryz.func210 Tryz.ntmps210 Tryz.results210 ?_;intro c hL hc hk;obtain⟨hL0,hL1,_⟩:=hL;have hw0:a0.length<9223372036854775808:=Nat.lt_succ_of_le (yb hL0).1;have hw1:∀ v∈a0,bwNotice v:=fun v hv=>yi v ((yb hL0).2 v hv)
 have hw2:bwNotice a1:=yi a1 hL1.1;clear hL0 hL1;simp only[pars,Nat.zero_add];iterate 2 refine rS ?_
 refine AWP.block ?_;generalize hz1:yh (yqm a0 a1 a2) (a0.length-0) 0 ()=z1 at hR;refine AWP.range (yqm a0 a1 a2) (fun i1 s1=>⟨[(0,encL 20 yf a0),(1,.fn 148 0 [.ep (yf a1),.ep (yu a2)]),(7,.int .i64 (a0.length:Int)),(8,.int .i64 (i1:Int))],[]⟩) (fun i1 s1=>True) (a0.length) 0 () [] hz1 ot wt sm ?_;clear hz1;intro i1 s1 hi1 hW1 hz1;refine rS ?_;refine AWP.seq ?_;refine AWP.cond rfl (fun hb => ?_) (fun hb => ?_)
 ·have hlt1:i1<a0.length:=ot
  rw[yp hlt1]at hz1;simp only[yqm]at hz1;iterate 2 refine rS ?_
  refine AWP.cond rfl (fun hb => ?_) (fun hb => ?_)
  ·simp only[hb,cond_true]at hz1
   refine rS ?_;refine AWP.ret ?_;subst hz1;dsimp only at hR;subst hR;exact es
  ·simp only[hb,cond_false]at hz1
   refine rS ?_;exact⟨_,[],hlt1,wt,hz1,sm⟩
 ·obtain rfl:i1=a0.length:=ot
  rw[yn (Nat.le_refl _)]at hz1;subst hz1;dsimp only at hR;refine AWP.exit ?_;refine yd ?_;refine rS ?_;refine AWP.ret ?_;subst hR;exact es
end N_zed
def D_zed : DF
 | [x0,(.fn f148_3 kf148_3 [y1,y2])]=>some (.int .i64 (zed (rdL yc x0) (rdP yc y1) (rdP yhb y2)),false,[wL 20 yf yc x0,y1=.ep (yf (rdP yc y1)),y2=.ep (yu (rdP yhb y2)),f148_3=148,kf148_3=0])
 | _=>none
theorem yhv:OkD Tryz.prog 210 D_zed:=by
 intro xs r z ob h ho;unfold D_zed at h;split at h
 ·simp only[Option.some.injEq,Prod.mk.injEq]at h
  obtain⟨rfl,rfl,rfl⟩:=h;obtain⟨h0,qy1,qy2,qf148_3,qkf148_3,_⟩:=ho;exact Den.sim (N_zed.den _ _ _ ) (yz (yfd h0).1 <| yz (by subst qf148_3 qkf148_3;rw[<- qy1, <- qy2];exact yyc _) <| trivial) (y9 (yfd h0).2 <| y9 (by rw[qy1,qy2];rfl) <| rfl) rfl
 ·cases h
def zee (a0:(List Notice)) (a1:Notice) (a2:Int):Bool:=
 decide (0<=(zed a0 a1 a2))
namespace N_zee
theorem DD:DOk Tryz.prog (Go.Ab.DD [(210,dP D_zed)]):=ya yhv.e <| ye _
theorem dn:type_of% (@D_zed.eq_1):=by and_intros<;>intros<;>rfl
theorem den (a0:(List Notice)) (a1:Notice) (a2:Int)  : Den Tryz.prog 147 [encL 20 yf a0,.fn 148 0 [.ep (yf a1),.ep (yu a2)]] (.bool (zee a0 a1 a2)):=by
 generalize hR:zee a0 a1 a2=r;unfold zee at hR;refine di Tryz.func147 Tryz.ntmps147 Tryz.results147 ?_;intro c hL hc hk;obtain⟨hL0,hL1,_⟩:=hL;have hw0:a0.length<9223372036854775808:=Nat.lt_succ_of_le (yb hL0).1;have hw1:∀ v∈a0,bwNotice v:=fun v hv=>yi v ((yb hL0).2 v hv)
 have hw2:bwNotice a1:=yi a1 hL1.1;clear hL0 hL1;simp only[pars,Nat.zero_add];iterate 2 refine rS ?_
 refine AWP.ret ?_;subst hR;exact es
end N_zee
def D_zee : DF
 | [x0,(.fn f148_3 kf148_3 [y1,y2])]=>some (.bool (zee (rdL yc x0) (rdP yc y1) (rdP yhb y2)),false,[wL 20 yf yc x0,y1=.ep (yf (rdP yc y1)),y2=.ep (yu (rdP yhb y2)),f148_3=148,kf148_3=0])
 | _=>none
theorem ydy:OkD Tryz.prog 147 D_zee:=by
 intro xs r z ob h ho;unfold D_zee at h;split at h
 ·simp only[Option.some.injEq,Prod.mk.injEq]at h
  obtain⟨rfl,rfl,rfl⟩:=h;obtain⟨h0,qy1,qy2,qf148_3,qkf148_3,_⟩:=ho;exact Den.sim (N_zee.den _ _ _ ) (yz (yfd h0).1 <| yz (by subst qf148_3 qkf148_3;rw[<- qy1, <- qy2];exact yyc _) <| trivial) (y9 (yfd h0).2 <| y9 (by rw[qy1,qy2];rfl) <| rfl) rfl
 ·cases h
def yen (a0:(List Notice)) (a1:Int) (i1:Nat) (s1:List Notice):Except ((List Notice)) (List Notice):=
 (bif (((((a0.getD i1 default).Kind) != 4) && decide (((a0.getD i1 default).Day)<=a1)) && (!(zee a0 (a0.getD i1 default) a1)))then .ok (s1++[(a0.getD i1 default)])else .ok s1)
def zk (a0:(List Notice)) (a1:Int):(List Notice):=
 (match yh (yen a0 a1) (a0.length-0) 0 ([]:List Notice)with|.error e=>e|.ok s1=>s1)
namespace N94
theorem DD:DOk Tryz.prog (Go.Ab.DD [(147,dP D_zee)]):=ya ydy.e <| ye _
theorem dn:type_of% (@D_zee.eq_1):=by and_intros<;>intros<;>rfl
theorem o2 {p:Prop} (h:p:=by(first|(and_intros<;>first|rfl|decide|(rw[IntKind.wrap_i64];omega)|(simp only[List.length_append,List.length_singleton];(first|done|fail))|(intro j hj;by_cases hji:j<s1.length;(focus(simp only[yyl hji,yts hji,cond_true];first|(first|done|fail)|rfl|(and_intros<;>rfl)));(simp only[y4n hji hj,yyu hji,cond_false];first|(first|done|fail)|rfl|(and_intros<;>rfl)))));first|done|fail):p:=h
set_option maxHeartbeats 2000000 in
set_option maxRecDepth 20000 in
theorem den (a0:(List Notice)) (a1:Int) (hb0:a0.length<1099511627776) (hb1:∀ v∈a0,bdNotice v) (hp0:a0.length<=1073741824):Den Tryz.prog 94 [encL 20 yf a0,.int .i64 a1] (ownL 140 20 yf (zk a0 a1)):=by
 generalize hR:zk a0 a1=r;unfold zk at hR;refine di Tryz.func94 Tryz.ntmps94 Tryz.results94 ?_;intro c hL hc hk;obtain⟨hL0,hL1,_⟩:=hL;have hw0:a0.length<9223372036854775808:=Nat.lt_succ_of_le (yb hL0).1;have hw1:∀ v∈a0,bwNotice v:=fun v hv=>yi v ((yb hL0).2 v hv)
 clear hL0 hL1;simp only[pars,Nat.zero_add];iterate 3 refine rS ?_
 refine AWP.block ?_;generalize hz1:yh (yen a0 a1) (a0.length-0) 0 ([]:List Notice)=z1 at hR;refine AWP.range (yen a0 a1) (fun i1 s1=>⟨[(0,encL 20 yf a0),(3,.ptr 0 0),(5,.ref 1 20 0 s1.length),(10,encL 20 yf a0),(11,.int .i64 (a0.length:Int)),(12,.int .i64 (i1:Int))],[.box [.int .i64 a1],.arr 140 20 s1.length (fun j=>yf (s1.getD j default))]⟩) (fun i1 s1=>s1.length<=([]:List Notice).length+1 * i1) (a0.length) 0 ([]:List Notice) [0,1] hz1 ot wt sm ?_;clear hz1;intro i1 s1 hi1 hW1 hz1;refine rS ?_;refine AWP.seq ?_;refine AWP.cond rfl (fun hb => ?_) (fun hb => ?_)
 ·have hlt1:i1<a0.length:=ot
  rw[yp hlt1]at hz1;simp only[yen]at hz1;iterate 3 refine rS ?_
  refine AWP.cond rfl (fun hb => ?_) (fun hb => ?_)
  ·simp only[hb,cond_true]at hz1
   iterate 2 refine rS ?_
   exact⟨_,[0,4],hlt1,wt,hz1,sm⟩
  ·simp only[hb,cond_false]at hz1
   refine rS ?_;exact⟨_,[0,1],hlt1,wt,hz1,sm⟩
 ·obtain rfl:i1=a0.length:=ot
  rw[yn (Nat.le_refl _)]at hz1;subst hz1;dsimp only at hR;refine AWP.exit ?_;refine yd ?_;refine rS ?_;refine AWP.ret ?_;subst hR;exact es
end N94
def D_zk : DF
 | [x0,x1]=>some (ownL 140 20 yf (zk (rdL yc x0) (rdI x1)),false,[wL 20 yf yc x0,wI .i64 x1,(rdL yc x0).length<1099511627776,∀ v∈(rdL yc x0),bdNotice v,(rdL yc x0).length<=1073741824])
 | _=>none
theorem y3s:OkD Tryz.prog 94 D_zk:=by unfold D_zk;exact dk N94.den
theorem y7e (P:Notice->Prop) (a:List Notice) (d:Int) (hP:∀ v∈a,P v):(zk a d).length<=a.length/\∀ v∈zk a d,P v:=by
 unfold zk
 obtain⟨t,h1,h2⟩:=y4e (b:=yen a d) (fun j s=>s.length<=j/\∀ v∈s,P v) (k:=a.length-0) (i:=0) (s:=[]) ⟨by simp,fun v hv=>by simp at hv⟩ (by
  intro j u _ hj h;simp only[yen]
  cases(((((a.getD j default).Kind) != 4) && decide (((a.getD j default).Day)<=d)) && (!(zee a (a.getD j default) d)))with
  | true=>
   refine⟨_,rfl,by simp;exact h.1,fun v hv => ?_⟩;rcases List.mem_append.1 hv with hv|hv
   ·exact h.2 v hv
   ·have:v=a.getD j default:=by simpa using hv
    subst this;rw[List.getD_eq_getElem?_getD,List.getElem?_eq_getElem (show j<a.length by omega)];exact hP _ (List.getElem_mem (by omega))
  | false=>exact⟨_,rfl,by omega,h.2⟩)
 rw[h1];simpa using h2
theorem ygc (a:List Notice) (d:Int):(zk a d).length<=a.length:=(y7e (fun _=>True) a d (fun _ _=>trivial)).1
end Go.Ab
