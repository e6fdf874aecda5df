/- A part of a proof: walks of functions and lemmas of our own. No conditions. -/
import Derived.Test.YtopoomikfjodkaaGreatDoorQAz
import Derived.Test.YtopoomikfjodkaaGreatDoorQAt
import Derived.Test.YtopoomikfjodkaaGreatDoorQAo
import Derived.Test.YtopoomikfjodkaaGreatDoorQAr
import Derived.Test.YtopoomikfjodkaaGreatDoorQAu
import Derived.Test.YtopoomikfjodkaaGreatDoorQAl
import Derived.Test.YtopoomikfjodkaaGreatDoorQAk
import Derived.Test.YtopoomikfjodkaaGreatDoorQAq
import Derived.Test.YtopoomikfjodkaaGreatDoorQAs
import Derived.Test.YtopoomikfjodkaaGreatDoorQAx
import Derived.Test.YtopoomikfjodkaaGreatDoorQAy
import Derived.Test.YtopoomikfjodkaaGreatDoorQAw
set_option linter.unusedSectionVars false
set_option linter.unusedVariables false
set_option linter.unusedSimpArgs false
set_option maxHeartbeats 1000000
namespace Go.Ab
open Go Go.Proofs
theorem yro (c:UInt8):∀ a:List UInt8,(c∉a∧Lib.cut a [c]=(a,[],false)∧yn c a=[a])∨∃ l t,a=l++c::t∧c∉l∧Lib.cut a [c]=(l,t,true)∧yn c a=l::yn c t:=by
 intro a
 by_cases h:c∈a
 ·right
  obtain⟨l,t,e,hl⟩:∃ l t,a=l++c::t∧c∉l:=by
   induction a with
   | nil=>simp at h
   | cons b a ih=>
    by_cases hb:c=b
    ·exact⟨[],a,by rw[hb];rfl,by simp⟩
    ·have h2:c∈a:=by
      rcases List.mem_cons.1 h with h|h
      ·exact absurd h hb
      ·exact h
     obtain⟨l,t,e,hl⟩:=ih h2
     exact⟨b::l,t,by rw[e];rfl,by simp[hb,hl]⟩
  exact⟨l,t,e,hl,by rw[e];exact yef l t c hl,by rw[e];exact yrb c l t hl⟩
 ·exact .inl ⟨h,ybj a c h,yqb c a h⟩
theorem y8u (c:UInt8) (a:List UInt8) (h:(yn c a).length=1):c∉a:=by
 rcases yro c a with⟨h1,_,_⟩|⟨l,t,_,_,_,h4⟩
 ·exact h1
 ·rw[h4,List.length_cons]at h
  have:=List.length_pos_iff.2 (yjf c t)
  omega
theorem yrv (n:Int):∀ b∈Lib.itoa n,b=45∨(48≤b.toNat∧b.toNat≤57):=by
 intro b hb
 by_cases h:n<0
 ·rw[ysb h]at hb
  rcases List.mem_cons.1 hb with hb|hb
  ·exact .inl hb
  ·exact .inr ((y6 n.natAbs).1 b hb)
 ·rw[ywd h]at hb
  exact .inr ((y6 n.natAbs).1 b hb)
theorem yyn (n:Int) (c:UInt8) (h1:c≠45) (h2:c.toNat<48∨57<c.toNat):c∉Lib.itoa n:=fun h=>by
 rcases yrv n c h with h|h
 ·exact h1 h
 ·omega
theorem yfn (n:Int):Lib.itoa n≠[]:=(yal n).2
theorem yxe {w:List UInt8} (hw:w.length≤1048576):(zg w).2=true→w=Lib.itoa (zg w).1∧(zg w).1.natAbs<E18:=by
 intro h
 rcases y8b w hw with⟨n,h1,h2,h3⟩|⟨_,h3⟩
 ·rw[h3];exact⟨h2,h1⟩
 ·rw[h3]at h;cases h
theorem yp7 {w:List UInt8} (hw:w.length≤1048576) (c:UInt8) (h1:c≠45) (h2:c.toNat<48∨57<c.toNat) (hc:c∈w):zg w=(0,false):=by
 rcases y8b w hw with⟨n,_,h4,_⟩|⟨_,h3⟩
 ·rw[h4]at hc;exact absurd hc (yyn n c h1 h2)
 ·exact h3
theorem yc5:zg []=(0,false):=by
 rcases y8b [] (by simp)with⟨n,_,h4,_⟩|⟨_,h3⟩
 ·exact absurd h4.symm (yfn n)
 ·exact h3
theorem yei (w:List UInt8) (hw:w.length≤1048576):zk w=zg w:=ydq w hw
theorem yxj (a:List UInt8) (c:UInt8) (n:Int) (hc:(c.toNat:Int)=n) (ha:a.length≤1048576):za a n=yn c a:=by
 rw[← hc];exact yoj a c (by omega)
theorem yhz (a:List UInt8) (c:UInt8):zd a [c]=yn c a:=rfl
theorem cutI (a:List UInt8) (c:UInt8):zb a [c]=Lib.cut a [c]:=rfl
theorem y3x (a:List UInt8) (ha:a.length≤1048576):zud a=zsb a:=by
 unfold zud zsb
 rw[cutI,yxj a 44 44 rfl ha]
 rcases yro 44 a with⟨h1,h2,h3⟩|⟨l,t,e,h1,h2,h3⟩
 ·rw[h2,h3]
  simp only
  rw[yei [] (by simp),yc5]
  simp
 ·have hlen:a.length=l.length+1+t.length:=by rw[e];simp;omega
  rw[h2,h3]
  simp only
  rw[yei l (by omega),yei t (by omega)]
  by_cases ht:(44:UInt8)∈t
  ·rw[yp7 (by omega) 44 (by decide) (by decide) ht]
   have hq:2≤(yn 44 t).length:=by
    have:=List.length_pos_iff.2 (yjf 44 t)
    by_cases h:(yn 44 t).length=1
    ·exact absurd ht (y8u 44 t h)
    ·omega
   have:(((l::yn 44 t).length:Int) != 2)=true:=by rw[bne_iff_ne,List.length_cons];omega
   rw[this]
   simp
  ·rw[yqb 44 t ht]
   rfl
theorem y7r (a:List UInt8) (ha:a.length≤1048576) (h:(zsb a).2=true):zcc (zsb a).1=true∧a=zig (zsb a).1:=by
 unfold zsb at h ⊢
 rw[yxj a 44 44 rfl ha]at h ⊢
 cases hl:(((yn 44 a).length:Int) != 2)with
 | true=>rw[hl]at h;cases h
 | false=>
  rw[hl,cond_false]at h
  rw[cond_false]
  have hl:(yn 44 a).length=2:=by have h:=hl;simp at h;omega
  obtain⟨x,y,e⟩:∃ x y,yn 44 a=[x,y]:=by
   match yn 44 a,hl with
   | [x,y],_=>exact⟨x,y,rfl⟩
  have hj:=y8d 44 a
  have hsl:=(y5 44 a).2
  rw[e]at hj h hsl ⊢
  have hx:x.length≤1048576:=by have:=hsl x (by simp);omega
  have hy:y.length≤1048576:=by have:=hsl y (by simp);omega
  simp only[List.getD_cons_zero,List.getD_cons_succ]at h ⊢
  cases hc:(((!((zg x).2)) || (!((zg y).2))) || (!(zcc ({ X:=(zg x).1,Y:=(zg y).1:Point }))))with
  | true=>rw[hc]at h;cases h
  | false=>
   rw[cond_false]
   simp only[Bool.or_eq_false_iff,Bool.not_eq_false']at hc
   have hr:=yay hc.2
   refine⟨hc.2,?_⟩
   unfold zig
   simp only at hr ⊢
   rw[y1f _ (by omega) (by omega),y1f _ (by omega) (by omega), ← (yxe hx hc.1.1).1, ← (yxe hy hc.1.2).1, ← hj]
   simp[yyi]
end Go.Ab

namespace Go.Ab
open Go Go.Proofs
def zmc (a0:(List UInt8)):(Mark×Bool):=
 (bif (a0 == (zuc 0))then({ Kind:=0,Colors:=[],Shape:=[],Topmark:=[]:Mark },true)else(bif (((zt a0).length:Int) != 4)then({ Kind:=0,Colors:=[],Shape:=[],Topmark:=[]:Mark },false)else(bif (((zt a0).getD 3 default) == [45])then(bif (((!((zpc ((zt a0).getD 0 default)).2)) || (!(zoc ({ Kind:=(zpc ((zt a0).getD 0 default)).1,Colors:=((zt a0).getD 1 default),Shape:=((zt a0).getD 2 default),Topmark:=[]:Mark })))) || ((zrd ({ Kind:=(zpc ((zt a0).getD 0 default)).1,Colors:=((zt a0).getD 1 default),Shape:=((zt a0).getD 2 default),Topmark:=[]:Mark })) != a0))then({ Kind:=0,Colors:=[],Shape:=[],Topmark:=[]:Mark },false)else({ Kind:=(zpc ((zt a0).getD 0 default)).1,Colors:=((zt a0).getD 1 default),Shape:=((zt a0).getD 2 default),Topmark:=[]:Mark },true))else(bif (((!((zpc ((zt a0).getD 0 default)).2)) || (!(zoc ({ Kind:=(zpc ((zt a0).getD 0 default)).1,Colors:=((zt a0).getD 1 default),Shape:=((zt a0).getD 2 default),Topmark:=((zt a0).getD 3 default):Mark })))) || ((zrd ({ Kind:=(zpc ((zt a0).getD 0 default)).1,Colors:=((zt a0).getD 1 default),Shape:=((zt a0).getD 2 default),Topmark:=((zt a0).getD 3 default):Mark })) != a0))then({ Kind:=0,Colors:=[],Shape:=[],Topmark:=[]:Mark },false)else({ Kind:=(zpc ((zt a0).getD 0 default)).1,Colors:=((zt a0).getD 1 default),Shape:=((zt a0).getD 2 default),Topmark:=((zt a0).getD 3 default):Mark },true)))))
namespace N15
theorem DD:DOk Tryz.prog (Go.Ab.DD [(16,dP D_zrd),(17,dP D_zoc),(21,dP D_zpc),(22,dP D_zuc),(82,dP D_zt)]):=ya y1u.e <| ya y2m.e <| ya yz1.e <| ya yvm.e <| ya yc6.e <| ye _
theorem dn:type_of% (And.intro @D_zrd.eq_1 <| And.intro @D_zoc.eq_1 <| And.intro @D_zpc.eq_1 <| And.intro @D_zuc.eq_1 <| @D_zt.eq_1):=by and_intros<;>intros<;>rfl
set_option maxHeartbeats 1000000 in
set_option maxRecDepth 20000 in
theorem den (a0:(List UInt8)) (hb0:a0.length<1099511627776) (hp0:a0.length≤1048576):Den Tryz.prog 15 [.str a0] (.tup [.agg (y6c ((zmc a0).1)),.bool ((zmc a0).2)]):=by
 generalize hR:zmc a0=r
 unfold zmc at hR
 refine di Tryz.func15 Tryz.ntmps15 Tryz.results15 ?_
 intro c hL hc hk
 obtain⟨hL0,_⟩:=hL
 have hw0:a0.length<9223372036854775808:=Nat.lt_succ_of_le hL0
 clear hL0
 simp only[pars,Nat.zero_add]
 have hs9:=y07 a0 (by omega)
 have hs0:=ywf hs9 0
 have hs1:=ywf hs9 1
 have hs2:=ywf hs9 2
 have hs3:=ywf hs9 3
 iterate 2 refine rS ?_
 refine AWP.cond rfl (fun hb => ?_) (fun hb => ?_)
 ·replace hR:=ct hR
  refine rS ?_
  refine AWP.ret ?_
  subst hR
  exact es
 ·replace hR:=cf hR
  iterate 2 refine rS ?_
  refine AWP.cond rfl (fun hb => ?_) (fun hb => ?_)
  ·replace hR:=ct hR
   refine rS ?_
   refine AWP.ret ?_
   subst hR
   exact es
  ·replace hR:=cf hR
   iterate 3 refine rS ?_
   refine AWP.cond rfl (fun hb => ?_) (fun hb => ?_)
   ·replace hR:=ct hR
    refine rS ?_
    refine AWP.seq ?_
    refine AWP.regP mixed G_ok DD hc 10 [0,1,2,3,4,5,6,7,8] (.alt 9 [] [0,1,2,3,4,5,6,7,8] .leaf .stop) (by kernel_rfl) (by kernel_rfl) (by kernel_rfl) (fun K hK => ?_);simp only[yeg,runN,runP,ywb,nthO,ea,absV,absVL,cput,gv,sv,dn,reduceCtorEq,reduceIte,Nat.reduceBEq,Nat.reduceAdd,Nat.reduceEqDiff,Nat.reduceLT,Nat.reduceLeDiff,Nat.reduceMul,Nat.reduceSub,BEq.rfl,beq_self_eq_true,Int.reduceToNat]
    repeat' apply And.intro
    all_goals first|refine hK _ ?_|exact ot
    all_goals clear hK K
    refine rS ?_
    refine AWP.cond rfl (fun hb => ?_) (fun hb => ?_)
    ·replace hR:=ct hR
     refine rS ?_
     refine AWP.ret ?_
     subst hR
     exact es
    ·replace hR:=cf hR
     refine rS ?_
     refine AWP.ret ?_
     subst hR
     exact es
   ·replace hR:=cf hR
    refine AWP.skip ?_
    refine AWP.seq ?_
    refine AWP.regP mixed G_ok DD hc 10 [0,1,2,3,4,5,6,7,8] (.alt 9 [] [0,1,2,3,4,5,6,7,8] .leaf .stop) (by kernel_rfl) (by kernel_rfl) (by kernel_rfl) (fun K hK => ?_);simp only[yeg,runN,runP,ywb,nthO,ea,absV,absVL,cput,gv,sv,dn,reduceCtorEq,reduceIte,Nat.reduceBEq,Nat.reduceAdd,Nat.reduceEqDiff,Nat.reduceLT,Nat.reduceLeDiff,Nat.reduceMul,Nat.reduceSub,BEq.rfl,beq_self_eq_true,Int.reduceToNat]
    repeat' apply And.intro
    all_goals first|refine hK _ ?_|exact ot
    all_goals clear hK K
    refine rS ?_
    refine AWP.cond rfl (fun hb => ?_) (fun hb => ?_)
    ·replace hR:=ct hR
     refine rS ?_
     refine AWP.ret ?_
     subst hR
     exact es
    ·replace hR:=cf hR
     refine rS ?_
     refine AWP.ret ?_
     subst hR
     exact es
end N15
def D_zmc : DF
 | [x0]=>some (.tup [.agg (y6c ((zmc (rdS x0)).1)),.bool ((zmc (rdS x0)).2)],false,[wS x0,(rdS x0).length<1099511627776,(rdS x0).length≤1048576])
 | _=>none
theorem y4z:OkD Tryz.prog 15 D_zmc:=by unfold D_zmc;exact dk N15.den
end Go.Ab

namespace Go.Ab
open Go Go.Proofs
def zje (a0:(List UInt8)):(Mark×Bool):=
 (bif (a0 == [110,111,110,101])then({ Kind:=0,Colors:=[],Shape:=[],Topmark:=[]:Mark },true)else(bif (((za a0 32).length:Int) != 4)then({ Kind:=0,Colors:=[],Shape:=[],Topmark:=[]:Mark },false)else(bif (((za a0 32).getD 3 default) == [45])then(bif (((!(zxb (zfd ((za a0 32).getD 0 default)))) || (!(zz ({ Kind:=(zfd ((za a0 32).getD 0 default)),Colors:=((za a0 32).getD 1 default),Shape:=((za a0 32).getD 2 default),Topmark:=[]:Mark })))) || ((zxc ({ Kind:=(zfd ((za a0 32).getD 0 default)),Colors:=((za a0 32).getD 1 default),Shape:=((za a0 32).getD 2 default),Topmark:=[]:Mark })) != a0))then({ Kind:=0,Colors:=[],Shape:=[],Topmark:=[]:Mark },false)else({ Kind:=(zfd ((za a0 32).getD 0 default)),Colors:=((za a0 32).getD 1 default),Shape:=((za a0 32).getD 2 default),Topmark:=[]:Mark },true))else(bif (((!(zxb (zfd ((za a0 32).getD 0 default)))) || (!(zz ({ Kind:=(zfd ((za a0 32).getD 0 default)),Colors:=((za a0 32).getD 1 default),Shape:=((za a0 32).getD 2 default),Topmark:=((za a0 32).getD 3 default):Mark })))) || ((zxc ({ Kind:=(zfd ((za a0 32).getD 0 default)),Colors:=((za a0 32).getD 1 default),Shape:=((za a0 32).getD 2 default),Topmark:=((za a0 32).getD 3 default):Mark })) != a0))then({ Kind:=0,Colors:=[],Shape:=[],Topmark:=[]:Mark },false)else({ Kind:=(zfd ((za a0 32).getD 0 default)),Colors:=((za a0 32).getD 1 default),Shape:=((za a0 32).getD 2 default),Topmark:=((za a0 32).getD 3 default):Mark },true)))))
namespace N297
theorem DD:DOk Tryz.prog (Go.Ab.DD [(165,dP D_za),(273,dP D_zz),(281,dP D_zxc),(307,dP D_zxb),(345,dP D_zfd)]):=ya yxh.e <| ya ymw.e <| ya yjz.e <| ya ywu.e <| ya yh2.e <| ye _
theorem dn:type_of% (And.intro @D_za.eq_1 <| And.intro @D_zz.eq_1 <| And.intro @D_zxc.eq_1 <| And.intro @D_zxb.eq_1 <| @D_zfd.eq_1):=by and_intros<;>intros<;>rfl
theorem gr {p:Prop} (h:p:=by(grind [y3,yec]);first|done|fail):p:=h
set_option maxHeartbeats 1000000 in
set_option maxRecDepth 20000 in
theorem den (a0:(List UInt8)) (hb0:a0.length<1099511627776) (hp0:a0.length≤1048576):Den Tryz.prog 297 [.str a0] (.tup [.agg (y6c ((zje a0).1)),.bool ((zje a0).2)]):=by
 generalize hR:zje a0=r
 unfold zje at hR
 refine di Tryz.func297 Tryz.ntmps297 Tryz.results297 ?_
 intro c hL hc hk
 obtain⟨hL0,_⟩:=hL
 have hw0:a0.length<9223372036854775808:=Nat.lt_succ_of_le hL0
 clear hL0
 simp only[pars,Nat.zero_add]
 have s0_:=yud a0 32 32 rfl (by omega) 0
 have s1_:=yud a0 32 32 rfl (by omega) 1
 have s2_:=yud a0 32 32 rfl (by omega) 2
 have s3_:=yud a0 32 32 rfl (by omega) 3
 iterate 2 refine rS ?_
 refine AWP.cond rfl (fun hb => ?_) (fun hb => ?_)
 ·replace hR:=ct hR
  refine rS ?_
  refine AWP.ret ?_
  subst hR
  exact es
 ·replace hR:=cf hR
  iterate 2 refine rS ?_
  refine AWP.cond rfl (fun hb => ?_) (fun hb => ?_)
  ·replace hR:=ct hR
   refine rS ?_
   refine AWP.ret ?_
   subst hR
   exact es
  ·replace hR:=cf hR
   refine AWP.skip ?_
   refine AWP.seq ?_
   refine AWP.regP mixed G_ok DD hc 15 [0,1,2,3,4,5,6,7,8,9,10,11,12,13] (.alt 14 [] [0,1,2,3,4,5,6,7,8,9,10,11,12,13] .leaf .stop) (by kernel_rfl) (by kernel_rfl) (by kernel_rfl) (fun K hK => ?_);simp only[yeg,runN,runP,ywb,nthO,ea,absV,absVL,cput,gv,sv,dn,reduceCtorEq,reduceIte,Nat.reduceBEq,Nat.reduceAdd,Nat.reduceEqDiff,Nat.reduceLT,Nat.reduceLeDiff,Nat.reduceMul,Nat.reduceSub,BEq.rfl,beq_self_eq_true,Int.reduceToNat]
   repeat' apply And.intro
   all_goals first|refine hK _ ?_|exact ot
   all_goals clear hK K
   refine rS ?_
   refine AWP.cond rfl (fun hb => ?_) (fun hb => ?_)
   ·replace hR:=ct hR
    iterate 2 refine rS ?_
    refine AWP.cond rfl (fun hb => ?_) (fun hb => ?_)
    ·replace hR:=ct hR
     refine rS ?_
     refine AWP.ret ?_
     subst hR
     exact es
    ·replace hR:=cf hR
     refine rS ?_
     refine AWP.ret ?_
     subst hR
     exact es
   ·replace hR:=cf hR
    refine rS ?_
    refine AWP.cond rfl (fun hb => ?_) (fun hb => ?_)
    ·replace hR:=ct hR
     refine rS ?_
     refine AWP.ret ?_
     subst hR
     exact es
    ·replace hR:=cf hR
     refine rS ?_
     refine AWP.ret ?_
     subst hR
     exact es
end N297
def D_zje : DF
 | [x0]=>some (.tup [.agg (y6c ((zje (rdS x0)).1)),.bool ((zje (rdS x0)).2)],false,[wS x0,(rdS x0).length<1099511627776,(rdS x0).length≤1048576])
 | _=>none
theorem yc3:OkD Tryz.prog 297 D_zje:=by unfold D_zje;exact dk N297.den
end Go.Ab

namespace Go.Ab
open Go Go.Proofs
def zec (a0:(List UInt8)):(Mark×Bool):=
 ((zje a0).1,(zje a0).2)
namespace N231
theorem DD:DOk Tryz.prog (Go.Ab.DD [(297,dP D_zje)]):=ya yc3.e <| ye _
theorem dn:type_of% (@D_zje.eq_1):=by and_intros<;>intros<;>rfl
theorem den (a0:(List UInt8)) (hb0:a0.length<1099511627776) (hp0:a0.length≤1048576):Den Tryz.prog 231 [.str a0] (.tup [.agg (y6c ((zec a0).1)),.bool ((zec a0).2)]):=by
 generalize hR:zec a0=r
 unfold zec at hR
 refine di Tryz.func231 Tryz.ntmps231 Tryz.results231 ?_
 intro c hL hc hk
 obtain⟨hL0,_⟩:=hL
 have hw0:a0.length<9223372036854775808:=Nat.lt_succ_of_le hL0
 clear hL0
 simp only[pars,Nat.zero_add]
 iterate 2 refine rS ?_
 refine AWP.ret ?_
 subst hR
 exact es
end N231
def D_zec : DF
 | [x0]=>some (.tup [.agg (y6c ((zec (rdS x0)).1)),.bool ((zec (rdS x0)).2)],false,[wS x0,(rdS x0).length<1099511627776,(rdS x0).length≤1048576])
 | _=>none
theorem ytz:OkD Tryz.prog 231 D_zec:=by unfold D_zec;exact dk N231.den
end Go.Ab

namespace Go.Ab
open Go Go.Proofs
abbrev yfx:Mark:={ Kind:=0,Colors:=[],Shape:=[],Topmark:=[]}
def allMarks:List Mark:=yfx::([1,2,3,4,5,6,7,8,9]:List Int).flatMap fun k=>(zlb k).flatMap fun s=>[{ Kind:=k,Colors:=zge k,Shape:=s,Topmark:=[]},{ Kind:=k,Colors:=zge k,Shape:=s,Topmark:=zoe k }]
theorem yd1 {m:Mark} (h:zz m=true):m∈allMarks:=by
 unfold allMarks
 rcases yll (m:=m) h with⟨h1,h2,h3,h4⟩|⟨h1,h2,h3,h4⟩
 ·cases m
  simp only at h1 h2 h3 h4
  subst h1 h2 h3 h4
  exact List.mem_cons_self
 ·refine List.mem_cons_of_mem _ (List.mem_flatMap.2 ⟨m.Kind,?_,List.mem_flatMap.2 ⟨m.Shape,h4,?_⟩⟩)
  ·rcases ykg h1 with e|e|e|e|e|e|e|e|e<;>rw[e]<;>decide
  ·cases m
   simp only at h2 h3 ⊢
   subst h2
   rcases h3 with e|e
   ·rw[e];exact List.mem_cons_self
   ·rw[e];exact List.mem_cons_of_mem _ List.mem_cons_self
theorem ynv:(allMarks.all fun m=>decide (zmc (zxc m)=(m,true)) && decide (zje (zxc m)=(m,true)))=true:=by decide +kernel
theorem yly {m:Mark} (h:zz m=true):zmc (zxc m)=(m,true)∧zje (zxc m)=(m,true):=by
 have:=List.all_eq_true.1 ynv m (yd1 h)
 rw[Bool.and_eq_true]at this
 exact⟨of_decide_eq_true this.1,of_decide_eq_true this.2⟩
theorem yx5:RdOk (fun m=>zz m=true) zxc yfx zmc 1048576:=.of (fun p h _=>(yly h).1) (fun a ha=>by
 have key:∀ m:Mark,∀ b:Bool,((b || (!(zoc m))) || ((zrd m) != a))=false→zz m=true∧a=zxc m:=fun m b hc=>by
  simp only[Bool.or_eq_false_iff,Bool.not_eq_false',bne_eq_false_iff_eq]at hc
  have h1:zz m=true:=by rw[← show zvc m=zz m from rfl, ← yqd];exact hc.1.2
  refine⟨h1,?_⟩
  rw[← hc.2,yg7]
  unfold zhg
  rw[h1];rfl
 unfold zmc
 cases h0:(a == zuc 0)with
 | true=>exact .inr ⟨yfx,rfl,by decide,eq_of_beq h0⟩
 | false=>
  rw[cond_false]
  cases h1:(((zt a).length:Int) != 4)with
  | true=>exact .inl rfl
  | false=>
   rw[cond_false]
   cases h2:(((zt a).getD 3 default) == [45])with
   | true=>rw[cond_true];exact ygi a _ _ (key _ _)
   | false=>rw[cond_false];exact ygi a _ _ (key _ _))
theorem yl7:RdOk (fun m=>zz m=true) zxc yfx zje 1048576:=.of (fun p h _=>(yly h).2) (fun a ha=>by
 have key:∀ m:Mark,∀ b:Bool,((b || (!(zz m))) || ((zxc m) != a))=false→zz m=true∧a=zxc m:=fun m b hc=>by
  simp only[Bool.or_eq_false_iff,Bool.not_eq_false',bne_eq_false_iff_eq]at hc
  exact⟨hc.1.2,hc.2.symm⟩
 unfold zje
 cases h0:(a == [110,111,110,101])with
 | true=>exact .inr ⟨yfx,rfl,by decide,eq_of_beq h0⟩
 | false=>
  rw[cond_false]
  cases h1:(((za a 32).length:Int) != 4)with
  | true=>exact .inl rfl
  | false=>
   rw[cond_false]
   cases h2:(((za a 32).getD 3 default) == [45])with
   | true=>rw[cond_true];exact ygi a _ _ (key _ _)
   | false=>rw[cond_false];exact ygi a _ _ (key _ _))
theorem yoo (a:List UInt8) (ha:a.length≤1048576):zmc a=zec a:=(yx5.eq yl7 a ha)
end Go.Ab

namespace Go.Ab
open Go Go.Proofs
def yyg (a0:(List UInt8)) (i1:Nat) (s1:List Sector):Except (((List Sector)×Bool)) (List Sector):=
 (bif ((((zb ((zd a0 [44]).getD i1 default) [45]).2.1) == []) || (!(zx (s1.length:Int) 12)))then .error ([],false)else(bif ((!((zk ((zb ((zd a0 [44]).getD i1 default) [45]).1)).2)) || (!((zk (((zb ((zd a0 [44]).getD i1 default) [45]).2.1).take ((IntKind.wrap .i64 ((((zb ((zd a0 [44]).getD i1 default) [45]).2.1).length:Int)-1)).toNat))).2)))then .error ([],false)else .ok (s1++[{ From:=(zk ((zb ((zd a0 [44]).getD i1 default) [45]).1)).1,To:=(zk (((zb ((zd a0 [44]).getD i1 default) [45]).2.1).take ((IntKind.wrap .i64 ((((zb ((zd a0 [44]).getD i1 default) [45]).2.1).length:Int)-1)).toNat))).1,Color:=(((zb ((zd a0 [44]).getD i1 default) [45]).2.1).take (((zb ((zd a0 [44]).getD i1 default) [45]).2.1).length)).drop ((IntKind.wrap .i64 ((((zb ((zd a0 [44]).getD i1 default) [45]).2.1).length:Int)-1)).toNat):Sector }])))
def zib (a0:(List UInt8)):((List Sector)×Bool):=
 (bif (a0 == [45])then([],true)else(match yd (yyg a0) (((zd a0 [44]).length)-0) 0 ([]:List Sector)with|.error e=>e|.ok s1=>(bif ((!(zy s1)) || ((zlc s1) != a0))then([],false)else(s1,true))))
namespace N138
theorem DD:DOk Tryz.prog (Go.Ab.DD [(109,dP D_zlc),(135,dP D_zd),(136,dP D_zk),(160,dP D_zx),(184,dP D_zb),(215,dP D_zy)]):=ya ylt.e <| ya yun.e <| ya yfj.e <| ya y9f.e <| ya y1j.e <| ya yms.e <| ye _
theorem dn:type_of% (And.intro @D_zlc.eq_1 <| And.intro @D_zd.eq_1 <| And.intro @D_zk.eq_1 <| And.intro @D_zx.eq_1 <| And.intro @D_zb.eq_1 <| @D_zy.eq_1):=by and_intros<;>intros<;>rfl
theorem gr {p:Prop} (h:p:=by(grind [y3e]);first|done|fail):p:=h
theorem o0 {p:Prop} (h:p:=by(first|(obtain⟨q1,q2,q3⟩:=hlo i1 _ (by assumption);have h1:=e1 i1;have h2:=hct i1;(repeat' with_reducible apply And.intro)<;>first|with_reducible assumption|exact q2|(rw[q1];omega)|omega)|(have h1:=e1 i1;have h2:=hct i1;(repeat' with_reducible apply And.intro)<;>first|with_reducible assumption|omega)|(obtain⟨w1,w2,w3⟩:=hW1;(repeat' with_reducible apply And.intro)<;>first|with_reducible assumption|omega)|((repeat' with_reducible apply And.intro)<;>omega));first|done|fail):p:=h
theorem o2 {p:Prop} (h:p:=by(first|((repeat' with_reducible apply And.intro)<;>first|(simp only[List.length_append,List.length_singleton];(first|done|fail))|(rw[IntKind.wrap_i64];omega)|(intro j hj;by_cases hji:j<s1.length;(focus(simp only[yb4 hji,ys7 hji,cond_true];first|(first|done|fail)|with_reducible rfl));(have e0:j-s1.length=0:=by omega);(simp only[yu4 hji hj,yo6 hji,cond_false,e0,elt,borrowL,borrow];first|(first|done|fail)|with_reducible rfl))|decide));first|done|fail):p:=h
set_option maxHeartbeats 1000000 in
set_option maxRecDepth 20000 in
theorem den (a0:(List UInt8)) (hb0:a0.length<1099511627776) (hp0:a0.length≤1048576):Den Tryz.prog 138 [.str a0] (.tup [ownL 188 3 ym ((zib a0).1),.bool ((zib a0).2)]):=by
 generalize hR:zib a0=r
 unfold zib at hR
 refine di Tryz.func138 Tryz.ntmps138 Tryz.results138 ?_
 intro c hL hc hk
 obtain⟨hL0,_⟩:=hL
 have hw0:a0.length<9223372036854775808:=Nat.lt_succ_of_le hL0
 clear hL0
 simp only[pars,Nat.zero_add]
 have e1:=fun i=>ylu a0 44 i
 have e2:=y80 a0 44
 have hct:=fun i:Nat=>y3e ((zd a0 [44]).getD i default) [45]
 have hlo:∀ (i:Nat) (b:Bool),((((zb ((zd a0 [44]).getD i default) [45]).2.1) == []) || b)=false→_:=fun i b h=>yey (y:=(zb ((zd a0 [44]).getD i default) [45]).2.1) (by intro e;rw[e]at h;cases h) (by have h1:=hct i;have h2:=e1 i;omega)
 iterate 2 refine rS ?_
 refine AWP.cond rfl (fun hb => ?_) (fun hb => ?_)
 ·replace hR:=ct hR
  refine rS ?_
  refine AWP.ret ?_
  subst hR
  exact es
 ·replace hR:=cf hR
  iterate 2 refine rS ?_
  refine AWP.block ?_
  generalize hz1:yd (yyg a0) (((zd a0 [44]).length)-0) 0 ([]:List Sector)=z1 at hR
  refine AWP.range (yyg a0) (fun i1 s1=>⟨[(0,.str a0),(4,.ref 0 3 0 s1.length),(19,.ref 1 1 0 ((zd a0 [44]).length)),(20,.int .i64 ((zd a0 [44]).length:Int)),(21,.int .i64 (i1:Int))],[.arr 188 3 s1.length (fun j=>ym (s1.getD j default)),.arr 9 1 (zd a0 [44]).length (fun j=>eS ((zd a0 [44]).getD j default))]⟩) (fun i1 s1=>s1.length≤([]:List Sector).length+1 * i1∧s1.length≤i1∧∀ v∈s1,bdSector v) (((zd a0 [44]).length)) 0 ([]:List Sector) [0,1] hz1 ot (by(simp)) sm ?_
  clear hz1
  intro i1 s1 hi1 hW1 hz1
  have hV1:=hW1;obtain⟨hV1_0,hV1_1,hV1_2⟩:=hV1
  refine rS ?_
  refine AWP.seq ?_
  refine AWP.cond rfl (fun hb => ?_) (fun hb => ?_)
  ·have hlt1:i1<((zd a0 [44]).length):=ot
   rw[yh hlt1]at hz1;simp only[yyg]at hz1
   iterate 3 refine rS ?_
   refine AWP.cond rfl (fun hb => ?_) (fun hb => ?_)
   ·simp only[hb,cond_true]at hz1
    refine rS ?_
    refine AWP.ret ?_
    subst hz1
    dsimp only at hR
    subst hR
    exact es
   ·simp only[hb,cond_false]at hz1
    iterate 4 refine rS ?_
    refine AWP.cond rfl (fun hb => ?_) (fun hb => ?_)
    ·simp only[hb,cond_true]at hz1
     refine rS ?_
     refine AWP.ret ?_
     subst hz1
     dsimp only at hR
     subst hR
     exact es
    ·simp only[hb,cond_false]at hz1
     iterate 2 refine rS ?_
     exact⟨_,[3,1],hlt1,by(have h1:=e1 i1;have c1:=hct i1;obtain⟨w0,w1,w2⟩:=hW1;refine⟨by simp only[List.length_append,List.length_cons,List.length_nil,List.length_singleton];omega,by simp only[List.length_append,List.length_cons,List.length_nil,List.length_singleton];omega,fun v hv=>(List.mem_append.1 hv).elim (fun h=>w2 v h) (fun h=>by rw[List.mem_singleton]at h;subst h;show List.length _<1099511627776;simp only[List.length_drop,List.length_take];omega)⟩),hz1,sm⟩
  ·obtain rfl:i1=((zd a0 [44]).length):=ot
   rw[yg (Nat.le_refl _)]at hz1;subst hz1;dsimp only at hR
   refine AWP.exit ?_;refine yb ?_
   refine rS ?_
   refine AWP.cond rfl (fun hb => ?_) (fun hb => ?_)
   ·replace hR:=ct hR
    refine rS ?_
    refine AWP.ret ?_
    subst hR
    exact es
   ·replace hR:=cf hR
    refine rS ?_
    refine AWP.ret ?_
    subst hR
    exact es
end N138
def D_zib : DF
 | [x0]=>some (.tup [ownL 188 3 ym ((zib (rdS x0)).1),.bool ((zib (rdS x0)).2)],false,[wS x0,(rdS x0).length<1099511627776,(rdS x0).length≤1048576])
 | _=>none
theorem yqz:OkD Tryz.prog 138 D_zib:=by unfold D_zib;exact dk N138.den
end Go.Ab

namespace Go.Ab
open Go Go.Proofs
theorem yt7 {l:List Sector} (h:zy l=true):l.length≤12:=by
 unfold zy at h
 have he:=yfe (b:=ywn l) (e0:=false) (fun j s e h=>by
  unfold ywn at h
  rw[Bool.cond_eq_ite]at h
  split at h
  ·simpa using h.symm
  ·have h2:=yfe (b:=y4p l j s) (e0:=false) (fun k s2 e2 h2=>by
    unfold y4p at h2
    rw[Bool.cond_eq_ite]at h2
    split at h2
    ·simpa using h2.symm
    ·cases h2) (l.length-0) 0 ()
   generalize yd (y4p l j s) (l.length-0) 0 ()=z at h h2
   cases z with
   | error e3=>
    have h:e3=e:=by simpa using h
    rw[← h];exact h2 e3 rfl
   | ok _=>cases h) (l.length-0) 0 0
 generalize yd (ywn l) (l.length-0) 0 0=z at h he
 cases z with
 | error e=>have:=he e rfl;subst this;cases h
 | ok s=>simp[zx]at h;omega
theorem yxl (c : UInt8) : ∀ xs : List (List UInt8), Lib.join xs [c] = yyi c xs
 | []=>rfl
 | [x]=>by simp[Lib.join_cons,Lib.joinTail,yyi]
 | x::y::r=>by
  have ih:=yxl c (y::r)
  rw[yyi, ← ih]
  simp[Lib.join_cons,Lib.joinTail]
theorem yu6 {s:Sector} (h:zqc s=true) (c:UInt8) (h1:c≠45) (h2:c.toNat<48):c∉scT s:=by
 unfold zqc at h
 rw[Bool.and_eq_true]at h
 unfold scT
 intro hm
 rw[List.mem_append]at hm
 rcases hm with hm|hm
 ·exact yyn _ c h1 (.inl h2) hm
 rcases List.mem_cons.1 hm with hm|hm
 ·exact h1 hm
 rw[List.mem_append]at hm
 rcases hm with hm|hm
 ·exact yyn _ c h1 (.inl h2) hm
 ·rcases ylr h.2 with e|e|e|e<;>rw[e]at hm<;>rw[List.mem_singleton]at hm<;>subst hm<;>revert h2<;>decide
theorem y6p {s:Sector} (h:zqc s=true):0≤s.From∧s.From≤359∧0≤s.To∧s.To≤359∧s.Color.length=1∧(45:UInt8)∉s.Color:=by
 have hb:=y1r h
 unfold zqc at h
 rw[Bool.and_eq_true]at h
 refine⟨hb.1.1,hb.1.2,hb.2.1,hb.2.2,?_,?_⟩<;>rcases ylr h.2 with e|e|e|e<;>rw[e]<;>decide
theorem ybh {l:List Sector} (h:zr l=true) (hn:l≠[]):yn 44 (scsT l)=l.map scT:=by
 have h1:=(yse h).2
 have hmem:∀ s∈l,(44:UInt8)∉scT s:=fun s hs=>by
  obtain⟨i,hi,e⟩:=List.getElem_of_mem hs
  have:=h1 i hi
  rw[List.getD_eq_getElem?_getD,List.getElem?_eq_getElem hi,Option.getD_some,e]at this
  exact yu6 this 44 (by decide) (by decide)
 unfold scsT
 rw[if_neg hn]
 cases l with
 | nil=>exact absurd rfl hn
 | cons x r=>
  rw[List.map_cons,Lib.join_cons,yai 44 _ _ (hmem x (by simp)) (fun y hy=>by
   obtain⟨s,hs,rfl⟩:=List.mem_map.1 hy
   exact hmem s (by simp[hs]))]
theorem y03 {l:List Sector} (hn:l≠[]):(scsT l == [45])=false:=by
 rw[beq_eq_false_iff_ne]
 unfold scsT
 rw[if_neg hn]
 cases l with
 | nil=>exact absurd rfl hn
 | cons x r=>
  intro e
  rw[List.map_cons,Lib.join_cons]at e
  have:=congrArg List.length e
  unfold scT at this
  have h1:=List.length_pos_iff.2 (yfn x.From)
  have h2:=List.length_pos_iff.2 (yfn x.To)
  simp only[List.length_append,List.length_cons,List.length_nil]at this
  omega
theorem ypw (l:List Sector) (j:Nat) (hj:j<l.length):(l.map scT).getD j default=scT (l.getD j default):=yz0 scT l j hj
theorem ywp (x y:List UInt8) (h:y.length=1) (hl:x.length≤1048576):(x++y).take ((IntKind.wrap .i64 (((x++y).length:Int)-1)).toNat)=x∧(((x++y).take (x++y).length).drop ((IntKind.wrap .i64 (((x++y).length:Int)-1)).toNat))=y:=by
 have hw:(IntKind.wrap .i64 (((x++y).length:Int)-1)).toNat=x.length:=by
  rw[List.length_append,h,IntKind.wrap_i64];omega
 rw[hw]
 exact⟨List.take_left' rfl,by rw[List.take_length,List.drop_left' rfl]⟩
theorem yaj {n:Int} (h0:0≤n) (h1:n≤359):(Lib.itoa n).length≤3∧(45:UInt8)∉Lib.itoa n∧yyb (Lib.itoa n)=(n,true)∧zg (Lib.itoa n)=(n,true):=by
 have hk:=yxg n 2 h0 (by show n<(1000:Int);omega)
 exact⟨hk,yne h0 45 (by decide),yyc h0 (by omega),y2w (by unfold E18;omega) (by omega)⟩
theorem yo7 {l:List Sector} (h:zr l=true):zib (zof l)=(l,true):=by
 rw[y0h h]
 by_cases hn:l=[]
 ·subst hn;rfl
 have hv:zy l=true:=by
  have:=(yse h).1
  rw[ynb l (by omega)];exact h
 unfold zib
 rw[y03 hn,cond_false,yhz,ybh h hn,List.length_map]
 obtain⟨t,q1,q2⟩:=yu (b:=yyg (scsT l)) (fun i s=>s=l.take i) (k:=l.length-0) (i:=0) (s:=[]) rfl (fun j u _ hj hu=>by
  have hj:j<l.length:=by omega
  refine⟨_,?_,rfl⟩
  subst hu
  have h1:=y6p ((yse h).2 j hj)
  obtain⟨f1,f2,f3,_⟩:=yaj h1.1 h1.2.1
  obtain⟨t1,t2,t3,_⟩:=yaj h1.2.2.1 h1.2.2.2.1
  have h12:=(yse h).1
  unfold yyg
  rw[yhz,ybh h hn,ypw l j hj,cutI]
  unfold scT
  rw[yef _ _ 45 f2]
  simp only
  have hne:(Lib.itoa (l.getD j default).To++(l.getD j default).Color == [])=false:=by
   rw[beq_eq_false_iff_ne]
   intro e
   have:=congrArg List.length e
   simp only[List.length_append,List.length_nil]at this
   omega
  have tl:=ywp (Lib.itoa (l.getD j default).To) (l.getD j default).Color h1.2.2.2.2.1 (by omega)
  have hf:zx ((l.take j).length:Int) 12=true:=by
   unfold zx
   rw[List.length_take]
   simp;omega
  have r1:zk (Lib.itoa (l.getD j default).From)=((l.getD j default).From,true):=f3
  have r2:zk (Lib.itoa (l.getD j default).To)=((l.getD j default).To,true):=t3
  rw[hne,hf,tl.1,tl.2,r1,r2]
  simp only[Bool.not_true,Bool.or_self,cond_false]
  rw[yaf l j hj])
 rw[q1]
 simp only
 have:t=l:=by rw[q2];simp
 rw[this,hv,ynr h]
 simp
theorem y27 {l:List Sector} (h:zr l=true):zab (zof l)=(l,true):=by
 have hlen:=ys4 h
 rw[y0h h]
 by_cases hn:l=[]
 ·subst hn;rfl
 unfold zab
 have h12:=(yse h).1
 have hs:=yxj (scsT l) 44 44 rfl (by omega)
 rw[y03 hn,cond_false,hs,ybh h hn,List.length_map,decide_eq_false (show ¬ 12<(l.length:Int)by omega),cond_false]
 have hl:=yxc (y6f (scsT l)) (fun j=>[l.getD j default]) l.length 0 [] (fun j u _ hj=>by
  have hj:j<l.length:=by omega
  have h1:=y6p ((yse h).2 j hj)
  obtain⟨f1,f2,_,f3⟩:=yaj h1.1 h1.2.1
  obtain⟨t1,t2,_,t3⟩:=yaj h1.2.2.1 h1.2.2.2.1
  unfold y6f
  have hno:(45:UInt8)∉Lib.itoa (l.getD j default).To++(l.getD j default).Color:=fun hm=>by
   rcases List.mem_append.1 hm with hm|hm
   ·exact t2 hm
   ·exact h1.2.2.2.2.2 hm
  have e2:za (scT (l.getD j default)) 45=[Lib.itoa (l.getD j default).From,Lib.itoa (l.getD j default).To++(l.getD j default).Color]:=by
   rw[yxj _ 45 45 rfl (by unfold scT;simp only[List.length_append,List.length_cons];omega)]
   unfold scT
   rw[yrb 45 _ _ f2,yqb 45 _ hno]
  rw[hs,ybh h hn,ypw l j hj,e2]
  simp only[List.getD_cons_zero,List.getD_cons_succ]
  have tl:=ywp (Lib.itoa (l.getD j default).To) (l.getD j default).Color h1.2.2.2.2.1 (by omega)
  have hp:=List.length_pos_iff.2 (yfn (l.getD j default).To)
  have hq:decide (((Lib.itoa (l.getD j default).To++(l.getD j default).Color).length:Int)<2)=false:=decide_eq_false (by rw[List.length_append];omega)
  rw[hq,tl.1,tl.2,f3,t3]
  rfl)
 rw[Nat.sub_zero,hl,List.nil_append]
 have e:=yhf l default (fun s=>s)
 rw[List.map_id']at e
 rw[e]
 simp only
 rw[h]
 rfl
theorem yq5:RdOk (fun l=>zr l=true) zof [] zib 1048576:=.of (fun p h _=>yo7 h) (fun a ha=>by
 unfold zib
 cases h0:(a == [45])with
 | true=>exact .inr ⟨[],rfl,y4r,eq_of_beq h0⟩
 | false=>
  rw[cond_false]
  have he:=yfe (b:=yyg a) (e0:=([],false)) (fun j s e h=>by
   unfold yyg at h
   simp only[Bool.cond_eq_ite]at h
   split at h
   ·simpa using h.symm
   ·split at h
    ·simpa using h.symm
    ·cases h) ((zd a [44]).length-0) 0 []
  generalize yd (yyg a) ((zd a [44]).length-0) 0 []=z at he
  cases z with
  | error e=>exact .inl (he e rfl)
  | ok s=>
   refine ygi a s _ (fun hc => ?_)
   simp only[Bool.or_eq_false_iff,Bool.not_eq_false',bne_eq_false_iff_eq]at hc
   have h12:=yt7 hc.1
   have hv:zr s=true:=by rw[← ynb s (by omega)];exact hc.1
   exact⟨hv,by rw[← hc.2,ynr hv,y0h hv]⟩)
theorem yd3 {w : List UInt8} (hw : w.length ≤ 1048576) {u r : List Sector} {e : List Sector × Bool}
  (h:(bif ((((za w 45).length:Int) != 2) || decide ((((za w 45).getD 1 default).length:Int)<2))then(.error ([],false):Except (List Sector×Bool) (List Sector))else(bif ((!((zg ((za w 45).getD 0 default)).2)) || (!((zg (((za w 45).getD 1 default).take ((IntKind.wrap .i64 ((((za w 45).getD 1 default).length:Int)-1)).toNat))).2)))then .error ([],false)else .ok (u++[{ From:=(zg ((za w 45).getD 0 default)).1,To:=(zg (((za w 45).getD 1 default).take ((IntKind.wrap .i64 ((((za w 45).getD 1 default).length:Int)-1)).toNat))).1,Color:=(((za w 45).getD 1 default).take (((za w 45).getD 1 default).length)).drop ((IntKind.wrap .i64 ((((za w 45).getD 1 default).length:Int)-1)).toNat):Sector }])))=.ok r) :
  ∃ s,r=u++[s]∧w=scT s:=by
 rw[yxj w 45 45 rfl hw]at h
 cases hl:((((yn 45 w).length:Int) != 2) || decide ((((yn 45 w).getD 1 default).length:Int)<2))with
 | true=>rw[hl]at h;cases h
 | false=>
  rw[hl,cond_false]at h
  rw[Bool.or_eq_false_iff]at hl
  have hl2:(yn 45 w).length=2:=by have h:=hl.1;simp at h;omega
  obtain⟨x,y,e⟩:∃ x y,yn 45 w=[x,y]:=by
   match yn 45 w,hl2 with
   | [x,y],_=>exact⟨x,y,rfl⟩
  have hj:=y8d 45 w
  have hsl:=(y5 45 w).2
  rw[e]at hj h hl hsl
  have hx:x.length≤1048576:=by have:=hsl x (by simp);omega
  have hy:y.length≤1048576:=by have:=hsl y (by simp);omega
  simp only[List.getD_cons_zero,List.getD_cons_succ]at h hl
  have hy2:2≤y.length:=by have:=of_decide_eq_false hl.2;omega
  have hwr:(IntKind.wrap .i64 ((y.length:Int)-1)).toNat=y.length-1:=by rw[IntKind.wrap_i64];omega
  rw[hwr]at h
  cases hc:((!((zg x).2)) || (!((zg (y.take (y.length-1))).2)))with
  | true=>rw[hc]at h;cases h
  | false=>
   rw[hc,cond_false]at h
   simp only[Bool.or_eq_false_iff,Bool.not_eq_false']at hc
   have n1:=(yxe hx hc.1).1
   have n2:=(yxe (by rw[List.length_take];omega) hc.2).1
   have h:=Except.ok.inj h
   refine⟨_,h.symm,?_⟩
   unfold scT
   simp only
   rw[← n1, ← n2,List.take_length,List.take_append_drop, ← hj]
   simp[yyi]
theorem yq6:RdOk (fun l=>zr l=true) zof [] zab 1048576:=.of (fun p h _=>y27 h) (fun a ha=>by
 unfold zab
 have hs:=yxj a 44 44 rfl ha
 cases h0:(a == [45])with
 | true=>exact .inr ⟨[],rfl,y4r,eq_of_beq h0⟩
 | false=>
  rw[cond_false]
  cases h12:decide (12<((za a 44).length:Int))with
  | true=>exact .inl rfl
  | false=>
   rw[cond_false]
   have he:=yfe (b:=y6f a) (e0:=([],false)) (fun j s e h=>by
    unfold y6f at h
    simp only[Bool.cond_eq_ite]at h
    split at h
    ·simpa using h.symm
    ·split at h
     ·simpa using h.symm
     ·cases h) ((za a 44).length-0) 0 []
   cases hz:yd (y6f a) ((za a 44).length-0) 0 []with
   | error e=>exact .inl (he e hz)
   | ok s=>
    refine ygi a s _ (fun hc => ?_)
    have hv:zr s=true:=by simpa using hc
    refine⟨hv,?_⟩
    rw[y0h hv]
    have hk:=y8c (fun k (t:List Sector)=>t.map scT=(yn 44 a).take k) hz rfl (fun j u v _ hj hI hb=>by
     have hj:j<(yn 44 a).length:=by rw[hs]at hj;omega
     have hw:((yn 44 a).getD j default).length≤1048576:=by
      have:=(y5 44 a).2 ((yn 44 a).getD j default) (by rw[List.getD_eq_getElem?_getD,List.getElem?_eq_getElem hj];simp)
      omega
     unfold y6f at hb
     rw[hs]at hb
     obtain⟨q,e1,e2⟩:=yd3 (e:=([],false)) hw hb
     rw[e1,List.map_append,hI,List.map_singleton, ← e2,yaf _ j hj])
    rw[hs,Nat.sub_zero,Nat.zero_add,List.take_length]at hk
    have hn:s≠[]:=fun e=>by
     rw[e]at hk
     exact yjf 44 a hk.symm
    unfold scsT
    rw[if_neg hn,hk,yxl,y8d])
theorem yzq (a:List UInt8) (ha:a.length≤1048576):zib a=zab a:=yq5.eq yq6 a ha
end Go.Ab

namespace Go.Ab
open Go Go.Proofs
def zre (a0:Aid):(List UInt8):=
 (bif (!(znf a0))then[]else(bif (zbe a0)then(zub [(zo a0.Number),a0.Name,(zbf a0.At),(zo a0.Height),(zrd a0.Mark),(zrc a0.Light),(zlc a0.Sectors),(zo a0.Intensity)] [47])else(zub [(zo a0.Number),a0.Name,(zbf a0.At),(zo a0.Height),(zrd a0.Mark),[45],(zlc a0.Sectors),(zo a0.Intensity)] [47])))
namespace N32
theorem DD:DOk Tryz.prog (Go.Ab.DD [(104,dP D_znf),(105,dP D_zbe),(106,dP D_zrc),(107,dP D_zo),(108,dP D_zbf),(109,dP D_zlc),(16,dP D_zrd),(83,dP D_zub)]):=ya y11.e <| ya y4t.e <| ya ygt.e <| ya yjk.e <| ya yk1.e <| ya ylt.e <| ya y1u.e <| ya ycj.e <| ye _
theorem dn:type_of% (And.intro @D_znf.eq_1 <| And.intro @D_zbe.eq_1 <| And.intro @D_zrc.eq_1 <| And.intro @D_zo.eq_1 <| And.intro @D_zbf.eq_1 <| And.intro @D_zlc.eq_1 <| And.intro @D_zrd.eq_1 <| @D_zub.eq_1):=by and_intros<;>intros<;>rfl
theorem gr {p:Prop} (h:p:=by(grind [y7e]);first|done|fail):p:=h
theorem o0 {p:Prop} (h:p:=by(first|(have h9:=yzt hb0 (by assumption);have hr:=ybf h9;obtain⟨⟨e1,l1⟩,⟨e2,l2⟩,⟨e3,l3⟩,⟨e4,l4⟩,hch,⟨e6,l6⟩,⟨e7,l7⟩,l8⟩:=y95 h9 (Nat.lt_of_lt_of_le hb0.2.2.1.2.2 (by decide));obtain⟨e5,l5⟩:=hch (by rw[← hlt h9];assumption);rw[← e5]at l5;rw[← e1]at l1;rw[← e2]at l2;rw[← e3]at l3;rw[← e4]at l4;rw[← e6]at l6;rw[← e7]at l7;(repeat' with_reducible apply And.intro)<;>(first|omega|exact hb0.2.1|exact hb0.2.2.2.1|exact hb0.2.2.2.2|exact hb0.2.2.1|exact hr.2.2.2.1|exact hr.2.2.2.2.2.2.2.2.1|(refine Nat.le_trans (y3h _ _) ?_;simp only[jl,List.length_cons,List.length_nil];omega)))|(have h9:=yzt hb0 (by assumption);have hr:=ybf h9;obtain⟨⟨e1,l1⟩,⟨e2,l2⟩,⟨e3,l3⟩,⟨e4,l4⟩,hch,⟨e6,l6⟩,⟨e7,l7⟩,l8⟩:=y95 h9 (Nat.lt_of_lt_of_le hb0.2.2.1.2.2 (by decide));skip;rw[← e1]at l1;rw[← e2]at l2;rw[← e3]at l3;rw[← e4]at l4;rw[← e6]at l6;rw[← e7]at l7;(repeat' with_reducible apply And.intro)<;>(first|omega|exact hb0.2.1|exact hb0.2.2.2.1|exact hb0.2.2.2.2|exact hb0.2.2.1|exact hr.2.2.2.1|exact hr.2.2.2.2.2.2.2.2.1|(refine Nat.le_trans (y3h _ _) ?_;simp only[jl,List.length_cons,List.length_nil];omega))));first|done|fail):p:=h
theorem lx {p:Prop} (h:p:=by(exact lxx);first|done|fail):p:=h
set_option maxHeartbeats 4000000 in
set_option maxRecDepth 20000 in
theorem den (a0:Aid) (hb0:bdAid a0):Den Tryz.prog 32 [.agg (eAid a0)] (.str (zre a0)):=by
 generalize hR:zre a0=r
 unfold zre at hR
 refine di Tryz.func32 Tryz.ntmps32 Tryz.results32 ?_
 intro c hL hc hk
 obtain⟨hL0,_⟩:=hL
 have hw0:bwAid a0:=yuc a0 hL0
 clear hL0
 simp only[pars,Nat.zero_add]
 have hlt:=fun h=>yd4 (a:=a0) h (Nat.lt_of_lt_of_le hb0.2.2.1.2.2 (by decide))
 iterate 2 refine rS ?_
 refine AWP.cond rfl (fun hb => ?_) (fun hb => ?_)
 ·replace hR:=ct hR
  refine rS ?_
  refine AWP.ret ?_
  subst hR
  exact es
 ·replace hR:=cf hR
  iterate 2 refine rS ?_
  refine AWP.cond rfl (fun hb => ?_) (fun hb => ?_)
  ·replace hR:=ct hR
   refine rS ?_
   refine rD 21 ?_
   refine AWP.ret ?_
   subst hR
   exact es
  ·replace hR:=cf hR
   refine rD 21 ?_
   refine AWP.ret ?_
   subst hR
   exact es
end N32
def D_zre : DF
 | [x0]=>some (.str (zre (rdG dAid x0)),false,[wG eAid dAid x0,bdAid (rdG dAid x0)])
 | _=>none
theorem yj2:OkD Tryz.prog 32 D_zre:=by unfold D_zre;exact dk N32.den
end Go.Ab

namespace Go.Ab
open Go Go.Proofs
def zng (a0:Aid):(List UInt8):=
 (bif (zdg a0)then((((((((((((((zi a0.Number)++[47])++a0.Name)++[47])++(zig a0.At))++[47])++(zi a0.Height))++[47])++(zhg a0.Mark))++[47])++(zfb a0.Light))++[47])++(zof a0.Sectors))++[47])++(zi a0.Intensity)else((((((((((((((zi a0.Number)++[47])++a0.Name)++[47])++(zig a0.At))++[47])++(zi a0.Height))++[47])++(zhg a0.Mark))++[47])++[45])++[47])++(zof a0.Sectors))++[47])++(zi a0.Intensity))
end Go.Ab

namespace Go.Ab
open Go Go.Proofs
theorem y87 (a b c d e f g h:List UInt8) (s:List UInt8):Lib.join [a,b,c,d,e,f,g,h] s=a++(s++(b++(s++(c++(s++(d++(s++(e++(s++(f++(s++(g++(s++h))))))))))))):=by
 simp[Lib.join_cons,Lib.joinTail]
theorem ye1 {a:Aid} (h:zdc a=true) (hl:a.Light.Colors.length<9223372036854775808):zre a=zng a∧(zng a).length≤300:=by
 have hr:=ybf h
 have hs:=(yog hr.2.2.2.2.2.2.2.2.1).1
 obtain⟨⟨e1,l1⟩,⟨e2,l2⟩,⟨e3,l3⟩,⟨e4,l4⟩,hch,⟨e6,l6⟩,⟨e7,l7⟩,l8⟩:=y95 h hl
 have e:∀ a b c d e f g h:List UInt8,zub [a,b,c,d,e,f,g,h] [47]=a++([47]++(b++([47]++(c++([47]++(d++([47]++(e++([47]++(f++([47]++(g++([47]++h))))))))))))):=fun a b c d e f g h=>y87 a b c d e f g h [47]
 unfold zre zng
 rw[yjg a hl (by omega),h,yd4 h hl]
 simp only[Bool.not_true,cond_false]
 cases ht:zdg a with
 | true=>
  obtain⟨e5,l5⟩:=hch ht
  simp only[cond_true]
  rw[e,e1,e2,e3,e4,e5,e6,e7]
  refine⟨by simp only[List.append_assoc],?_⟩
  simp only[List.length_append,List.length_cons,List.length_nil]
  omega
 | false=>
  simp only[cond_false]
  rw[e,e1,e2,e3,e4,e6,e7]
  refine⟨by simp only[List.append_assoc],?_⟩
  simp only[List.length_append,List.length_cons,List.length_nil]
  omega
end Go.Ab

namespace Go.Ab
open Go Go.Proofs
def zsc (a0:(List UInt8)):(Character×Bool):=
 (bif (zb ((zb a0 [32]).2.1) [32]).2.2 then(bif (((!((zj ((zb a0 [32]).1)).2 && (zxd (zjd ((zb ((zb a0 [32]).2.1) [32]).2.1) [115])).2)) || (!(zw ({ Kind:=((zj ((zb a0 [32]).1)).1).Kind,Group:=((zj ((zb a0 [32]).1)).1).Group,Letter:=((zj ((zb a0 [32]).1)).1).Letter,Colors:=(zb ((zb a0 [32]).2.1) [32]).1,Period:=(zxd (zjd ((zb ((zb a0 [32]).2.1) [32]).2.1) [115])).1:Character })))) || ((zrc ({ Kind:=((zj ((zb a0 [32]).1)).1).Kind,Group:=((zj ((zb a0 [32]).1)).1).Group,Letter:=((zj ((zb a0 [32]).1)).1).Letter,Colors:=(zb ((zb a0 [32]).2.1) [32]).1,Period:=(zxd (zjd ((zb ((zb a0 [32]).2.1) [32]).2.1) [115])).1:Character })) != a0))then({ Kind:=0,Group:=[],Letter:=[],Colors:=[],Period:=0:Character },false)else({ Kind:=((zj ((zb a0 [32]).1)).1).Kind,Group:=((zj ((zb a0 [32]).1)).1).Group,Letter:=((zj ((zb a0 [32]).1)).1).Letter,Colors:=(zb ((zb a0 [32]).2.1) [32]).1,Period:=(zxd (zjd ((zb ((zb a0 [32]).2.1) [32]).2.1) [115])).1:Character },true))else(bif (((!((zj ((zb a0 [32]).1)).2)) || (!(zw ({ Kind:=((zj ((zb a0 [32]).1)).1).Kind,Group:=((zj ((zb a0 [32]).1)).1).Group,Letter:=((zj ((zb a0 [32]).1)).1).Letter,Colors:=(zb ((zb a0 [32]).2.1) [32]).1,Period:=((zj ((zb a0 [32]).1)).1).Period:Character })))) || ((zrc ({ Kind:=((zj ((zb a0 [32]).1)).1).Kind,Group:=((zj ((zb a0 [32]).1)).1).Group,Letter:=((zj ((zb a0 [32]).1)).1).Letter,Colors:=(zb ((zb a0 [32]).2.1) [32]).1,Period:=((zj ((zb a0 [32]).1)).1).Period:Character })) != a0))then({ Kind:=0,Group:=[],Letter:=[],Colors:=[],Period:=0:Character },false)else({ Kind:=((zj ((zb a0 [32]).1)).1).Kind,Group:=((zj ((zb a0 [32]).1)).1).Group,Letter:=((zj ((zb a0 [32]).1)).1).Letter,Colors:=(zb ((zb a0 [32]).2.1) [32]).1,Period:=((zj ((zb a0 [32]).1)).1).Period:Character },true)))
namespace N89
theorem DD:DOk Tryz.prog (Go.Ab.DD [(106,dP D_zrc),(184,dP D_zb),(185,dP D_zj),(186,dP D_zxd),(187,dP D_zjd),(91,dP D_zw)]):=ya ygt.e <| ya y1j.e <| ya yd6.e <| ya y61.e <| ya ym3.e <| ya yls.e <| ye _
theorem dn:type_of% (And.intro @D_zrc.eq_1 <| And.intro @D_zb.eq_1 <| And.intro @D_zj.eq_1 <| And.intro @D_zxd.eq_1 <| And.intro @D_zjd.eq_1 <| @D_zw.eq_1):=by and_intros<;>intros<;>rfl
theorem gr {p:Prop} (h:p:=by(grind [y3e,ywx]);first|done|fail):p:=h
theorem o0 {p:Prop} (h:p:=by(first|(and_intros<;>first|omega|(intros;omega)|(intros;and_intros<;>first|omega|(show List.length _<_;simp only;omega))|(refine⟨?_,?_,?_⟩<;>(simp only;omega))));first|done|fail):p:=h
set_option maxHeartbeats 1000000 in
set_option maxRecDepth 20000 in
theorem den (a0:(List UInt8)) (hb0:a0.length<1099511627776) (hp0:a0.length≤1048576):Den Tryz.prog 89 [.str a0] (.tup [.agg (ylb ((zsc a0).1)),.bool ((zsc a0).2)]):=by
 generalize hR:zsc a0=r
 unfold zsc at hR
 refine di Tryz.func89 Tryz.ntmps89 Tryz.results89 ?_
 intro c hL hc hk
 obtain⟨hL0,_⟩:=hL
 have hw0:a0.length<9223372036854775808:=Nat.lt_succ_of_le hL0
 clear hL0
 simp only[pars,Nat.zero_add]
 have c1:=y3e a0 [32]
 have c2:=y3e (zb a0 [32]).2.1 [32]
 have c3:=ywx (zb (zb a0 [32]).2.1 [32]).2.1 [115]
 have hrh:=ygr (zb a0 [32]).1 (by omega)
 obtain⟨hr1,hr2,hr3⟩:=hrh
 iterate 6 refine rS ?_
 refine AWP.cond rfl (fun hb => ?_) (fun hb => ?_)
 ·replace hR:=ct hR
  iterate 4 refine rS ?_
  refine AWP.cond rfl (fun hb => ?_) (fun hb => ?_)
  ·replace hR:=ct hR
   refine rS ?_
   refine AWP.ret ?_
   subst hR
   exact es
  ·replace hR:=cf hR
   refine rS ?_
   refine AWP.ret ?_
   subst hR
   exact es
 ·replace hR:=cf hR
  refine rS ?_
  refine AWP.cond rfl (fun hb => ?_) (fun hb => ?_)
  ·replace hR:=ct hR
   refine rS ?_
   refine AWP.ret ?_
   subst hR
   exact es
  ·replace hR:=cf hR
   refine rS ?_
   refine AWP.ret ?_
   subst hR
   exact es
end N89
def D_zsc : DF
 | [x0]=>some (.tup [.agg (ylb ((zsc (rdS x0)).1)),.bool ((zsc (rdS x0)).2)],false,[wS x0,(rdS x0).length<1099511627776,(rdS x0).length≤1048576])
 | _=>none
theorem y12:OkD Tryz.prog 89 D_zsc:=by unfold D_zsc;exact dk N89.den
end Go.Ab
