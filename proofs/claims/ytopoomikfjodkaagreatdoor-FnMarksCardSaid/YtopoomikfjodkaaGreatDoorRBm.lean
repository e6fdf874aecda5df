/- A part of a proof: walks of functions and lemmas of our own. No conditions. -/
import Derived.Test.YtopoomikfjodkaaGreatDoorRBl
import Derived.Test.YtopoomikfjodkaaGreatDoorRBc
import Derived.Test.YtopoomikfjodkaaGreatDoorRAq
import Derived.Test.YtopoomikfjodkaaGreatDoorRAw
import Derived.Test.YtopoomikfjodkaaGreatDoorRBd
import Derived.Test.YtopoomikfjodkaaGreatDoorRAl
import Derived.Test.YtopoomikfjodkaaGreatDoorRAk
import Derived.Test.YtopoomikfjodkaaGreatDoorRAv
import Derived.Test.YtopoomikfjodkaaGreatDoorRAx
import Derived.Test.YtopoomikfjodkaaGreatDoorRBk
import Derived.Test.YtopoomikfjodkaaGreatDoorRBi
set_option linter.unusedSectionVars false
set_option linter.unusedVariables false
set_option linter.unusedSimpArgs false
set_option maxHeartbeats 1000000
namespace Go.Ab
open Go Go.Proofs
theorem y0s (c:UInt8):∀ a:List UInt8,(c∉a∧Lib.cut a [c]=(a,[],false)∧yh c a=[a])∨∃ l t,a=l++c::t∧c∉l∧Lib.cut a [c]=(l,t,true)∧yh c a=l::yh c t:=by
 intro a
 by_cases h:c∈a
 ·right
  obtain⟨l,t,e,hl⟩:∃ l t,a=l++c::t∧c∉l:=by
   induction a with
   | nil=>simp at h
   | cons b a ih=>
    by_cases hb:c=b
    ·exact⟨[],a,by rw[hb];rfl,by simp⟩
    ·have h2:c∈a:=by
      rcases List.mem_cons.1 h with h|h
      ·exact absurd h hb
      ·exact h
     obtain⟨l,t,e,hl⟩:=ih h2
     exact⟨b::l,t,by rw[e];rfl,by simp[hb,hl]⟩
  exact⟨l,t,e,hl,by rw[e];exact ygg l t c hl,by rw[e];exact ybb c l t hl⟩
 ·exact .inl ⟨h,yal a c h,ypb c a h⟩
theorem yv0 (c:UInt8) (a:List UInt8) (h:(yh c a).length=1):c∉a:=by
 rcases y0s c a with⟨h1,_,_⟩|⟨l,t,_,_,_,h4⟩
 ·exact h1
 ·rw[h4,List.length_cons]at h
  have:=List.length_pos_iff.2 (y6f c t)
  omega
theorem yd0 (n:Int):∀ b∈Lib.itoa n,b=45∨(48≤b.toNat∧b.toNat≤57):=by
 intro b hb
 by_cases h:n<0
 ·rw[y3b h]at hb
  rcases List.mem_cons.1 hb with hb|hb
  ·exact .inl hb
  ·exact .inr ((y7 n.natAbs).1 b hb)
 ·rw[ywe h]at hb
  exact .inr ((y7 n.natAbs).1 b hb)
theorem ynq (n:Int) (c:UInt8) (h1:c≠45) (h2:c.toNat<48∨57<c.toNat):c∉Lib.itoa n:=fun h=>by
 rcases yd0 n c h with h|h
 ·exact h1 h
 ·omega
theorem yfp (n:Int):Lib.itoa n≠[]:=(y9d n).2
theorem y5c {w:List UInt8} (hw:w.length≤1048576):(zf w).2=true→w=Lib.itoa (zf w).1∧(zf w).1.natAbs<E18:=by
 intro h
 rcases y5b w hw with⟨n,h1,h2,h3⟩|⟨_,h3⟩
 ·rw[h3];exact⟨h2,h1⟩
 ·rw[h3]at h;cases h
theorem yucb {w:List UInt8} (hw:w.length≤1048576) (c:UInt8) (h1:c≠45) (h2:c.toNat<48∨57<c.toNat) (hc:c∈w):zf w=(0,false):=by
 rcases y5b w hw with⟨n,_,h4,_⟩|⟨_,h3⟩
 ·rw[h4]at hc;exact absurd hc (ynq n c h1 h2)
 ·exact h3
theorem yhab:zf []=(0,false):=by
 rcases y5b [] (by simp)with⟨n,_,h4,_⟩|⟨_,h3⟩
 ·exact absurd h4.symm (yfp n)
 ·exact h3
theorem yte (w:List UInt8) (hw:w.length≤1048576):zj w=zf w:=ygt w hw
theorem ylh (a:List UInt8) (c:UInt8) (n:Int) (hc:(c.toNat:Int)=n) (ha:a.length≤1048576):za a n=yh c a:=by
 rw[← hc];exact ywk a c (by omega)
theorem ygs (a:List UInt8) (c:UInt8):zb a [c]=yh c a:=rfl
theorem cutI (a:List UInt8) (c:UInt8):zd a [c]=Lib.cut a [c]:=rfl
theorem y01 (a:List UInt8) (ha:a.length≤1048576):zhf a=zrc a:=by
 unfold zhf zrc
 rw[cutI,ylh a 44 44 rfl ha]
 rcases y0s 44 a with⟨h1,h2,h3⟩|⟨l,t,e,h1,h2,h3⟩
 ·rw[h2,h3]
  simp only
  rw[yte [] (by simp),yhab]
  simp
 ·have hlen:a.length=l.length+1+t.length:=by rw[e];simp;omega
  rw[h2,h3]
  simp only
  rw[yte l (by omega),yte t (by omega)]
  by_cases ht:(44:UInt8)∈t
  ·rw[yucb (by omega) 44 (by decide) (by decide) ht]
   have hq:2≤(yh 44 t).length:=by
    have:=List.length_pos_iff.2 (y6f 44 t)
    by_cases h:(yh 44 t).length=1
    ·exact absurd ht (yv0 44 t h)
    ·omega
   have:(((l::yh 44 t).length:Int) != 2)=true:=by rw[bne_iff_ne,List.length_cons];omega
   rw[this]
   simp
  ·rw[ypb 44 t ht]
   rfl
theorem yhv (a:List UInt8) (ha:a.length≤1048576) (h:(zrc a).2=true):zgd (zrc a).1=true∧a=zji (zrc a).1:=by
 unfold zrc at h ⊢
 rw[ylh a 44 44 rfl ha]at h ⊢
 cases hl:(((yh 44 a).length:Int) != 2)with
 | true=>rw[hl]at h;cases h
 | false=>
  rw[hl,cond_false]at h
  rw[cond_false]
  have hl:(yh 44 a).length=2:=by have h:=hl;simp at h;omega
  obtain⟨x,y,e⟩:∃ x y,yh 44 a=[x,y]:=by
   match yh 44 a,hl with
   | [x,y],_=>exact⟨x,y,rfl⟩
  have hj:=yyd 44 a
  have hsl:=(yx 44 a).2
  rw[e]at hj h hsl ⊢
  have hx:x.length≤1048576:=by have:=hsl x (by simp);omega
  have hy:y.length≤1048576:=by have:=hsl y (by simp);omega
  simp only[List.getD_cons_zero,List.getD_cons_succ]at h ⊢
  cases hc:(((!((zf x).2)) || (!((zf y).2))) || (!(zgd ({ X:=(zf x).1,Y:=(zf y).1:Point }))))with
  | true=>rw[hc]at h;cases h
  | false=>
   rw[cond_false]
   simp only[Bool.or_eq_false_iff,Bool.not_eq_false']at hc
   have hr:=yq1 hc.2
   refine⟨hc.2,?_⟩
   unfold zji
   simp only at hr ⊢
   rw[y9f _ (by omega) (by omega),y9f _ (by omega) (by omega), ← (y5c hx hc.1.1).1, ← (y5c hy hc.1.2).1, ← hj]
   simp[yvk]
end Go.Ab

namespace Go.Ab
open Go Go.Proofs
def zzb (a0:(List UInt8)):(Mark×Bool):=
 (bif (a0 == (zic 0))then({ Kind:=0,Colors:=[],Shape:=[],Topmark:=[]:Mark },true)else(bif (((zp a0).length:Int) != 4)then({ Kind:=0,Colors:=[],Shape:=[],Topmark:=[]:Mark },false)else(bif (((zp a0).getD 3 default) == [45])then(bif (((!((zec ((zp a0).getD 0 default)).2)) || (!(zdc ({ Kind:=(zec ((zp a0).getD 0 default)).1,Colors:=((zp a0).getD 1 default),Shape:=((zp a0).getD 2 default),Topmark:=[]:Mark })))) || ((zjc ({ Kind:=(zec ((zp a0).getD 0 default)).1,Colors:=((zp a0).getD 1 default),Shape:=((zp a0).getD 2 default),Topmark:=[]:Mark })) != a0))then({ Kind:=0,Colors:=[],Shape:=[],Topmark:=[]:Mark },false)else({ Kind:=(zec ((zp a0).getD 0 default)).1,Colors:=((zp a0).getD 1 default),Shape:=((zp a0).getD 2 default),Topmark:=[]:Mark },true))else(bif (((!((zec ((zp a0).getD 0 default)).2)) || (!(zdc ({ Kind:=(zec ((zp a0).getD 0 default)).1,Colors:=((zp a0).getD 1 default),Shape:=((zp a0).getD 2 default),Topmark:=((zp a0).getD 3 default):Mark })))) || ((zjc ({ Kind:=(zec ((zp a0).getD 0 default)).1,Colors:=((zp a0).getD 1 default),Shape:=((zp a0).getD 2 default),Topmark:=((zp a0).getD 3 default):Mark })) != a0))then({ Kind:=0,Colors:=[],Shape:=[],Topmark:=[]:Mark },false)else({ Kind:=(zec ((zp a0).getD 0 default)).1,Colors:=((zp a0).getD 1 default),Shape:=((zp a0).getD 2 default),Topmark:=((zp a0).getD 3 default):Mark },true)))))
namespace N15
theorem DD:DOk Tryz.prog (Go.Ab.DD [(16,dP D_zjc),(17,dP D_zdc),(21,dP D_zec),(22,dP D_zic),(82,dP D_zp)]):=ya yjl.e <| ya yri.e <| ya yvp.e <| ya yoi.e <| ya ys3.e <| yc _
theorem dn:type_of% (And.intro @D_zjc.eq_1 <| And.intro @D_zdc.eq_1 <| And.intro @D_zec.eq_1 <| And.intro @D_zic.eq_1 <| @D_zp.eq_1):=by and_intros<;>intros<;>rfl
set_option maxHeartbeats 1000000 in
set_option maxRecDepth 20000 in
theorem den (a0:(List UInt8)) (hb0:a0.length<1099511627776) (hp0:a0.length≤1048576):Den Tryz.prog 15 [.str a0] (.tup [.agg (y1c ((zzb a0).1)),.bool ((zzb a0).2)]):=by
 generalize hR:zzb a0=r
 unfold zzb at hR
 refine di Tryz.func15 Tryz.ntmps15 Tryz.results15 ?_
 intro c hL hc hk
 obtain⟨hL0,_⟩:=hL
 have hw0:a0.length<9223372036854775808:=Nat.lt_succ_of_le hL0
 clear hL0
 simp only[pars,Nat.zero_add]
 have hs9:=yv2 a0 (by omega)
 have hs0:=yrc hs9 0
 have hs1:=yrc hs9 1
 have hs2:=yrc hs9 2
 have hs3:=yrc hs9 3
 iterate 2 refine rS ?_
 refine AWP.cond rfl (fun hb => ?_) (fun hb => ?_)
 ·replace hR:=ct hR
  refine rS ?_
  refine AWP.ret ?_
  subst hR
  exact es
 ·replace hR:=cf hR
  iterate 2 refine rS ?_
  refine AWP.cond rfl (fun hb => ?_) (fun hb => ?_)
  ·replace hR:=ct hR
   refine rS ?_
   refine AWP.ret ?_
   subst hR
   exact es
  ·replace hR:=cf hR
   iterate 3 refine rS ?_
   refine AWP.cond rfl (fun hb => ?_) (fun hb => ?_)
   ·replace hR:=ct hR
    refine rS ?_
    refine AWP.seq ?_
    refine AWP.regP mixed G_ok DD hc 10 [0,1,2,3,4,5,6,7,8] (.alt 9 [] [0,1,2,3,4,5,6,7,8] .leaf .stop) (by kernel_rfl) (by kernel_rfl) (by kernel_rfl) (fun K hK => ?_);simp only[y4f,runN,runP,yub,nthO,ea,absV,absVL,cput,gv,sv,dn,reduceCtorEq,reduceIte,Nat.reduceBEq,Nat.reduceAdd,Nat.reduceEqDiff,Nat.reduceLT,Nat.reduceLeDiff,Nat.reduceMul,Nat.reduceSub,BEq.rfl,beq_self_eq_true,Int.reduceToNat]
    repeat' apply And.intro
    all_goals first|refine hK _ ?_|exact ot
    all_goals clear hK K
    refine rS ?_
    refine AWP.cond rfl (fun hb => ?_) (fun hb => ?_)
    ·replace hR:=ct hR
     refine rS ?_
     refine AWP.ret ?_
     subst hR
     exact es
    ·replace hR:=cf hR
     refine rS ?_
     refine AWP.ret ?_
     subst hR
     exact es
   ·replace hR:=cf hR
    refine AWP.skip ?_
    refine AWP.seq ?_
    refine AWP.regP mixed G_ok DD hc 10 [0,1,2,3,4,5,6,7,8] (.alt 9 [] [0,1,2,3,4,5,6,7,8] .leaf .stop) (by kernel_rfl) (by kernel_rfl) (by kernel_rfl) (fun K hK => ?_);simp only[y4f,runN,runP,yub,nthO,ea,absV,absVL,cput,gv,sv,dn,reduceCtorEq,reduceIte,Nat.reduceBEq,Nat.reduceAdd,Nat.reduceEqDiff,Nat.reduceLT,Nat.reduceLeDiff,Nat.reduceMul,Nat.reduceSub,BEq.rfl,beq_self_eq_true,Int.reduceToNat]
    repeat' apply And.intro
    all_goals first|refine hK _ ?_|exact ot
    all_goals clear hK K
    refine rS ?_
    refine AWP.cond rfl (fun hb => ?_) (fun hb => ?_)
    ·replace hR:=ct hR
     refine rS ?_
     refine AWP.ret ?_
     subst hR
     exact es
    ·replace hR:=cf hR
     refine rS ?_
     refine AWP.ret ?_
     subst hR
     exact es
end N15
def D_zzb : DF
 | [x0]=>some (.tup [.agg (y1c ((zzb (rdS x0)).1)),.bool ((zzb (rdS x0)).2)],false,[wS x0,(rdS x0).length<1099511627776,(rdS x0).length≤1048576])
 | _=>none
theorem ydp:OkD Tryz.prog 15 D_zzb:=by unfold D_zzb;exact dk N15.den
end Go.Ab

namespace Go.Ab
open Go Go.Proofs
def zdg (a0:(List UInt8)):(Mark×Bool):=
 (bif (a0 == [110,111,110,101])then({ Kind:=0,Colors:=[],Shape:=[],Topmark:=[]:Mark },true)else(bif (((za a0 32).length:Int) != 4)then({ Kind:=0,Colors:=[],Shape:=[],Topmark:=[]:Mark },false)else(bif (((za a0 32).getD 3 default) == [45])then(bif (((!(zbc (zpe ((za a0 32).getD 0 default)))) || (!(zgb ({ Kind:=(zpe ((za a0 32).getD 0 default)),Colors:=((za a0 32).getD 1 default),Shape:=((za a0 32).getD 2 default),Topmark:=[]:Mark })))) || ((zee ({ Kind:=(zpe ((za a0 32).getD 0 default)),Colors:=((za a0 32).getD 1 default),Shape:=((za a0 32).getD 2 default),Topmark:=[]:Mark })) != a0))then({ Kind:=0,Colors:=[],Shape:=[],Topmark:=[]:Mark },false)else({ Kind:=(zpe ((za a0 32).getD 0 default)),Colors:=((za a0 32).getD 1 default),Shape:=((za a0 32).getD 2 default),Topmark:=[]:Mark },true))else(bif (((!(zbc (zpe ((za a0 32).getD 0 default)))) || (!(zgb ({ Kind:=(zpe ((za a0 32).getD 0 default)),Colors:=((za a0 32).getD 1 default),Shape:=((za a0 32).getD 2 default),Topmark:=((za a0 32).getD 3 default):Mark })))) || ((zee ({ Kind:=(zpe ((za a0 32).getD 0 default)),Colors:=((za a0 32).getD 1 default),Shape:=((za a0 32).getD 2 default),Topmark:=((za a0 32).getD 3 default):Mark })) != a0))then({ Kind:=0,Colors:=[],Shape:=[],Topmark:=[]:Mark },false)else({ Kind:=(zpe ((za a0 32).getD 0 default)),Colors:=((za a0 32).getD 1 default),Shape:=((za a0 32).getD 2 default),Topmark:=((za a0 32).getD 3 default):Mark },true)))))
namespace N297
theorem DD:DOk Tryz.prog (Go.Ab.DD [(165,dP D_za),(273,dP D_zgb),(281,dP D_zee),(307,dP D_zbc),(345,dP D_zpe)]):=ya yvh.e <| ya y1x.e <| ya y93.e <| ya y1y.e <| ya ys6.e <| yc _
theorem dn:type_of% (And.intro @D_za.eq_1 <| And.intro @D_zgb.eq_1 <| And.intro @D_zee.eq_1 <| And.intro @D_zbc.eq_1 <| @D_zpe.eq_1):=by and_intros<;>intros<;>rfl
theorem gr {p:Prop} (h:p:=by(grind [y4,yfc]);first|done|fail):p:=h
set_option maxHeartbeats 1000000 in
set_option maxRecDepth 20000 in
theorem den (a0:(List UInt8)) (hb0:a0.length<1099511627776) (hp0:a0.length≤1048576):Den Tryz.prog 297 [.str a0] (.tup [.agg (y1c ((zdg a0).1)),.bool ((zdg a0).2)]):=by
 generalize hR:zdg a0=r
 unfold zdg at hR
 refine di Tryz.func297 Tryz.ntmps297 Tryz.results297 ?_
 intro c hL hc hk
 obtain⟨hL0,_⟩:=hL
 have hw0:a0.length<9223372036854775808:=Nat.lt_succ_of_le hL0
 clear hL0
 simp only[pars,Nat.zero_add]
 have s0_:=ypd a0 32 32 rfl (by omega) 0
 have s1_:=ypd a0 32 32 rfl (by omega) 1
 have s2_:=ypd a0 32 32 rfl (by omega) 2
 have s3_:=ypd a0 32 32 rfl (by omega) 3
 iterate 2 refine rS ?_
 refine AWP.cond rfl (fun hb => ?_) (fun hb => ?_)
 ·replace hR:=ct hR
  refine rS ?_
  refine AWP.ret ?_
  subst hR
  exact es
 ·replace hR:=cf hR
  iterate 2 refine rS ?_
  refine AWP.cond rfl (fun hb => ?_) (fun hb => ?_)
  ·replace hR:=ct hR
   refine rS ?_
   refine AWP.ret ?_
   subst hR
   exact es
  ·replace hR:=cf hR
   refine AWP.skip ?_
   refine AWP.seq ?_
   refine AWP.regP mixed G_ok DD hc 15 [0,1,2,3,4,5,6,7,8,9,10,11,12,13] (.alt 14 [] [0,1,2,3,4,5,6,7,8,9,10,11,12,13] .leaf .stop) (by kernel_rfl) (by kernel_rfl) (by kernel_rfl) (fun K hK => ?_);simp only[y4f,runN,runP,yub,nthO,ea,absV,absVL,cput,gv,sv,dn,reduceCtorEq,reduceIte,Nat.reduceBEq,Nat.reduceAdd,Nat.reduceEqDiff,Nat.reduceLT,Nat.reduceLeDiff,Nat.reduceMul,Nat.reduceSub,BEq.rfl,beq_self_eq_true,Int.reduceToNat]
   repeat' apply And.intro
   all_goals first|refine hK _ ?_|exact ot
   all_goals clear hK K
   refine rS ?_
   refine AWP.cond rfl (fun hb => ?_) (fun hb => ?_)
   ·replace hR:=ct hR
    iterate 2 refine rS ?_
    refine AWP.cond rfl (fun hb => ?_) (fun hb => ?_)
    ·replace hR:=ct hR
     refine rS ?_
     refine AWP.ret ?_
     subst hR
     exact es
    ·replace hR:=cf hR
     refine rS ?_
     refine AWP.ret ?_
     subst hR
     exact es
   ·replace hR:=cf hR
    refine rS ?_
    refine AWP.cond rfl (fun hb => ?_) (fun hb => ?_)
    ·replace hR:=ct hR
     refine rS ?_
     refine AWP.ret ?_
     subst hR
     exact es
    ·replace hR:=cf hR
     refine rS ?_
     refine AWP.ret ?_
     subst hR
     exact es
end N297
def D_zdg : DF
 | [x0]=>some (.tup [.agg (y1c ((zdg (rdS x0)).1)),.bool ((zdg (rdS x0)).2)],false,[wS x0,(rdS x0).length<1099511627776,(rdS x0).length≤1048576])
 | _=>none
theorem yn7:OkD Tryz.prog 297 D_zdg:=by unfold D_zdg;exact dk N297.den
end Go.Ab

namespace Go.Ab
open Go Go.Proofs
def zid (a0:(List UInt8)):(Mark×Bool):=
 ((zdg a0).1,(zdg a0).2)
namespace N231
theorem DD:DOk Tryz.prog (Go.Ab.DD [(297,dP D_zdg)]):=ya yn7.e <| yc _
theorem dn:type_of% (@D_zdg.eq_1):=by and_intros<;>intros<;>rfl
theorem den (a0:(List UInt8)) (hb0:a0.length<1099511627776) (hp0:a0.length≤1048576):Den Tryz.prog 231 [.str a0] (.tup [.agg (y1c ((zid a0).1)),.bool ((zid a0).2)]):=by
 generalize hR:zid a0=r
 unfold zid at hR
 refine di Tryz.func231 Tryz.ntmps231 Tryz.results231 ?_
 intro c hL hc hk
 obtain⟨hL0,_⟩:=hL
 have hw0:a0.length<9223372036854775808:=Nat.lt_succ_of_le hL0
 clear hL0
 simp only[pars,Nat.zero_add]
 iterate 2 refine rS ?_
 refine AWP.ret ?_
 subst hR
 exact es
end N231
def D_zid : DF
 | [x0]=>some (.tup [.agg (y1c ((zid (rdS x0)).1)),.bool ((zid (rdS x0)).2)],false,[wS x0,(rdS x0).length<1099511627776,(rdS x0).length≤1048576])
 | _=>none
theorem yo5:OkD Tryz.prog 231 D_zid:=by unfold D_zid;exact dk N231.den
end Go.Ab

namespace Go.Ab
open Go Go.Proofs
abbrev yz2:Mark:={ Kind:=0,Colors:=[],Shape:=[],Topmark:=[]}
def allMarks:List Mark:=yz2::([1,2,3,4,5,6,7,8,9]:List Int).flatMap fun k=>(zy k).flatMap fun s=>[{ Kind:=k,Colors:=znd k,Shape:=s,Topmark:=[]},{ Kind:=k,Colors:=znd k,Shape:=s,Topmark:=zne k }]
theorem ym8 {m:Mark} (h:zgb m=true):m∈allMarks:=by
 unfold allMarks
 rcases yzn (m:=m) h with⟨h1,h2,h3,h4⟩|⟨h1,h2,h3,h4⟩
 ·cases m
  simp only at h1 h2 h3 h4
  subst h1 h2 h3 h4
  exact List.mem_cons_self
 ·refine List.mem_cons_of_mem _ (List.mem_flatMap.2 ⟨m.Kind,?_,List.mem_flatMap.2 ⟨m.Shape,h4,?_⟩⟩)
  ·rcases yue h1 with e|e|e|e|e|e|e|e|e<;>rw[e]<;>decide
  ·cases m
   simp only at h2 h3 ⊢
   subst h2
   rcases h3 with e|e
   ·rw[e];exact List.mem_cons_self
   ·rw[e];exact List.mem_cons_of_mem _ List.mem_cons_self
theorem y4z:(allMarks.all fun m=>decide (zzb (zee m)=(m,true)) && decide (zdg (zee m)=(m,true)))=true:=by decide +kernel
theorem ywv {m:Mark} (h:zgb m=true):zzb (zee m)=(m,true)∧zdg (zee m)=(m,true):=by
 have:=List.all_eq_true.1 y4z m (ym8 h)
 rw[Bool.and_eq_true]at this
 exact⟨of_decide_eq_true this.1,of_decide_eq_true this.2⟩
theorem yiab:RdOk (fun m=>zgb m=true) zee yz2 zzb 1048576:=.of (fun p h _=>(ywv h).1) (fun a ha=>by
 have key:∀ m:Mark,∀ b:Bool,((b || (!(zdc m))) || ((zjc m) != a))=false→zgb m=true∧a=zee m:=fun m b hc=>by
  simp only[Bool.or_eq_false_iff,Bool.not_eq_false',bne_eq_false_iff_eq]at hc
  have h1:zgb m=true:=by rw[← show zie m=zgb m from rfl, ← yld];exact hc.1.2
  refine⟨h1,?_⟩
  rw[← hc.2,yc6]
  unfold zii
  rw[h1];rfl
 unfold zzb
 cases h0:(a == zic 0)with
 | true=>exact .inr ⟨yz2,rfl,by decide,eq_of_beq h0⟩
 | false=>
  rw[cond_false]
  cases h1:(((zp a).length:Int) != 4)with
  | true=>exact .inl rfl
  | false=>
   rw[cond_false]
   cases h2:(((zp a).getD 3 default) == [45])with
   | true=>rw[cond_true];exact yqj a _ _ (key _ _)
   | false=>rw[cond_false];exact yqj a _ _ (key _ _))
theorem y7bb:RdOk (fun m=>zgb m=true) zee yz2 zdg 1048576:=.of (fun p h _=>(ywv h).2) (fun a ha=>by
 have key:∀ m:Mark,∀ b:Bool,((b || (!(zgb m))) || ((zee m) != a))=false→zgb m=true∧a=zee m:=fun m b hc=>by
  simp only[Bool.or_eq_false_iff,Bool.not_eq_false',bne_eq_false_iff_eq]at hc
  exact⟨hc.1.2,hc.2.symm⟩
 unfold zdg
 cases h0:(a == [110,111,110,101])with
 | true=>exact .inr ⟨yz2,rfl,by decide,eq_of_beq h0⟩
 | false=>
  rw[cond_false]
  cases h1:(((za a 32).length:Int) != 4)with
  | true=>exact .inl rfl
  | false=>
   rw[cond_false]
   cases h2:(((za a 32).getD 3 default) == [45])with
   | true=>rw[cond_true];exact yqj a _ _ (key _ _)
   | false=>rw[cond_false];exact yqj a _ _ (key _ _))
theorem yyt (a:List UInt8) (ha:a.length≤1048576):zzb a=zid a:=(yiab.eq y7bb a ha)
end Go.Ab

namespace Go.Ab
open Go Go.Proofs
def y7h (a0:(List UInt8)) (i1:Nat) (s1:List Sector):Except (((List Sector)×Bool)) (List Sector):=
 (bif ((((zd ((zb a0 [44]).getD i1 default) [45]).2.1) == []) || (!(zxc (s1.length:Int) 12)))then .error ([],false)else(bif ((!((zj ((zd ((zb a0 [44]).getD i1 default) [45]).1)).2)) || (!((zj (((zd ((zb a0 [44]).getD i1 default) [45]).2.1).take ((IntKind.wrap .i64 ((((zd ((zb a0 [44]).getD i1 default) [45]).2.1).length:Int)-1)).toNat))).2)))then .error ([],false)else .ok (s1++[{ From:=(zj ((zd ((zb a0 [44]).getD i1 default) [45]).1)).1,To:=(zj (((zd ((zb a0 [44]).getD i1 default) [45]).2.1).take ((IntKind.wrap .i64 ((((zd ((zb a0 [44]).getD i1 default) [45]).2.1).length:Int)-1)).toNat))).1,Color:=(((zd ((zb a0 [44]).getD i1 default) [45]).2.1).take (((zd ((zb a0 [44]).getD i1 default) [45]).2.1).length)).drop ((IntKind.wrap .i64 ((((zd ((zb a0 [44]).getD i1 default) [45]).2.1).length:Int)-1)).toNat):Sector }])))
def zac (a0:(List UInt8)):((List Sector)×Bool):=
 (bif (a0 == [45])then([],true)else(match ye (y7h a0) (((zb a0 [44]).length)-0) 0 ([]:List Sector)with|.error e=>e|.ok s1=>(bif ((!(zjb s1)) || ((zxd s1) != a0))then([],false)else(s1,true))))
namespace N138
theorem DD:DOk Tryz.prog (Go.Ab.DD [(109,dP D_zxd),(135,dP D_zb),(136,dP D_zj),(160,dP D_zxc),(184,dP D_zd),(215,dP D_zjb)]):=ya ymw.e <| ya y3j.e <| ya yxh.e <| ya y3k.e <| ya y6l.e <| ya y4p.e <| yc _
theorem dn:type_of% (And.intro @D_zxd.eq_1 <| And.intro @D_zb.eq_1 <| And.intro @D_zj.eq_1 <| And.intro @D_zxc.eq_1 <| And.intro @D_zd.eq_1 <| @D_zjb.eq_1):=by and_intros<;>intros<;>rfl
theorem gr {p:Prop} (h:p:=by(grind [yqg]);first|done|fail):p:=h
theorem o0 {p:Prop} (h:p:=by(first|(obtain⟨q1,q2,q3⟩:=hlo i1 _ (by assumption);have h1:=e1 i1;have h2:=hct i1;(repeat' with_reducible apply And.intro)<;>first|with_reducible assumption|exact q2|(rw[q1];omega)|omega)|(have h1:=e1 i1;have h2:=hct i1;(repeat' with_reducible apply And.intro)<;>first|with_reducible assumption|omega)|(obtain⟨w1,w2,w3⟩:=hW1;(repeat' with_reducible apply And.intro)<;>first|with_reducible assumption|omega)|((repeat' with_reducible apply And.intro)<;>omega));first|done|fail):p:=h
theorem o2 {p:Prop} (h:p:=by(first|((repeat' with_reducible apply And.intro)<;>first|(simp only[List.length_append,List.length_singleton];(first|done|fail))|(rw[IntKind.wrap_i64];omega)|(intro j hj;by_cases hji:j<s1.length;(focus(simp only[yfw hji,y23 hji,cond_true];first|(first|done|fail)|with_reducible rfl));(have e0:j-s1.length=0:=by omega);(simp only[yky hji hj,yd6 hji,cond_false,e0,elt,borrowL,borrow];first|(first|done|fail)|with_reducible rfl))|decide));first|done|fail):p:=h
set_option maxHeartbeats 1000000 in
set_option maxRecDepth 20000 in
theorem den (a0:(List UInt8)) (hb0:a0.length<1099511627776) (hp0:a0.length≤1048576):Den Tryz.prog 138 [.str a0] (.tup [ownL 188 3 yk ((zac a0).1),.bool ((zac a0).2)]):=by
 generalize hR:zac a0=r
 unfold zac at hR
 refine di Tryz.func138 Tryz.ntmps138 Tryz.results138 ?_
 intro c hL hc hk
 obtain⟨hL0,_⟩:=hL
 have hw0:a0.length<9223372036854775808:=Nat.lt_succ_of_le hL0
 clear hL0
 simp only[pars,Nat.zero_add]
 have e1:=fun i=>y1p a0 44 i
 have e2:=yxw a0 44
 have hct:=fun i:Nat=>yqg ((zb a0 [44]).getD i default) [45]
 have hlo:∀ (i:Nat) (b:Bool),((((zd ((zb a0 [44]).getD i default) [45]).2.1) == []) || b)=false→_:=fun i b h=>yj1 (y:=(zd ((zb a0 [44]).getD i default) [45]).2.1) (by intro e;rw[e]at h;cases h) (by have h1:=hct i;have h2:=e1 i;omega)
 iterate 2 refine rS ?_
 refine AWP.cond rfl (fun hb => ?_) (fun hb => ?_)
 ·replace hR:=ct hR
  refine rS ?_
  refine AWP.ret ?_
  subst hR
  exact es
 ·replace hR:=cf hR
  iterate 2 refine rS ?_
  refine AWP.block ?_
  generalize hz1:ye (y7h a0) (((zb a0 [44]).length)-0) 0 ([]:List Sector)=z1 at hR
  refine AWP.range (y7h a0) (fun i1 s1=>⟨[(0,.str a0),(4,.ref 0 3 0 s1.length),(19,.ref 1 1 0 ((zb a0 [44]).length)),(20,.int .i64 ((zb a0 [44]).length:Int)),(21,.int .i64 (i1:Int))],[.arr 188 3 s1.length (fun j=>yk (s1.getD j default)),.arr 9 1 (zb a0 [44]).length (fun j=>eS ((zb a0 [44]).getD j default))]⟩) (fun i1 s1=>s1.length≤([]:List Sector).length+1 * i1∧s1.length≤i1∧∀ v∈s1,bdSector v) (((zb a0 [44]).length)) 0 ([]:List Sector) [0,1] hz1 ot (by(simp)) sm ?_
  clear hz1
  intro i1 s1 hi1 hW1 hz1
  have hV1:=hW1;obtain⟨hV1_0,hV1_1,hV1_2⟩:=hV1
  refine rS ?_
  refine AWP.seq ?_
  refine AWP.cond rfl (fun hb => ?_) (fun hb => ?_)
  ·have hlt1:i1<((zb a0 [44]).length):=ot
   rw[yj hlt1]at hz1;simp only[y7h]at hz1
   iterate 3 refine rS ?_
   refine AWP.cond rfl (fun hb => ?_) (fun hb => ?_)
   ·simp only[hb,cond_true]at hz1
    refine rS ?_
    refine AWP.ret ?_
    subst hz1
    dsimp only at hR
    subst hR
    exact es
   ·simp only[hb,cond_false]at hz1
    iterate 4 refine rS ?_
    refine AWP.cond rfl (fun hb => ?_) (fun hb => ?_)
    ·simp only[hb,cond_true]at hz1
     refine rS ?_
     refine AWP.ret ?_
     subst hz1
     dsimp only at hR
     subst hR
     exact es
    ·simp only[hb,cond_false]at hz1
     iterate 2 refine rS ?_
     exact⟨_,[3,1],hlt1,by(have h1:=e1 i1;have c1:=hct i1;obtain⟨w0,w1,w2⟩:=hW1;refine⟨by simp only[List.length_append,List.length_cons,List.length_nil,List.length_singleton];omega,by simp only[List.length_append,List.length_cons,List.length_nil,List.length_singleton];omega,fun v hv=>(List.mem_append.1 hv).elim (fun h=>w2 v h) (fun h=>by rw[List.mem_singleton]at h;subst h;show List.length _<1099511627776;simp only[List.length_drop,List.length_take];omega)⟩),hz1,sm⟩
  ·obtain rfl:i1=((zb a0 [44]).length):=ot
   rw[yi (Nat.le_refl _)]at hz1;subst hz1;dsimp only at hR
   refine AWP.exit ?_;refine yb ?_
   refine rS ?_
   refine AWP.cond rfl (fun hb => ?_) (fun hb => ?_)
   ·replace hR:=ct hR
    refine rS ?_
    refine AWP.ret ?_
    subst hR
    exact es
   ·replace hR:=cf hR
    refine rS ?_
    refine AWP.ret ?_
    subst hR
    exact es
end N138
def D_zac : DF
 | [x0]=>some (.tup [ownL 188 3 yk ((zac (rdS x0)).1),.bool ((zac (rdS x0)).2)],false,[wS x0,(rdS x0).length<1099511627776,(rdS x0).length≤1048576])
 | _=>none
theorem y14:OkD Tryz.prog 138 D_zac:=by unfold D_zac;exact dk N138.den
end Go.Ab

namespace Go.Ab
open Go Go.Proofs
theorem yycb {l:List Sector} (h:zjb l=true):l.length≤12:=by
 unfold zjb at h
 have he:=ycf (b:=yaj l) (e0:=false) (fun j s e h=>by
  unfold yaj at h
  rw[Bool.cond_eq_ite]at h
  split at h
  ·simpa using h.symm
  ·have h2:=ycf (b:=yjk l j s) (e0:=false) (fun k s2 e2 h2=>by
    unfold yjk at h2
    rw[Bool.cond_eq_ite]at h2
    split at h2
    ·simpa using h2.symm
    ·cases h2) (l.length-0) 0 ()
   generalize ye (yjk l j s) (l.length-0) 0 ()=z at h h2
   cases z with
   | error e3=>
    have h:e3=e:=by simpa using h
    rw[← h];exact h2 e3 rfl
   | ok _=>cases h) (l.length-0) 0 0
 generalize ye (yaj l) (l.length-0) 0 0=z at h he
 cases z with
 | error e=>have:=he e rfl;subst this;cases h
 | ok s=>simp[zxc]at h;omega
theorem ydo (c : UInt8) : ∀ xs : List (List UInt8), Lib.join xs [c] = yvk c xs
 | []=>rfl
 | [x]=>by simp[Lib.join_cons,Lib.joinTail,yvk]
 | x::y::r=>by
  have ih:=ydo c (y::r)
  rw[yvk, ← ih]
  simp[Lib.join_cons,Lib.joinTail]
theorem yscb {s:Sector} (h:zde s=true) (c:UInt8) (h1:c≠45) (h2:c.toNat<48):c∉scT s:=by
 unfold zde at h
 rw[Bool.and_eq_true]at h
 unfold scT
 intro hm
 rw[List.mem_append]at hm
 rcases hm with hm|hm
 ·exact ynq _ c h1 (.inl h2) hm
 rcases List.mem_cons.1 hm with hm|hm
 ·exact h1 hm
 rw[List.mem_append]at hm
 rcases hm with hm|hm
 ·exact ynq _ c h1 (.inl h2) hm
 ·rcases yyu h.2 with e|e|e|e<;>rw[e]at hm<;>rw[List.mem_singleton]at hm<;>subst hm<;>revert h2<;>decide
theorem yau {s:Sector} (h:zde s=true):0≤s.From∧s.From≤359∧0≤s.To∧s.To≤359∧s.Color.length=1∧(45:UInt8)∉s.Color:=by
 have hb:=ybv h
 unfold zde at h
 rw[Bool.and_eq_true]at h
 refine⟨hb.1.1,hb.1.2,hb.2.1,hb.2.2,?_,?_⟩<;>rcases yyu h.2 with e|e|e|e<;>rw[e]<;>decide
theorem yjj {l:List Sector} (h:zx l=true) (hn:l≠[]):yh 44 (scsT l)=l.map scT:=by
 have h1:=(yxf h).2
 have hmem:∀ s∈l,(44:UInt8)∉scT s:=fun s hs=>by
  obtain⟨i,hi,e⟩:=List.getElem_of_mem hs
  have:=h1 i hi
  rw[List.getD_eq_getElem?_getD,List.getElem?_eq_getElem hi,Option.getD_some,e]at this
  exact yscb this 44 (by decide) (by decide)
 unfold scsT
 rw[if_neg hn]
 cases l with
 | nil=>exact absurd rfl hn
 | cons x r=>
  rw[List.map_cons,Lib.join_cons,yoj 44 _ _ (hmem x (by simp)) (fun y hy=>by
   obtain⟨s,hs,rfl⟩:=List.mem_map.1 hy
   exact hmem s (by simp[hs]))]
theorem yu9 {l:List Sector} (hn:l≠[]):(scsT l == [45])=false:=by
 rw[beq_eq_false_iff_ne]
 unfold scsT
 rw[if_neg hn]
 cases l with
 | nil=>exact absurd rfl hn
 | cons x r=>
  intro e
  rw[List.map_cons,Lib.join_cons]at e
  have:=congrArg List.length e
  unfold scT at this
  have h1:=List.length_pos_iff.2 (yfp x.From)
  have h2:=List.length_pos_iff.2 (yfp x.To)
  simp only[List.length_append,List.length_cons,List.length_nil]at this
  omega
theorem y11 (l:List Sector) (j:Nat) (hj:j<l.length):(l.map scT).getD j default=scT (l.getD j default):=yy6 scT l j hj
theorem ywq (x y:List UInt8) (h:y.length=1) (hl:x.length≤1048576):(x++y).take ((IntKind.wrap .i64 (((x++y).length:Int)-1)).toNat)=x∧(((x++y).take (x++y).length).drop ((IntKind.wrap .i64 (((x++y).length:Int)-1)).toNat))=y:=by
 have hw:(IntKind.wrap .i64 (((x++y).length:Int)-1)).toNat=x.length:=by
  rw[List.length_append,h,IntKind.wrap_i64];omega
 rw[hw]
 exact⟨List.take_left' rfl,by rw[List.take_length,List.drop_left' rfl]⟩
theorem ycl {n:Int} (h0:0≤n) (h1:n≤359):(Lib.itoa n).length≤3∧(45:UInt8)∉Lib.itoa n∧yac (Lib.itoa n)=(n,true)∧zf (Lib.itoa n)=(n,true):=by
 have hk:=ybj n 2 h0 (by show n<(1000:Int);omega)
 exact⟨hk,yuf h0 45 (by decide),ykd h0 (by omega),ymr (by unfold E18;omega) (by omega)⟩
theorem y6bb {l:List Sector} (h:zx l=true):zac (zlh l)=(l,true):=by
 rw[yzj h]
 by_cases hn:l=[]
 ·subst hn;rfl
 have hv:zjb l=true:=by
  have:=(yxf h).1
  rw[yyb l (by omega)];exact h
 unfold zac
 rw[yu9 hn,cond_false,ygs,yjj h hn,List.length_map]
 obtain⟨t,q1,q2⟩:=yy (b:=y7h (scsT l)) (fun i s=>s=l.take i) (k:=l.length-0) (i:=0) (s:=[]) rfl (fun j u _ hj hu=>by
  have hj:j<l.length:=by omega
  refine⟨_,?_,rfl⟩
  subst hu
  have h1:=yau ((yxf h).2 j hj)
  obtain⟨f1,f2,f3,_⟩:=ycl h1.1 h1.2.1
  obtain⟨t1,t2,t3,_⟩:=ycl h1.2.2.1 h1.2.2.2.1
  have h12:=(yxf h).1
  unfold y7h
  rw[ygs,yjj h hn,y11 l j hj,cutI]
  unfold scT
  rw[ygg _ _ 45 f2]
  simp only
  have hne:(Lib.itoa (l.getD j default).To++(l.getD j default).Color == [])=false:=by
   rw[beq_eq_false_iff_ne]
   intro e
   have:=congrArg List.length e
   simp only[List.length_append,List.length_nil]at this
   omega
  have tl:=ywq (Lib.itoa (l.getD j default).To) (l.getD j default).Color h1.2.2.2.2.1 (by omega)
  have hf:zxc ((l.take j).length:Int) 12=true:=by
   unfold zxc
   rw[List.length_take]
   simp;omega
  have r1:zj (Lib.itoa (l.getD j default).From)=((l.getD j default).From,true):=f3
  have r2:zj (Lib.itoa (l.getD j default).To)=((l.getD j default).To,true):=t3
  rw[hne,hf,tl.1,tl.2,r1,r2]
  simp only[Bool.not_true,Bool.or_self,cond_false]
  rw[yeg l j hj])
 rw[q1]
 simp only
 have:t=l:=by rw[q2];simp
 rw[this,hv,yyv h]
 simp
theorem ybdb {l:List Sector} (h:zx l=true):zlb (zlh l)=(l,true):=by
 have hlen:=yw8 h
 rw[yzj h]
 by_cases hn:l=[]
 ·subst hn;rfl
 unfold zlb
 have h12:=(yxf h).1
 have hs:=ylh (scsT l) 44 44 rfl (by omega)
 rw[yu9 hn,cond_false,hs,yjj h hn,List.length_map,decide_eq_false (show ¬ 12<(l.length:Int)by omega),cond_false]
 have hl:=ynd (ynh (scsT l)) (fun j=>[l.getD j default]) l.length 0 [] (fun j u _ hj=>by
  have hj:j<l.length:=by omega
  have h1:=yau ((yxf h).2 j hj)
  obtain⟨f1,f2,_,f3⟩:=ycl h1.1 h1.2.1
  obtain⟨t1,t2,_,t3⟩:=ycl h1.2.2.1 h1.2.2.2.1
  unfold ynh
  have hno:(45:UInt8)∉Lib.itoa (l.getD j default).To++(l.getD j default).Color:=fun hm=>by
   rcases List.mem_append.1 hm with hm|hm
   ·exact t2 hm
   ·exact h1.2.2.2.2.2 hm
  have e2:za (scT (l.getD j default)) 45=[Lib.itoa (l.getD j default).From,Lib.itoa (l.getD j default).To++(l.getD j default).Color]:=by
   rw[ylh _ 45 45 rfl (by unfold scT;simp only[List.length_append,List.length_cons];omega)]
   unfold scT
   rw[ybb 45 _ _ f2,ypb 45 _ hno]
  rw[hs,yjj h hn,y11 l j hj,e2]
  simp only[List.getD_cons_zero,List.getD_cons_succ]
  have tl:=ywq (Lib.itoa (l.getD j default).To) (l.getD j default).Color h1.2.2.2.2.1 (by omega)
  have hp:=List.length_pos_iff.2 (yfp (l.getD j default).To)
  have hq:decide (((Lib.itoa (l.getD j default).To++(l.getD j default).Color).length:Int)<2)=false:=decide_eq_false (by rw[List.length_append];omega)
  rw[hq,tl.1,tl.2,f3,t3]
  rfl)
 rw[Nat.sub_zero,hl,List.nil_append]
 have e:=yrg l default (fun s=>s)
 rw[List.map_id']at e
 rw[e]
 simp only
 rw[h]
 rfl
theorem ynab:RdOk (fun l=>zx l=true) zlh [] zac 1048576:=.of (fun p h _=>y6bb h) (fun a ha=>by
 unfold zac
 cases h0:(a == [45])with
 | true=>exact .inr ⟨[],rfl,y4u,eq_of_beq h0⟩
 | false=>
  rw[cond_false]
  have he:=ycf (b:=y7h a) (e0:=([],false)) (fun j s e h=>by
   unfold y7h at h
   simp only[Bool.cond_eq_ite]at h
   split at h
   ·simpa using h.symm
   ·split at h
    ·simpa using h.symm
    ·cases h) ((zb a [44]).length-0) 0 []
  generalize ye (y7h a) ((zb a [44]).length-0) 0 []=z at he
  cases z with
  | error e=>exact .inl (he e rfl)
  | ok s=>
   refine yqj a s _ (fun hc => ?_)
   simp only[Bool.or_eq_false_iff,Bool.not_eq_false',bne_eq_false_iff_eq]at hc
   have h12:=yycb hc.1
   have hv:zx s=true:=by rw[← yyb s (by omega)];exact hc.1
   exact⟨hv,by rw[← hc.2,yyv hv,yzj hv]⟩)
theorem yy5 {w : List UInt8} (hw : w.length ≤ 1048576) {u r : List Sector} {e : List Sector × Bool}
  (h:(bif ((((za w 45).length:Int) != 2) || decide ((((za w 45).getD 1 default).length:Int)<2))then(.error ([],false):Except (List Sector×Bool) (List Sector))else(bif ((!((zf ((za w 45).getD 0 default)).2)) || (!((zf (((za w 45).getD 1 default).take ((IntKind.wrap .i64 ((((za w 45).getD 1 default).length:Int)-1)).toNat))).2)))then .error ([],false)else .ok (u++[{ From:=(zf ((za w 45).getD 0 default)).1,To:=(zf (((za w 45).getD 1 default).take ((IntKind.wrap .i64 ((((za w 45).getD 1 default).length:Int)-1)).toNat))).1,Color:=(((za w 45).getD 1 default).take (((za w 45).getD 1 default).length)).drop ((IntKind.wrap .i64 ((((za w 45).getD 1 default).length:Int)-1)).toNat):Sector }])))=.ok r) :
  ∃ s,r=u++[s]∧w=scT s:=by
 rw[ylh w 45 45 rfl hw]at h
 cases hl:((((yh 45 w).length:Int) != 2) || decide ((((yh 45 w).getD 1 default).length:Int)<2))with
 | true=>rw[hl]at h;cases h
 | false=>
  rw[hl,cond_false]at h
  rw[Bool.or_eq_false_iff]at hl
  have hl2:(yh 45 w).length=2:=by have h:=hl.1;simp at h;omega
  obtain⟨x,y,e⟩:∃ x y,yh 45 w=[x,y]:=by
   match yh 45 w,hl2 with
   | [x,y],_=>exact⟨x,y,rfl⟩
  have hj:=yyd 45 w
  have hsl:=(yx 45 w).2
  rw[e]at hj h hl hsl
  have hx:x.length≤1048576:=by have:=hsl x (by simp);omega
  have hy:y.length≤1048576:=by have:=hsl y (by simp);omega
  simp only[List.getD_cons_zero,List.getD_cons_succ]at h hl
  have hy2:2≤y.length:=by have:=of_decide_eq_false hl.2;omega
  have hwr:(IntKind.wrap .i64 ((y.length:Int)-1)).toNat=y.length-1:=by rw[IntKind.wrap_i64];omega
  rw[hwr]at h
  cases hc:((!((zf x).2)) || (!((zf (y.take (y.length-1))).2)))with
  | true=>rw[hc]at h;cases h
  | false=>
   rw[hc,cond_false]at h
   simp only[Bool.or_eq_false_iff,Bool.not_eq_false']at hc
   have n1:=(y5c hx hc.1).1
   have n2:=(y5c (by rw[List.length_take];omega) hc.2).1
   have h:=Except.ok.inj h
   refine⟨_,h.symm,?_⟩
   unfold scT
   simp only
   rw[← n1, ← n2,List.take_length,List.take_append_drop, ← hj]
   simp[yvk]
theorem y2cb:RdOk (fun l=>zx l=true) zlh [] zlb 1048576:=.of (fun p h _=>ybdb h) (fun a ha=>by
 unfold zlb
 have hs:=ylh a 44 44 rfl ha
 cases h0:(a == [45])with
 | true=>exact .inr ⟨[],rfl,y4u,eq_of_beq h0⟩
 | false=>
  rw[cond_false]
  cases h12:decide (12<((za a 44).length:Int))with
  | true=>exact .inl rfl
  | false=>
   rw[cond_false]
   have he:=ycf (b:=ynh a) (e0:=([],false)) (fun j s e h=>by
    unfold ynh at h
    simp only[Bool.cond_eq_ite]at h
    split at h
    ·simpa using h.symm
    ·split at h
     ·simpa using h.symm
     ·cases h) ((za a 44).length-0) 0 []
   cases hz:ye (ynh a) ((za a 44).length-0) 0 []with
   | error e=>exact .inl (he e hz)
   | ok s=>
    refine yqj a s _ (fun hc => ?_)
    have hv:zx s=true:=by simpa using hc
    refine⟨hv,?_⟩
    rw[yzj hv]
    have hk:=y4g (fun k (t:List Sector)=>t.map scT=(yh 44 a).take k) hz rfl (fun j u v _ hj hI hb=>by
     have hj:j<(yh 44 a).length:=by rw[hs]at hj;omega
     have hw:((yh 44 a).getD j default).length≤1048576:=by
      have:=(yx 44 a).2 ((yh 44 a).getD j default) (by rw[List.getD_eq_getElem?_getD,List.getElem?_eq_getElem hj];simp)
      omega
     unfold ynh at hb
     rw[hs]at hb
     obtain⟨q,e1,e2⟩:=yy5 (e:=([],false)) hw hb
     rw[e1,List.map_append,hI,List.map_singleton, ← e2,yeg _ j hj])
    rw[hs,Nat.sub_zero,Nat.zero_add,List.take_length]at hk
    have hn:s≠[]:=fun e=>by
     rw[e]at hk
     exact y6f 44 a hk.symm
    unfold scsT
    rw[if_neg hn,hk,ydo,yyd])
theorem y4s (a:List UInt8) (ha:a.length≤1048576):zac a=zlb a:=ynab.eq y2cb a ha
end Go.Ab

namespace Go.Ab
open Go Go.Proofs
def zbd (a0:(List UInt8)):(Character×Bool):=
 (bif (zd ((zd a0 [32]).2.1) [32]).2.2 then(bif (((!((zm ((zd a0 [32]).1)).2 && (zkf (zue ((zd ((zd a0 [32]).2.1) [32]).2.1) [115])).2)) || (!(zab ({ Kind:=((zm ((zd a0 [32]).1)).1).Kind,Group:=((zm ((zd a0 [32]).1)).1).Group,Letter:=((zm ((zd a0 [32]).1)).1).Letter,Colors:=(zd ((zd a0 [32]).2.1) [32]).1,Period:=(zkf (zue ((zd ((zd a0 [32]).2.1) [32]).2.1) [115])).1:Character })))) || ((zad ({ Kind:=((zm ((zd a0 [32]).1)).1).Kind,Group:=((zm ((zd a0 [32]).1)).1).Group,Letter:=((zm ((zd a0 [32]).1)).1).Letter,Colors:=(zd ((zd a0 [32]).2.1) [32]).1,Period:=(zkf (zue ((zd ((zd a0 [32]).2.1) [32]).2.1) [115])).1:Character })) != a0))then({ Kind:=0,Group:=[],Letter:=[],Colors:=[],Period:=0:Character },false)else({ Kind:=((zm ((zd a0 [32]).1)).1).Kind,Group:=((zm ((zd a0 [32]).1)).1).Group,Letter:=((zm ((zd a0 [32]).1)).1).Letter,Colors:=(zd ((zd a0 [32]).2.1) [32]).1,Period:=(zkf (zue ((zd ((zd a0 [32]).2.1) [32]).2.1) [115])).1:Character },true))else(bif (((!((zm ((zd a0 [32]).1)).2)) || (!(zab ({ Kind:=((zm ((zd a0 [32]).1)).1).Kind,Group:=((zm ((zd a0 [32]).1)).1).Group,Letter:=((zm ((zd a0 [32]).1)).1).Letter,Colors:=(zd ((zd a0 [32]).2.1) [32]).1,Period:=((zm ((zd a0 [32]).1)).1).Period:Character })))) || ((zad ({ Kind:=((zm ((zd a0 [32]).1)).1).Kind,Group:=((zm ((zd a0 [32]).1)).1).Group,Letter:=((zm ((zd a0 [32]).1)).1).Letter,Colors:=(zd ((zd a0 [32]).2.1) [32]).1,Period:=((zm ((zd a0 [32]).1)).1).Period:Character })) != a0))then({ Kind:=0,Group:=[],Letter:=[],Colors:=[],Period:=0:Character },false)else({ Kind:=((zm ((zd a0 [32]).1)).1).Kind,Group:=((zm ((zd a0 [32]).1)).1).Group,Letter:=((zm ((zd a0 [32]).1)).1).Letter,Colors:=(zd ((zd a0 [32]).2.1) [32]).1,Period:=((zm ((zd a0 [32]).1)).1).Period:Character },true)))
namespace N89
theorem DD:DOk Tryz.prog (Go.Ab.DD [(106,dP D_zad),(184,dP D_zd),(185,dP D_zm),(186,dP D_zkf),(187,dP D_zue),(91,dP D_zab)]):=ya ynp.e <| ya y6l.e <| ya yvab.e <| ya yj7.e <| ya yx4.e <| ya y6k.e <| yc _
theorem dn:type_of% (And.intro @D_zad.eq_1 <| And.intro @D_zd.eq_1 <| And.intro @D_zm.eq_1 <| And.intro @D_zkf.eq_1 <| And.intro @D_zue.eq_1 <| @D_zab.eq_1):=by and_intros<;>intros<;>rfl
theorem gr {p:Prop} (h:p:=by(grind [yqg,yy1]);first|done|fail):p:=h
theorem o0 {p:Prop} (h:p:=by(first|(and_intros<;>first|omega|(intros;omega)|(intros;and_intros<;>first|omega|(show List.length _<_;simp only;omega))|(refine⟨?_,?_,?_⟩<;>(simp only;omega))));first|done|fail):p:=h
set_option maxHeartbeats 1000000 in
set_option maxRecDepth 20000 in
theorem den (a0:(List UInt8)) (hb0:a0.length<1099511627776) (hp0:a0.length≤1048576):Den Tryz.prog 89 [.str a0] (.tup [.agg (y8 ((zbd a0).1)),.bool ((zbd a0).2)]):=by
 generalize hR:zbd a0=r
 unfold zbd at hR
 refine di Tryz.func89 Tryz.ntmps89 Tryz.results89 ?_
 intro c hL hc hk
 obtain⟨hL0,_⟩:=hL
 have hw0:a0.length<9223372036854775808:=Nat.lt_succ_of_le hL0
 clear hL0
 simp only[pars,Nat.zero_add]
 have c1:=yqg a0 [32]
 have c2:=yqg (zd a0 [32]).2.1 [32]
 have c3:=yy1 (zd (zd a0 [32]).2.1 [32]).2.1 [115]
 have hrh:=yru (zd a0 [32]).1 (by omega)
 obtain⟨hr1,hr2,hr3⟩:=hrh
 iterate 6 refine rS ?_
 refine AWP.cond rfl (fun hb => ?_) (fun hb => ?_)
 ·replace hR:=ct hR
  iterate 4 refine rS ?_
  refine AWP.cond rfl (fun hb => ?_) (fun hb => ?_)
  ·replace hR:=ct hR
   refine rS ?_
   refine AWP.ret ?_
   subst hR
   exact es
  ·replace hR:=cf hR
   refine rS ?_
   refine AWP.ret ?_
   subst hR
   exact es
 ·replace hR:=cf hR
  refine rS ?_
  refine AWP.cond rfl (fun hb => ?_) (fun hb => ?_)
  ·replace hR:=ct hR
   refine rS ?_
   refine AWP.ret ?_
   subst hR
   exact es
  ·replace hR:=cf hR
   refine rS ?_
   refine AWP.ret ?_
   subst hR
   exact es
end N89
def D_zbd : DF
 | [x0]=>some (.tup [.agg (y8 ((zbd (rdS x0)).1)),.bool ((zbd (rdS x0)).2)],false,[wS x0,(rdS x0).length<1099511627776,(rdS x0).length≤1048576])
 | _=>none
theorem yjx:OkD Tryz.prog 89 D_zbd:=by unfold D_zbd;exact dk N89.den
end Go.Ab

namespace Go.Ab
open Go Go.Proofs
theorem yqdb (a b:List UInt8):zue a b=Lib.trimSuffix a b:=rfl
theorem ydr (s:List UInt8) (h:zfd s=true):(32:UInt8)∉s:=by
 intro hm
 obtain⟨i,hi,he⟩:=List.getElem_of_mem hm
 unfold zfd at h
 cases hl:ye (y0i s) (s.length-0) 0 ()with
 | error e=>
  rw[hl]at h
  obtain⟨j,t,_,_,h3⟩:=ykf hl
  unfold y0i at h3
  simp only[Bool.cond_eq_ite]at h3
  split at h3
  ·cases h3;simp at h
  ·cases h3
 | ok u=>
  have hk:=y4g (fun k (_:Unit)=>∀ j,j<k→zig ((s.getD j 0).toNat:Int)≠0) hl (by intro j hj;omega) (fun j u v _ _ hI hv=>by
   unfold y0i at hv
   simp only[Bool.cond_eq_ite]at hv
   split at hv
   ·cases hv
   ·rename_i hn
    simp only[Bool.or_eq_true,beq_iff_eq,not_or]at hn
    intro q hq
    by_cases hqj:q=j
    ·subst hqj;exact hn.1
    ·exact hI q (by omega))
  have:=hk i (by omega)
  rw[List.getD_eq_getElem?_getD,List.getElem?_eq_getElem hi,Option.getD_some,he]at this
  exact this rfl
theorem ynv (c:Character) (h:zqb c=true):(32:UInt8)∉yve c:=by
 have hk:=yie c h
 obtain⟨g1,g2⟩:=yhe c h
 have h32:=(y9ab c.Kind hk).2
 unfold yve
 by_cases h8:c.Kind=8
 ·rw[if_pos h8]
  obtain⟨_,f2,f3,f4⟩:=ywo c h h8
  obtain⟨x,hx⟩:=List.length_eq_one_iff.1 f2
  rw[hx]at f3 f4 ⊢
  simp only[List.getD_cons_zero]at f3 f4
  intro hm
  simp only[List.mem_append,List.mem_cons,List.not_mem_nil,or_false]at hm
  rcases hm with hm|hm|hm|hm
  ·exact absurd hm (by decide)
  ·exact absurd hm (by decide)
  ·subst hm;exact absurd f3 (by decide)
  ·exact absurd hm (by decide)
 ·rw[if_neg h8]
  intro hm
  rcases List.mem_append.1 hm with hm|hm
  ·exact h32 hm
  ·rcases List.mem_append.1 hm with hm|hm
   ·unfold grpT at hm
    split at hm
    ·simp at hm
    ·rcases List.mem_cons.1 hm with hm|hm
     ·exact absurd hm (by decide)
     ·rcases List.mem_append.1 hm with hm|hm
      ·refine ysab 32 (by decide) (c.Group.map Lib.itoa) (fun y hy => ?_) hm
       obtain⟨z,hz,rfl⟩:=List.mem_map.1 hy
       exact yuf (by have:=g2 z hz;omega) 32 (by decide)
      ·rw[List.mem_singleton]at hm;exact absurd hm (by decide)
   ·split at hm
    ·simp at hm
    ·exact absurd hm (by decide)
theorem ysk (c:Character) (h:zab c=true) (hl:c.Colors.length<9223372036854775808):zfd c.Colors=true:=by
 unfold zab at h
 rw[y5r _ hl]at h
 cases hc:zfd c.Colors with
 | true=>rfl
 | false=>rw[hc]at h;simp at h
theorem yd2 (c:Character) (h:zab c=true) (hl:c.Colors.length<9223372036854775808):zbd (chrT c)=(c,true):=by
 have hf:=yic c h
 have hr:=y91 c hf
 have hp:=ybe c h
 have hp2:=(yjd c h).2.2
 have hcol:=ydr _ (ysk c h hl)
 have c1:zd (chrT c) [32]=(yve c,c.Colors++perT c.Period,true):=by
  rw[ylu];unfold chrT;rw[ygg _ _ 32 (ynv c hf)]
 have htext:=ypl c h
 unfold zbd
 rw[c1]
 simp only
 by_cases h0:c.Period=0
 ·have c2:zd (c.Colors++perT c.Period) [32]=(c.Colors,[],false):=by
   rw[h0,show perT 0=[]from rfl,List.append_nil,ylu,yal _ 32 hcol]
  rw[c2,hr]
  simp only[cond_false]
  have ec:({ Kind:=c.Kind,Group:=c.Group,Letter:=c.Letter,Colors:=c.Colors,Period:=0:Character })=c:=by rw[← h0]
  simp only[ec,h,htext]
  simp
 ·have e2:perT c.Period=32::(secT c.Period++[115]):=by unfold perT;rw[if_neg h0]
  have c2:zd (c.Colors++perT c.Period) [32]=(c.Colors,secT c.Period++[115],true):=by
   rw[e2,ylu,ygg _ _ 32 hcol]
  have c3:zue (secT c.Period++[115]) [115]=secT c.Period:=by rw[yqdb,ymc]
  rw[c2,hr]
  simp only[cond_true]
  rw[c3,yyp _ (by omega) hp2]
  have ec:({ Kind:=c.Kind,Group:=c.Group,Letter:=c.Letter,Colors:=c.Colors,Period:=c.Period:Character })=c:=rfl
  simp only[ec,h,htext]
  simp
theorem yui (a:List UInt8):zbd a=({ Kind:=0,Group:=[],Letter:=[],Colors:=[],Period:=0:Character },false)∨∃ c,zab c=true∧zad c=a∧zbd a=(c,true):=by
 unfold zbd
 cases(zd ((zd a [32]).2.1) [32]).2.2 with
 | true=>
  simp only[cond_true]
  generalize hc:({ Kind:=((zm ((zd a [32]).1)).1).Kind,Group:=((zm ((zd a [32]).1)).1).Group,Letter:=((zm ((zd a [32]).1)).1).Letter,Colors:=(zd ((zd a [32]).2.1) [32]).1,Period:=(zkf (zue ((zd ((zd a [32]).2.1) [32]).2.1) [115])).1:Character })=c
  cases hv:zab c with
  | false=>left;simp
  | true=>
   by_cases ht:zad c=a
   ·cases hq:((zm ((zd a [32]).1)).2 && (zkf (zue ((zd ((zd a [32]).2.1) [32]).2.1) [115])).2)with
    | true=>right;exact⟨c,hv,ht,by simp[ht]⟩
    | false=>left;simp
   ·left
    have:(zad c != a)=true:=by simpa using ht
    rw[this];simp
 | false=>
  simp only[cond_false]
  generalize hc:({ Kind:=((zm ((zd a [32]).1)).1).Kind,Group:=((zm ((zd a [32]).1)).1).Group,Letter:=((zm ((zd a [32]).1)).1).Letter,Colors:=(zd ((zd a [32]).2.1) [32]).1,Period:=((zm ((zd a [32]).1)).1).Period:Character })=c
  cases hv:zab c with
  | false=>left;simp
  | true=>
   by_cases ht:zad c=a
   ·cases hq:(zm ((zd a [32]).1)).2 with
    | true=>right;exact⟨c,hv,ht,by simp[ht]⟩
    | false=>left;simp
   ·left
    have:(zad c != a)=true:=by simpa using ht
    rw[this];simp
end Go.Ab

namespace Go.Ab
open Go Go.Proofs
def zlf (a0:Int):(Character×Int):=
 (bif (!(zkd a0))then({ Kind:=0,Group:=[],Letter:=[],Colors:=[],Period:=0:Character },2)else((zbd (zkb a0 ([[],[70,108,32,82,32,52,115],[70,108,32,71,32,52,115],[81,32,87],[81,40,51,41,32,87,32,49,48,115],[81,40,54,41,43,76,70,108,32,87,32,49,53,115],[81,40,57,41,32,87,32,49,53,115],[70,108,40,50,41,32,87,32,53,115],[76,70,108,32,87,32,49,48,115],[70,108,32,89,32,53,115]]:List (List UInt8)))).1,0))
namespace N20
theorem DD:DOk Tryz.prog (Go.Ab.DD [(84,dP D_zkd),(89,dP D_zbd),(90,dP D_zkb)]):=ya y4k.e <| ya yjx.e <| ya yvf.e <| yc _
theorem dn:type_of% (And.intro @D_zkd.eq_1 <| And.intro @D_zbd.eq_1 <| @D_zkb.eq_1):=by and_intros<;>intros<;>rfl
theorem o0 {p:Prop} (h:p:=by(first|(and_intros<;>first|omega|(simp only[ln]at *;omega)));first|done|fail):p:=h
theorem lx {p:Prop} (h:p:=by(exact lxx);first|done|fail):p:=h
theorem den (a0:Int)  : Den Tryz.prog 20 [.int .i64 a0] (.tup [.agg (y8 ((zlf a0).1)),.int .i64 ((zlf a0).2)]):=by
 generalize hR:zlf a0=r
 unfold zlf at hR
 refine di Tryz.func20 Tryz.ntmps20 Tryz.results20 ?_
 intro c hL hc hk
 clear hL
 simp only[pars,Nat.zero_add]
 have hpk:(zkb a0 ([[],[70,108,32,82,32,52,115],[70,108,32,71,32,52,115],[81,32,87],[81,40,51,41,32,87,32,49,48,115],[81,40,54,41,43,76,70,108,32,87,32,49,53,115],[81,40,57,41,32,87,32,49,53,115],[70,108,40,50,41,32,87,32,53,115],[76,70,108,32,87,32,49,48,115],[70,108,32,89,32,53,115]]:List (List UInt8))).length≤100:=yhl a0 _ (by decide)
 have hsl:subL ([[],[70,108,32,82,32,52,115],[70,108,32,71,32,52,115],[81,32,87],[81,40,51,41,32,87,32,49,48,115],[81,40,54,41,43,76,70,108,32,87,32,49,53,115],[81,40,57,41,32,87,32,49,53,115],[70,108,40,50,41,32,87,32,53,115],[76,70,108,32,87,32,49,48,115],[70,108,32,89,32,53,115]]:List (List UInt8)) 0 10=([[],[70,108,32,82,32,52,115],[70,108,32,71,32,52,115],[81,32,87],[81,40,51,41,32,87,32,49,48,115],[81,40,54,41,43,76,70,108,32,87,32,49,53,115],[81,40,57,41,32,87,32,49,53,115],[70,108,40,50,41,32,87,32,53,115],[76,70,108,32,87,32,49,48,115],[70,108,32,89,32,53,115]]:List (List UInt8)):=rfl
 have hps:(zkb a0 (subL ([[],[70,108,32,82,32,52,115],[70,108,32,71,32,52,115],[81,32,87],[81,40,51,41,32,87,32,49,48,115],[81,40,54,41,43,76,70,108,32,87,32,49,53,115],[81,40,57,41,32,87,32,49,53,115],[70,108,40,50,41,32,87,32,53,115],[76,70,108,32,87,32,49,48,115],[70,108,32,89,32,53,115]]:List (List UInt8)) 0 10)).length≤100:=yhl a0 _ (by decide)
 iterate 2 refine rS ?_
 refine AWP.cond rfl (fun hb => ?_) (fun hb => ?_)
 ·replace hR:=ct hR
  refine rS ?_
  refine AWP.ret ?_
  subst hR
  exact es
 ·replace hR:=cf hR
  iterate 2 refine rS ?_
  refine AWP.ret ?_
  subst hR
  exact es
end N20
def D_zlf : DF
 | [x0]=>some (.tup [.agg (y8 ((zlf (rdI x0)).1)),.int .i64 ((zlf (rdI x0)).2)],false,[wI .i64 x0])
 | _=>none
theorem yqw:OkD Tryz.prog 20 D_zlf:=by unfold D_zlf;exact dk N20.den
end Go.Ab

namespace Go.Ab
open Go Go.Proofs
def yvu (a0:(List Int)) (a1:Int) (i1:Nat) (s1:Int×List Int):Except (Int×(List Int)) (Int×List Int):=
 .ok (IntKind.wrap .i64 (s1.1+1),s1.2.set i1 s1.1)
def zn (a0:(List Int)) (a1:Int):Int×(List Int):=
 (match ye (yvu a0 a1) (a0.length-0) 0 (a1,a0)with|.error e=>e|.ok s1=>(s1.1,s1.2))
namespace N121
theorem DD:DOk Tryz.prog (Go.Ab.DD []):=yc _
theorem den (a0:(List Int)) (a1:Int)  : DenM Tryz.prog 121 [ownL 2 1 yr a0,.int .i64 a1] (.int .i64 ((zn a0 a1).1)) [(ownL 2 1 yr ((zn a0 a1).2)),.any]:=by
 generalize hR:zn a0 a1=r
 unfold zn at hR
 refine dj (gb:=[true,false]) Tryz.func121 Tryz.ntmps121 Tryz.results121 ?_
 intro c hL hc hk
 obtain⟨hL0,hL1,_⟩:=hL
 have hw0:a0.length<9223372036854775808:=Nat.lt_succ_of_le (ylb hL0).1
 clear hL0 hL1
 simp only[adEL,adE,adRL,adR,ownL,encL,sv,List.nil_append,List.append_nil,List.cons_append,List.length_cons,List.length_nil,pars,Nat.zero_add,Nat.reduceAdd]at hk ⊢
 iterate 2 refine rS ?_
 refine AWP.block ?_
 generalize hz1:ye (yvu a0 a1) (a0.length-0) 0 (a1,a0)=z1 at hR
 refine AWP.range (yvu a0 a1) (fun i1 s1=>⟨[(0,.ref 0 1 0 s1.2.length),(1,.int .i64 s1.1),(5,.int .i64 (i1:Int))],[.arr 2 1 s1.2.length (fun j=>yr (s1.2.getD j default))]⟩) (fun i1 s1=>s1.2.length=a0.length) (a0.length) 0 (a1,a0) [0] hz1 ot wt sm ?_
 clear hz1
 intro i1 s1 hi1 hW1 hz1
 refine rS ?_
 refine AWP.cond rfl (fun hb => ?_) (fun hb => ?_)
 ·have hlt1:i1<a0.length:=ot
  rw[yj hlt1]at hz1;simp only[yvu]at hz1
  iterate 3 refine rS ?_
  exact⟨_,[0],hlt1,wt,hz1,sm⟩
 ·obtain rfl:i1=a0.length:=ot
  rw[yi (Nat.le_refl _)]at hz1;subst hz1;dsimp only at hR
  refine AWP.exit ?_;refine yb ?_
  refine rS ?_
  refine AWP.ret ?_
  subst hR
  exact es
end N121
def D_zn : List AV → Option (AV × List AV × List Prop)
 | [x0,x1]=>some (.int .i64 ((zn (rdL ywb x0) (rdI x1)).1),[(ownL 2 1 yr ((zn (rdL ywb x0) (rdI x1)).2)),.any],[wO 2 1 yr ywb x0,wI .i64 x1])
 | _=>none
theorem ys2:OkM Tryz.prog 121 D_zn:=by unfold D_zn;exact dm N121.den
end Go.Ab
