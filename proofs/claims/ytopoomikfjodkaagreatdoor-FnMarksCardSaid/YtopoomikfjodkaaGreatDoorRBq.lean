/- A part of a proof: walks of functions and lemmas of our own. No conditions. -/
import Derived.Test.YtopoomikfjodkaaGreatDoorRBk
import Derived.Test.YtopoomikfjodkaaGreatDoorRBf
import Derived.Test.YtopoomikfjodkaaGreatDoorRBc
import Derived.Test.YtopoomikfjodkaaGreatDoorRAl
import Derived.Test.YtopoomikfjodkaaGreatDoorRAv
import Derived.Test.YtopoomikfjodkaaGreatDoorRAk
import Derived.Test.YtopoomikfjodkaaGreatDoorRBn
import Derived.Test.YtopoomikfjodkaaGreatDoorRBm
import Derived.Test.YtopoomikfjodkaaGreatDoorRAq
import Derived.Test.YtopoomikfjodkaaGreatDoorRBi
import Derived.Test.YtopoomikfjodkaaGreatDoorRBl
import Derived.Test.YtopoomikfjodkaaGreatDoorRAx
import Derived.Test.YtopoomikfjodkaaGreatDoorRAw
import Derived.Test.YtopoomikfjodkaaGreatDoorRAz
set_option linter.unusedSectionVars false
set_option linter.unusedVariables false
set_option linter.unusedSimpArgs false
set_option maxHeartbeats 1000000
namespace Go.Ab
open Go Go.Proofs
theorem yo4 {n:Int} {s:l00Src} {l:List (List UInt8)} (h:SrcOk n s) (hn:n≤2000000000) (hl:1≤l.length):(zxe s l).1∈l:=by
 have hr:=yeh (l.length:Int) h hn
 have h2:=hr.2 (by omega)
 unfold zxe
 simp only
 have hi:((zdb s (l.length:Int)).1).toNat<l.length:=by omega
 rw[List.getD_eq_getElem?_getD,List.getElem?_eq_getElem hi]
 exact List.getElem_mem hi
theorem ysz (k:Int):1≤(zy k).length∧(zy k).length≤5:=by
 unfold zy
 simp only[Bool.cond_eq_ite]
 (repeat' split)<;>simp
theorem yfcb {k:Int} (hk:zbc k=true) {sh t:List UInt8} (hs:sh∈zy k) (ht:t=[]∨t=zne k):zgb ({ Kind:=k,Colors:=znd k,Shape:=sh,Topmark:=t }:Mark)=true:=by
 have h0:(k == 0)=false:=by rcases yue hk with e|e|e|e|e|e|e|e|e<;>rw[e]<;>rfl
 unfold zgb
 simp only
 rw[h0,cond_false,hk]
 have hc:(((!true) || (znd k != znd k)) || ((t != []) && (t != zne k)))=false:=by
  rcases ht with e|e<;>rw[e]<;>simp
 rw[hc,cond_false]
 refine(y4j ({ Kind:=k,Colors:=znd k,Shape:=sh,Topmark:=t }:Mark)).trans ?_
 rw[List.any_eq_true]
 exact⟨sh,hs,by simp⟩
theorem y8q (a:List Int) (h:∀ v∈a,0≤v∧v≤255):zgb (zhd a)=true:=by
 have hS:SrcOk 0 (zkh a):=⟨Int.le_refl _,Int.le_refl _,h⟩
 have hp:=yeh 10 hS (by omega)
 have hp2:=hp.2 (by omega)
 have hS2:=hS.pick (m:=10) (by omega)
 unfold zhd zjh
 generalize (zdb (zkh a) 10).2=s2 at hS2
 generalize (zdb (zkh a) 10).1=k at hp hp2
 by_cases h0:k=0
 ·rw[show(k == 0)=true by simp[h0],cond_true]
  exact(by decide:zgb ({ Kind:=0,Colors:=[],Shape:=[],Topmark:=[]:Mark })=true)
 ·rw[show(k == 0)=false by simp[h0],cond_false]
  have hk:zbc k=true:=by unfold zbc zg;simp;omega
  have hs:=yo4 (l:=zy k) hS2 (by omega) (ysz k).1
  cases(zbg ((zxe s2 (zy k)).2) 4).1 with
  | true=>exact yfcb hk hs (.inl rfl)
  | false=>exact yfcb hk hs (.inr rfl)
end Go.Ab

namespace Go.Ab
open Go Go.Proofs
def zrb (a0:(List Int)) (a1:Int) (a2:Int):Int:=
 (bif (decide (a2≤1) || decide ((a0.length:Int)≤a1))then 0 else(IntKind.wrap .i64 (a0.getD ((a1).toNat) default)).tmod a2)
namespace N18
theorem DD:DOk Tryz.prog (Go.Ab.DD []):=yc _
theorem den (a0:(List Int)) (a1:Int) (a2:Int) (hp0:0≤a1):Den Tryz.prog 18 [encL 1 eIu8 a0,.int .i64 a1,.int .i64 a2] (.int .i64 (zrb a0 a1 a2)):=by
 generalize hR:zrb a0 a1 a2=r
 unfold zrb at hR
 refine di Tryz.func18 Tryz.ntmps18 Tryz.results18 ?_
 intro c hL hc hk
 obtain⟨hL0,hL1,hL2,_⟩:=hL
 have hw0:a0.length<9223372036854775808:=Nat.lt_succ_of_le (yf hL0).1
 clear hL0 hL1 hL2
 simp only[pars,Nat.zero_add]
 iterate 2 refine rS ?_
 refine AWP.cond rfl (fun hb => ?_) (fun hb => ?_)
 ·replace hR:=ct hR
  refine rS ?_
  refine AWP.ret ?_
  subst hR
  exact es
 ·replace hR:=cf hR
  refine rS ?_
  refine AWP.ret ?_
  subst hR
  exact es
end N18
def D_zrb : DF
 | [x0,x1,x2]=>some (.int .i64 (zrb (rdL dIu8 x0) (rdI x1) (rdI x2)),false,[wL 1 eIu8 dIu8 x0,wI .i64 x1,wI .i64 x2,0≤(rdI x1)])
 | _=>none
theorem yrq:OkD Tryz.prog 18 D_zrb:=by unfold D_zrb;exact dk N18.den
end Go.Ab

namespace Go.Ab
open Go Go.Proofs
def zff (a0:(List Int)) (a1:Int) (a2:Int):Int:=
 (IntKind.wrap .i64 ((IntKind.wrap .i64 (256 * (zrb a0 a1 256)))+(zrb a0 (IntKind.wrap .i64 (a1+1)) 256))).tmod a2
namespace N26
theorem DD:DOk Tryz.prog (Go.Ab.DD [(18,dP D_zrb)]):=ya yrq.e <| yc _
theorem dn:type_of% (@D_zrb.eq_1):=by and_intros<;>intros<;>rfl
theorem o1 {p:Prop} (h:p:=by(first|(rw[IntKind.wrap_i64];omega));first|done|fail):p:=h
theorem den (a0:(List Int)) (a1:Int) (a2:Int) (hp0:0≤a1) (hp1:a1<1000000) (hp2:1≤a2):Den Tryz.prog 26 [encL 1 eIu8 a0,.int .i64 a1,.int .i64 a2] (.int .i64 (zff a0 a1 a2)):=by
 generalize hR:zff a0 a1 a2=r
 unfold zff at hR
 refine di Tryz.func26 Tryz.ntmps26 Tryz.results26 ?_
 intro c hL hc hk
 obtain⟨hL0,hL1,hL2,_⟩:=hL
 have hw0:a0.length<9223372036854775808:=Nat.lt_succ_of_le (yf hL0).1
 clear hL0 hL1 hL2
 simp only[pars,Nat.zero_add]
 iterate 2 refine rS ?_
 refine AWP.ret ?_
 subst hR
 exact es
end N26
def D_zff : DF
 | [x0,x1,x2]=>some (.int .i64 (zff (rdL dIu8 x0) (rdI x1) (rdI x2)),false,[wL 1 eIu8 dIu8 x0,wI .i64 x1,wI .i64 x2,0≤(rdI x1),(rdI x1)<1000000,1≤(rdI x2)])
 | _=>none
theorem yxy:OkD Tryz.prog 26 D_zff:=by unfold D_zff;exact dk N26.den
end Go.Ab

namespace Go.Ab
open Go Go.Proofs
theorem yc0 {k:Int} (h:zkd k=true):1≤(zhc k).length:=by
 have hk:zbc k=true:=h
 rcases yue hk with e|e|e|e|e|e|e|e|e<;>rw[e]<;>decide +kernel
end Go.Ab

namespace Go.Ab
open Go Go.Proofs
def zyd (a0:Int):(Mark×Int):=
 (bif (!(zkd a0))then({ Kind:=0,Colors:=[],Shape:=[],Topmark:=[]:Mark },2)else({ Kind:=a0,Colors:=(zfe a0),Shape:=((zhc a0).getD 0 default),Topmark:=(zge a0):Mark },0))
namespace N19
theorem DD:DOk Tryz.prog (Go.Ab.DD [(84,dP D_zkd),(85,dP D_zfe),(87,dP D_zhc),(88,dP D_zge)]):=ya y4k.e <| ya yti.e <| ya yep.e <| ya y8h.e <| yc _
theorem dn:type_of% (And.intro @D_zkd.eq_1 <| And.intro @D_zfe.eq_1 <| And.intro @D_zhc.eq_1 <| @D_zge.eq_1):=by and_intros<;>intros<;>rfl
theorem o0 {p:Prop} (h:p:=by(first|(have h9:=hms (by assumption);(repeat' with_reducible apply And.intro)<;>first|with_reducible assumption|omega));first|done|fail):p:=h
theorem o1 {p:Prop} (h:p:=by(first|(have h9:=hms (by assumption);omega));first|done|fail):p:=h
theorem den (a0:Int)  : Den Tryz.prog 19 [.int .i64 a0] (.tup [.agg (y1c ((zyd a0).1)),.int .i64 ((zyd a0).2)]):=by
 generalize hR:zyd a0=r
 unfold zyd at hR
 refine di Tryz.func19 Tryz.ntmps19 Tryz.results19 ?_
 intro c hL hc hk
 clear hL
 simp only[pars,Nat.zero_add]
 have hms:(!(zkd a0))=false→1≤(zhc a0).length:=fun h=>yc0 (by simpa using h)
 iterate 2 refine rS ?_
 refine AWP.cond rfl (fun hb => ?_) (fun hb => ?_)
 ·replace hR:=ct hR
  refine rS ?_
  refine AWP.ret ?_
  subst hR
  exact es
 ·replace hR:=cf hR
  refine AWP.skip ?_
  refine AWP.seq ?_
  refine AWP.regP mixed G_ok DD hc 9 [0,1,2,3,7] (.alt 4 [5,6,8] [0,7,5,6,8] .leaf .stop) (by kernel_rfl) (by kernel_rfl) (by kernel_rfl) (fun K hK => ?_);simp only[y4f,runN,runP,yub,nthO,ea,absV,absVL,cput,gv,sv,dn,reduceCtorEq,reduceIte,Nat.reduceBEq,Nat.reduceAdd,Nat.reduceEqDiff,Nat.reduceLT,Nat.reduceLeDiff,Nat.reduceMul,Nat.reduceSub,BEq.rfl,beq_self_eq_true,Int.reduceToNat]
  repeat' apply And.intro
  all_goals first|refine hK _ ?_|exact ot
  all_goals clear hK K
  refine AWP.ret ?_
  subst hR
  exact es
end N19
def D_zyd : DF
 | [x0]=>some (.tup [.agg (y1c ((zyd (rdI x0)).1)),.int .i64 ((zyd (rdI x0)).2)],false,[wI .i64 x0])
 | _=>none
theorem y4w:OkD Tryz.prog 19 D_zyd:=by unfold D_zyd;exact dk N19.den
end Go.Ab

namespace Go.Ab
open Go Go.Proofs
theorem y1k (a:List Int) (h:∀ v∈a,0≤v∧v≤255) (i n:Int) (h0:0≤i) (hn:1≤n):0≤zrb a i n∧zrb a i n<n:=by
 unfold zrb
 cases hb:(decide (n≤1) || decide ((a.length:Int)≤i))with
 | true=>simp only[cond_true];omega
 | false=>
  simp only[cond_false]
  have hx:0≤a.getD i.toNat default∧a.getD i.toNat default≤255:=by
   rw[List.getD_eq_getElem?_getD]
   cases hg:a[i.toNat]? with
   | none=>exact⟨Int.le_refl _,by decide⟩
   | some x=>exact h x (List.mem_of_getElem? hg)
  have hw:IntKind.wrap .i64 (a.getD i.toNat default)=a.getD i.toNat default:=by rw[IntKind.wrap_i64];omega
  rw[hw]
  exact⟨Int.tmod_nonneg _ hx.1,Int.tmod_lt_of_pos _ (by omega)⟩
theorem ybo (a:List Int) (h:∀ v∈a,0≤v∧v≤255) (n:Int) (hn:1≤n):0≤zff a 1 n∧zff a 1 n<n:=by
 have h1:=y1k a h 1 256 (by omega) (by omega)
 have h2:=y1k a h (IntKind.wrap .i64 (1+1)) 256 (by rw[IntKind.wrap_i64];omega) (by omega)
 unfold zff
 have hw:IntKind.wrap .i64 ((IntKind.wrap .i64 (256 * (zrb a 1 256)))+(zrb a (IntKind.wrap .i64 (1+1)) 256))=256 * (zrb a 1 256)+(zrb a (IntKind.wrap .i64 (1+1)) 256):=by
  rw[IntKind.wrap_i64,IntKind.wrap_i64];omega
 rw[hw]
 exact⟨Int.tmod_nonneg _ (by omega),Int.tmod_lt_of_pos _ (by omega)⟩
theorem y9cb (k:Int):bdMark (zyd k).1:=by
 unfold zyd
 cases h:(!(zkd k))with
 | true=>exact(by decide:bdMark ({ Kind:=0,Colors:=[],Shape:=[],Topmark:=[]:Mark }))
 | false=>
  have hk:zbc k=true:=by
   have:zkd k=zbc k:=rfl
   rw[← this];simpa using h
  rcases yue hk with e|e|e|e|e|e|e|e|e<;>rw[e]<;>decide +kernel
theorem yf5 (k:Int):bdCharacter (zlf k).1:=by
 unfold zlf
 cases(!(zkd k))with
 | true=>exact(by decide:bdCharacter ({ Kind:=0,Group:=[],Letter:=[],Colors:=[],Period:=0:Character }))
 | false=>exact yxab _
end Go.Ab

namespace Go.Ab
open Go Go.Proofs
def zoh (a0:(List Int)) (a1:(List Int)):Bool:=
 (decide (1048576<(a0.length:Int)) || decide (1048576<(a1.length:Int)))
namespace N13
theorem DD:DOk Tryz.prog (Go.Ab.DD []):=yc _
theorem den (a0:(List Int)) (a1:(List Int))  : Den Tryz.prog 13 [encL 1 eIu8 a0,encL 1 eIu8 a1] (.bool (zoh a0 a1)):=by
 generalize hR:zoh a0 a1=r
 unfold zoh at hR
 refine di Tryz.func13 Tryz.ntmps13 Tryz.results13 ?_
 intro c hL hc hk
 obtain⟨hL0,hL1,_⟩:=hL
 have hw0:a0.length<9223372036854775808:=Nat.lt_succ_of_le (yf hL0).1
 have hw1:a1.length<9223372036854775808:=Nat.lt_succ_of_le (yf hL1).1
 clear hL0 hL1
 simp only[pars,Nat.zero_add]
 iterate 2 refine rS ?_
 refine AWP.ret ?_
 subst hR
 exact es
end N13
def D_zoh : DF
 | [x0,x1]=>some (.bool (zoh (rdL dIu8 x0) (rdL dIu8 x1)),false,[wL 1 eIu8 dIu8 x0,wL 1 eIu8 dIu8 x1])
 | _=>none
theorem ycx:OkD Tryz.prog 13 D_zoh:=by unfold D_zoh;exact dk N13.den
end Go.Ab

namespace Go.Ab
open Go Go.Proofs
def zfh (a0:Character) (a1:(List (List UInt8))):Bool:=
 (zae a1 (zad a0))
namespace N92
theorem DD:DOk Tryz.prog (Go.Ab.DD [(106,dP D_zad),(86,dP D_zae)]):=ya ynp.e <| ya yvi.e <| yc _
theorem dn:type_of% (And.intro @D_zad.eq_1 <| @D_zae.eq_1):=by and_intros<;>intros<;>rfl
theorem den (a0:Character) (a1:(List (List UInt8))) (hb0:bdCharacter a0) (hb1:a1.length<1099511627776) (hb2:∀ v∈a1,bdS v):Den Tryz.prog 92 [.agg (yg a0),encL 1 eS a1] (.bool (zfh a0 a1)):=by
 generalize hR:zfh a0 a1=r
 unfold zfh at hR
 refine di Tryz.func92 Tryz.ntmps92 Tryz.results92 ?_
 intro c hL hc hk
 obtain⟨hL0,hL1,_⟩:=hL
 have hw0:bwCharacter a0:=yn a0 hL0
 have hw1:a1.length<9223372036854775808:=Nat.lt_succ_of_le (yf hL1).1
 have hw2:∀ v∈a1,bwS v:=fun v hv=>y0q v ((yf hL1).2 v hv)
 clear hL0 hL1
 simp only[pars,Nat.zero_add]
 iterate 2 refine rS ?_
 refine AWP.ret ?_
 subst hR
 exact es
end N92
def D_zfh : DF
 | [x0,x1]=>some (.bool (zfh (rdG yd x0) (rdL dS x1)),false,[wG yg yd x0,wL 1 eS dS x1,bdCharacter (rdG yd x0),(rdL dS x1).length<1099511627776,∀ v∈(rdL dS x1),bdS v])
 | _=>none
theorem y87:OkD Tryz.prog 92 D_zfh:=by unfold D_zfh;exact dk N92.den
end Go.Ab

namespace Go.Ab
open Go Go.Proofs
def zph (a0:Int) (a1:Character):Bool:=
 (bif (!(zab a1))then false else(bif (a0 == 0)then true else(bif (a0 == 1)then(a1.Colors == [82])else(bif (a0 == 2)then(a1.Colors == [71])else(bif (a0 == 3)then(zfh a1 [[81,32,87],[86,81,32,87]])else(bif (a0 == 4)then(zfh a1 [[81,40,51,41,32,87,32,49,48,115],[86,81,40,51,41,32,87,32,53,115]])else(bif (a0 == 5)then(zfh a1 [[81,40,54,41,43,76,70,108,32,87,32,49,53,115],[86,81,40,54,41,43,76,70,108,32,87,32,49,48,115]])else(bif (a0 == 6)then(zfh a1 [[81,40,57,41,32,87,32,49,53,115],[86,81,40,57,41,32,87,32,49,48,115]])else(bif (a0 == 7)then(((a1.Colors == [87]) && (a1.Kind == 4)) && (zuc a1.Group ([2]:List Int)))else(bif (a0 == 8)then((a1.Colors == [87]) && ((((a1.Kind == 3) || (a1.Kind == 2)) || (zfh a1 [[76,70,108,32,87,32,49,48,115]])) || ((a1.Kind == 8) && (a1.Letter == [65]))))else(bif (a0 == 9)then(a1.Colors == [89])else false)))))))))))
namespace N23
theorem DD:DOk Tryz.prog (Go.Ab.DD [(91,dP D_zab),(92,dP D_zfh),(93,dP D_zuc)]):=ya y6k.e <| ya y87.e <| ya yap.e <| yc _
theorem dn:type_of% (And.intro @D_zab.eq_1 <| And.intro @D_zfh.eq_1 <| @D_zuc.eq_1):=by and_intros<;>intros<;>rfl
theorem lx {p:Prop} (h:p:=by(exact lxx);first|done|fail):p:=h
theorem den (a0:Int) (a1:Character) (hb0:bdCharacter a1):Den Tryz.prog 23 [.int .i64 a0,.agg (yg a1)] (.bool (zph a0 a1)):=by
 generalize hR:zph a0 a1=r
 unfold zph at hR
 refine di Tryz.func23 Tryz.ntmps23 Tryz.results23 ?_
 intro c hL hc hk
 obtain⟨hL0,hL1,_⟩:=hL
 have hw0:bwCharacter a1:=yn a1 hL1
 clear hL0 hL1
 simp only[pars,Nat.zero_add]
 iterate 2 refine rS ?_
 refine AWP.cond rfl (fun hb => ?_) (fun hb => ?_)
 ·replace hR:=ct hR
  refine rS ?_
  refine AWP.ret ?_
  subst hR
  exact es
 ·replace hR:=cf hR
  iterate 2 refine rS ?_
  refine AWP.cond rfl (fun hb => ?_) (fun hb => ?_)
  ·replace hR:=ct hR
   refine rS ?_
   refine AWP.ret ?_
   subst hR
   exact es
  ·replace hR:=cf hR
   refine rS ?_
   refine AWP.cond rfl (fun hb => ?_) (fun hb => ?_)
   ·replace hR:=ct hR
    refine rS ?_
    refine AWP.ret ?_
    subst hR
    exact es
   ·replace hR:=cf hR
    refine rS ?_
    refine AWP.cond rfl (fun hb => ?_) (fun hb => ?_)
    ·replace hR:=ct hR
     refine rS ?_
     refine AWP.ret ?_
     subst hR
     exact es
    ·replace hR:=cf hR
     refine rS ?_
     refine AWP.cond rfl (fun hb => ?_) (fun hb => ?_)
     ·replace hR:=ct hR
      refine rS ?_
      refine AWP.ret ?_
      subst hR
      exact es
     ·replace hR:=cf hR
      refine rS ?_
      refine AWP.cond rfl (fun hb => ?_) (fun hb => ?_)
      ·replace hR:=ct hR
       refine rS ?_
       refine AWP.ret ?_
       subst hR
       exact es
      ·replace hR:=cf hR
       refine rS ?_
       refine AWP.cond rfl (fun hb => ?_) (fun hb => ?_)
       ·replace hR:=ct hR
        refine rS ?_
        refine AWP.ret ?_
        subst hR
        exact es
       ·replace hR:=cf hR
        refine rS ?_
        refine AWP.cond rfl (fun hb => ?_) (fun hb => ?_)
        ·replace hR:=ct hR
         refine rS ?_
         refine AWP.ret ?_
         subst hR
         exact es
        ·replace hR:=cf hR
         refine rS ?_
         refine AWP.cond rfl (fun hb => ?_) (fun hb => ?_)
         ·replace hR:=ct hR
          refine rS ?_
          refine AWP.ret ?_
          subst hR
          exact es
         ·replace hR:=cf hR
          refine rS ?_
          refine AWP.cond rfl (fun hb => ?_) (fun hb => ?_)
          ·replace hR:=ct hR
           refine rS ?_
           refine AWP.ret ?_
           subst hR
           exact es
          ·replace hR:=cf hR
           refine rS ?_
           refine AWP.cond rfl (fun hb => ?_) (fun hb => ?_)
           ·replace hR:=ct hR
            refine rS ?_
            refine AWP.ret ?_
            subst hR
            exact es
           ·replace hR:=cf hR
            refine rS ?_
            refine AWP.ret ?_
            subst hR
            exact es
end N23
def D_zph : DF
 | [x0,x1]=>some (.bool (zph (rdI x0) (rdG yd x1)),false,[wI .i64 x0,wG yg yd x1,bdCharacter (rdG yd x1)])
 | _=>none
theorem yny:OkD Tryz.prog 23 D_zph:=by unfold D_zph;exact dk N23.den
end Go.Ab

namespace Go.Ab
open Go Go.Proofs
def yrx (a0:(List Int)) (a1:(List Int)) (i1:Nat) (s1:Unit):Except (Bool) (Unit):=
 (bif ((a0.getD i1 default) != (a1.getD i1 default))then .error false else .ok ())
def zuf (a0:(List Int)) (a1:(List Int)):Bool:=
 (bif ((a0.length:Int) != (a1.length:Int))then false else(match ye (yrx a0 a1) (a0.length-0) 0 ()with|.error e=>e|.ok s1=>true))
namespace N24
theorem DD:DOk Tryz.prog (Go.Ab.DD []):=yc _
theorem den (a0:(List Int)) (a1:(List Int))  : Den Tryz.prog 24 [encL 1 yr a0,encL 1 yr a1] (.bool (zuf a0 a1)):=by
 generalize hR:zuf a0 a1=r
 unfold zuf at hR
 refine di Tryz.func24 Tryz.ntmps24 Tryz.results24 ?_
 intro c hL hc hk
 obtain⟨hL0,hL1,_⟩:=hL
 have hw0:a0.length<9223372036854775808:=Nat.lt_succ_of_le (yf hL0).1
 have hw1:a1.length<9223372036854775808:=Nat.lt_succ_of_le (yf hL1).1
 clear hL0 hL1
 simp only[pars,Nat.zero_add]
 iterate 2 refine rS ?_
 refine AWP.cond rfl (fun hb => ?_) (fun hb => ?_)
 ·replace hR:=ct hR
  refine rS ?_
  refine AWP.ret ?_
  subst hR
  exact es
 ·replace hR:=cf hR
  refine rS ?_
  refine AWP.block ?_
  generalize hz1:ye (yrx a0 a1) (a0.length-0) 0 ()=z1 at hR
  refine AWP.range (yrx a0 a1) (fun i1 s1=>⟨[(0,encL 1 yr a0),(1,encL 1 yr a1),(5,.int .i64 (i1:Int))],[]⟩) (fun i1 s1=>True) (a0.length) 0 () [] hz1 ot wt sm ?_
  clear hz1
  intro i1 s1 hi1 hW1 hz1
  refine rS ?_
  refine AWP.cond rfl (fun hb => ?_) (fun hb => ?_)
  ·have hlt1:i1<a0.length:=ot
   rw[yj hlt1]at hz1;simp only[yrx]at hz1
   refine rD 8 ?_
   refine AWP.cond rfl (fun hb => ?_) (fun hb => ?_)
   ·simp only[hb,cond_true]at hz1
    refine rS ?_
    refine AWP.ret ?_
    subst hz1
    dsimp only at hR
    subst hR
    exact es
   ·simp only[hb,cond_false]at hz1
    refine rS ?_
    exact⟨_,[],hlt1,wt,hz1,sm⟩
  ·obtain rfl:i1=a0.length:=ot
   rw[yi (Nat.le_refl _)]at hz1;subst hz1;dsimp only at hR
   refine AWP.exit ?_;refine yb ?_
   refine rS ?_
   refine AWP.ret ?_
   subst hR
   exact es
end N24
def D_zuf : DF
 | [x0,x1]=>some (.bool (zuf (rdL ywb x0) (rdL ywb x1)),false,[wL 1 yr ywb x0,wL 1 yr ywb x1])
 | _=>none
theorem yez:OkD Tryz.prog 24 D_zuf:=by unfold D_zuf;exact dk N24.den
end Go.Ab

namespace Go.Ab
open Go Go.Proofs
def zqh (a0:Int):Int:=
 (if a0<IntKind.wrap .i64 (0-a0)then IntKind.wrap .i64 (0-a0)else a0)
namespace N28
theorem DD:DOk Tryz.prog (Go.Ab.DD []):=yc _
theorem den (a0:Int)  : Den Tryz.prog 28 [.int .i64 a0] (.int .i64 (zqh a0)):=by
 generalize hR:zqh a0=r
 unfold zqh at hR
 refine di Tryz.func28 Tryz.ntmps28 Tryz.results28 ?_
 intro c hL hc hk
 clear hL
 simp only[pars,Nat.zero_add]
 iterate 2 refine rS ?_
 refine AWP.ret ?_
 subst hR
 exact es
end N28
def D_zqh : DF
 | [x0]=>some (.int .i64 (zqh (rdI x0)),false,[wI .i64 x0])
 | _=>none
theorem ytx:OkD Tryz.prog 28 D_zqh:=by unfold D_zqh;exact dk N28.den
end Go.Ab

namespace Go.Ab
open Go Go.Proofs
def zki (a0:(List Int)) (a1:(List Int)):Bool:=
 (bif (zoh a0 a1)then true else(bif (((!((zzb (zjc (zhd a0))).2)) || (!((((zzb (zjc (zhd a0))).1).Kind) == ((zhd a0).Kind) && ((((zzb (zjc (zhd a0))).1).Colors) == ((zhd a0).Colors) && ((((zzb (zjc (zhd a0))).1).Shape) == ((zhd a0).Shape) && (((zzb (zjc (zhd a0))).1).Topmark) == ((zhd a0).Topmark)))))) || (!(zdc (zhd a0))))then false else(bif (((((((((zyd (IntKind.wrap .i64 (1+(zrb a1 0 9)))).2) != 0) || (((zlf (IntKind.wrap .i64 (1+(zrb a1 0 9)))).2) != 0)) || (!((zec (zic (IntKind.wrap .i64 (1+(zrb a1 0 9))))).2))) || (((zec (zic (IntKind.wrap .i64 (1+(zrb a1 0 9))))).1) != (IntKind.wrap .i64 (1+(zrb a1 0 9))))) || (!(zdc ((zyd (IntKind.wrap .i64 (1+(zrb a1 0 9)))).1)))) || (!(zph (IntKind.wrap .i64 (1+(zrb a1 0 9))) ((zlf (IntKind.wrap .i64 (1+(zrb a1 0 9)))).1)))) || (!(zuf (zce (((zyd (IntKind.wrap .i64 (1+(zrb a1 0 9)))).1).Colors) (((zyd (IntKind.wrap .i64 (1+(zrb a1 0 9)))).1).Shape) (((zyd (IntKind.wrap .i64 (1+(zrb a1 0 9)))).1).Topmark)) ([IntKind.wrap .i64 (1+(zrb a1 0 9))]:List Int))))then false else(((((((zud (zff a1 1 360)).2) == 0) && (((zud ((IntKind.wrap .i64 ((zff a1 1 360)+180)).tmod 360)).2) == 0)) && decide (3≤((zud (zff a1 1 360)).1))) && decide (((zud (zff a1 1 360)).1)≤6)) && ((zqh (IntKind.wrap .i64 (((zud (zff a1 1 360)).1)-((zud ((IntKind.wrap .i64 ((zff a1 1 360)+180)).tmod 360)).1)))) == 2)))))
namespace N3
theorem DD:DOk Tryz.prog (Go.Ab.DD [(13,dP D_zoh),(14,dP D_zhd),(15,dP D_zzb),(16,dP D_zjc),(17,dP D_zdc),(18,dP D_zrb),(19,dP D_zyd),(20,dP D_zlf),(21,dP D_zec),(22,dP D_zic),(23,dP D_zph),(24,dP D_zuf),(25,dP D_zce),(26,dP D_zff),(27,dP D_zud),(28,dP D_zqh)]):=ya ycx.e <| ya y7y.e <| ya ydp.e <| ya yjl.e <| ya yri.e <| ya yrq.e <| ya y4w.e <| ya yqw.e <| ya yvp.e <| ya yoi.e <| ya yny.e <| ya yez.e <| ya ye4.e <| ya yxy.e <| ya ybx.e <| ya ytx.e <| yc _
theorem DZ:DOk Tryz.prog (Go.Ab.DD [(13,dP D_zoh),(14,dP D_zhd),(15,dP D_zzb),(16,dP D_zjc),(17,dP D_zdc),(18,dP D_zrb),(19,dP D_zyd),(20,dP D_zlf),(21,dP D_zec),(22,dP D_zic),(23,dP D_zph),(24,dP D_zuf),(25,dP Dz_zce),(26,dP D_zff),(27,dP D_zud),(28,dP D_zqh)]):=ya ycx.e <| ya y7y.e <| ya ydp.e <| ya yjl.e <| ya yri.e <| ya yrq.e <| ya y4w.e <| ya yqw.e <| ya yvp.e <| ya yoi.e <| ya yny.e <| ya yez.e <| ya y81.e <| ya yxy.e <| ya ybx.e <| ya ytx.e <| yc _
theorem dn:type_of% (And.intro @D_zoh.eq_1 <| And.intro @D_zhd.eq_1 <| And.intro @D_zzb.eq_1 <| And.intro @D_zjc.eq_1 <| And.intro @D_zdc.eq_1 <| And.intro @D_zrb.eq_1 <| And.intro @D_zyd.eq_1 <| And.intro @D_zlf.eq_1 <| And.intro @D_zec.eq_1 <| And.intro @D_zic.eq_1 <| And.intro @D_zph.eq_1 <| And.intro @D_zuf.eq_1 <| And.intro @D_zce.eq_1 <| And.intro @D_zff.eq_1 <| And.intro @D_zud.eq_1 <| And.intro @D_zqh.eq_1 <| @Dz_zce.eq_1):=by and_intros<;>intros<;>rfl
theorem o0 {p:Prop} (h:p:=by(first|((repeat' with_reducible apply And.intro)<;>(intros;(repeat' with_reducible apply And.intro))<;>first|with_reducible assumption|omega|(intros;with_reducible assumption)|(intros;omega)));first|done|fail):p:=h
set_option maxHeartbeats 4000000 in
set_option maxRecDepth 20000 in
theorem _root_.Go.Ab.zki_den (a0:(List Int)) (a1:(List Int)) (hp0:∀ v∈a0,0≤v∧v≤255) (hp1:∀ v∈a1,0≤v∧v≤255):Den Tryz.prog 3 [encL 1 eIu8 a0,encL 1 eIu8 a1] (.bool (zki a0 a1)):=by
 generalize hR:zki a0 a1=r
 unfold zki at hR
 refine di Tryz.func3 Tryz.ntmps3 Tryz.results3 ?_
 intro c hL hc hk
 obtain⟨hL0,hL1,_⟩:=hL
 have hw0:a0.length<9223372036854775808:=Nat.lt_succ_of_le (yf hL0).1
 have hw1:a1.length<9223372036854775808:=Nat.lt_succ_of_le (yf hL1).1
 clear hL0 hL1
 simp only[pars,Nat.zero_add]
 have hm9:=y8q a0 hp0
 have hmr:=y1g (m:=zhd a0) hm9
 have hmb:bdMark (zhd a0):=⟨Nat.lt_of_le_of_lt hmr.2.2.1 (by decide),Nat.lt_of_le_of_lt hmr.2.2.2.1 (by decide),Nat.lt_of_le_of_lt hmr.2.2.2.2 (by decide)⟩
 have hml:(zjc (zhd a0)).length≤40:=by rw[yc6];exact y88 _
 have hA9:=y1k a1 hp1 0 9 (by omega) (by omega)
 have hW9:=ybo a1 hp1 360 (by omega)
 have hsb:=y9cb (IntKind.wrap .i64 (1+(zrb a1 0 9)))
 have hlb:=yf5 (IntKind.wrap .i64 (1+(zrb a1 0 9)))
 have hsb1:=hsb.1
 have hsb2:=hsb.2.1
 have hsb3:=hsb.2.2
 iterate 2 refine rS ?_
 refine AWP.cond rfl (fun hb => ?_) (fun hb => ?_)
 ·replace hR:=ct hR
  refine rS ?_
  refine AWP.ret ?_
  subst hR
  exact es
 ·replace hR:=cf hR
  iterate 3 refine rS ?_
  refine AWP.cond rfl (fun hb => ?_) (fun hb => ?_)
  ·replace hR:=ct hR
   refine rS ?_
   refine AWP.ret ?_
   subst hR
   exact es
  ·replace hR:=cf hR
   iterate 4 refine rS ?_
   refine rT ?_
   refine AWP.cond rfl (fun hb => ?_) (fun hb => ?_)
   ·replace hR:=ct hR
    refine rS ?_
    refine AWP.ret ?_
    subst hR
    exact es
   ·replace hR:=cf hR
    iterate 4 refine rS ?_
    refine AWP.ret ?_
    subst hR
    exact es
end N3
end Go.Ab

namespace Go.Ab
open Go Go.Proofs
def yyab (k:Int):Bool:=((((((((zyd k).2) != 0) || (((zlf k).2) != 0)) || (!((zec (zic k)).2))) || (((zec (zic k)).1) != k)) || (!(zdc ((zyd k).1)))) || (!(zph k ((zlf k).1)))) || (!(zuf (zce (((zyd k).1).Colors) (((zyd k).1).Shape) (((zyd k).1).Topmark)) ([k]:List Int)))
def ybbb (b:Int):Bool:=(((((((zud b).2) == 0) && (((zud ((IntKind.wrap .i64 (b+180)).tmod 360)).2) == 0)) && decide (3≤((zud b).1))) && decide (((zud b).1)≤6)) && ((zqh (IntKind.wrap .i64 (((zud b).1)-((zud ((IntKind.wrap .i64 (b+180)).tmod 360)).1)))) == 2))
theorem yg3:(([1,2,3,4,5,6,7,8,9]:List Int).all fun k => !(yyab k))=true:=by decide +kernel
theorem yu1:((List.range 360).all fun b=>ybbb (b:Int))=true:=by decide +kernel
theorem yc7 {k:Int} (h1:1≤k) (h2:k≤9):yyab k=false:=by
 have:=List.all_eq_true.1 yg3 k (by
  rcases(show k=1∨k=2∨k=3∨k=4∨k=5∨k=6∨k=7∨k=8∨k=9 by omega)with e|e|e|e|e|e|e|e|e<;>rw[e]<;>decide)
 simpa using this
theorem y83 {b:Int} (h1:0≤b) (h2:b<360):ybbb b=true:=by
 obtain⟨n,rfl⟩:∃ n:Nat,b=n:=⟨b.toNat,by omega⟩
 exact List.all_eq_true.1 yu1 n (List.mem_range.2 (by omega))
theorem y6u (a0 a1:List Int) (hp0:∀ v∈a0,0≤v∧v≤255) (hp1:∀ v∈a1,0≤v∧v≤255):zki a0 a1=true:=by
 unfold zki
 cases zoh a0 a1 with
 | true=>rfl
 | false=>
  rw[cond_false]
  have hm:=y8q a0 hp0
  generalize zhd a0=m at hm
  have e1:zjc m=zee m:=by rw[yc6];unfold zii;rw[hm];rfl
  have hv:zdc m=true:=by rw[yld];exact hm
  have hA:=y1k a1 hp1 0 9 (by omega) (by omega)
  have hW:=ybo a1 hp1 360 (by omega)
  have hk:IntKind.wrap .i64 (1+(zrb a1 0 9))=1+zrb a1 0 9:=by rw[IntKind.wrap_i64];omega
  rw[e1,(ywv hm).1,hv,hk]
  have h1:=yc7 (k:=1+zrb a1 0 9) (by omega) (by omega)
  have h2:=y83 hW.1 hW.2
  unfold yyab at h1
  unfold ybbb at h2
  rw[h1,h2]
  simp
end Go.Ab
