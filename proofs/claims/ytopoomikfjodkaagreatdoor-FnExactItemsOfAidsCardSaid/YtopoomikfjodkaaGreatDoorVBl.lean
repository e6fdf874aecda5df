/- A part of a proof: walks of functions and lemmas of our own. No conditions. -/
import Derived.Test.YtopoomikfjodkaaGreatDoorVBg
import Derived.Test.YtopoomikfjodkaaGreatDoorVBk
import Derived.Test.YtopoomikfjodkaaGreatDoorVAl
import Derived.Test.YtopoomikfjodkaaGreatDoorVAn
import Derived.Test.YtopoomikfjodkaaGreatDoorVBi
import Derived.Test.YtopoomikfjodkaaGreatDoorVAi
import Derived.Test.YtopoomikfjodkaaGreatDoorVBj
import Derived.Test.YtopoomikfjodkaaGreatDoorVAp
import Derived.Test.YtopoomikfjodkaaGreatDoorVAr
set_option linter.unusedSectionVars false
set_option linter.unusedVariables false
set_option linter.unusedSimpArgs false
set_option maxHeartbeats 1000000
namespace Go.Ab
open Go Go.Proofs
theorem y8f {l:List Aid} (h:zcb l=true):∀ i,i<l.length→zt (l.getD i default)=true:=by
 unfold zcb at h
 rcases yud (b:=y1h l) (fun j=>(!(zt (l.getD j default))) || (decide (0<(j:Int)) && decide (((l.getD j default).Number)≤((l.getD ((IntKind.wrap .i64 ((j:Int)-1)).toNat) default).Number)))) (fun _ u=>u) false (k:=l.length-0) (i:=0) (s:=()) (fun j u _ _=>by cases u;rfl)with⟨_,e1⟩|⟨hq,_⟩
 ·rw[e1]at h;cases h
 ·intro i hi
  have:=hq i (Nat.zero_le _) (by omega)
  rw[Bool.or_eq_false_iff]at this
  simpa using this.1
theorem ywy {l:List Aid} (hb:∀ v∈l,bdAid v) (h:(!zwb l)=false):zcb l=true:=by
 rw[← yke l (fun v hv=>⟨Nat.lt_of_lt_of_le (hb v hv).2.2.1.2.2 (by decide),Nat.lt_of_lt_of_le (hb v hv).2.2.2.1 (by decide)⟩)];simpa using h
end Go.Ab

namespace Go.Ab
open Go Go.Proofs
def y7u (a0:(List Aid)) (i1:Nat) (s1:List Aid):Except ((List Aid)) (List Aid):=
 .ok (s1.set i1 (zo (a0.getD i1 default)))
def zk (a0:(List Aid)):(List Aid):=
 (match yf (y7u a0) (a0.length-0) 0 (List.replicate a0.length (default:Aid))with|.error e=>e|.ok s1=>s1)
namespace N36
theorem DD:DOk Tryz.prog (Go.Ab.DD [(31,dP D_zo)]):=ya yop.e <| yd _
theorem dn:type_of% (@D_zo.eq_1):=by and_intros<;>intros<;>rfl
theorem ol:type_of% (@ykm):=@ykm
theorem den (a0:(List Aid)) (hb0:a0.length<1099511627776) (hb1:∀ v∈a0,bdAid v) (hp0:a0.length≤1048576):Den Tryz.prog 36 [encL 16 eAid a0] (ownL 60 16 yeg (zk a0)):=by
 generalize hR:zk a0=r
 unfold zk at hR
 refine di Tryz.func36 Tryz.ntmps36 Tryz.results36 ?_
 intro c hL hc hk
 obtain⟨hL0,_⟩:=hL
 have hw0:a0.length<9223372036854775808:=Nat.lt_succ_of_le (ye hL0).1
 have hw1:∀ v∈a0,bwAid v:=fun v hv=>yy v ((ye hL0).2 v hv)
 clear hL0
 simp only[pars,Nat.zero_add]
 iterate 2 refine rS ?_
 refine AWP.arrS 0 (fun j=>yeg ((List.replicate a0.length (default:Aid)).getD j default)) rfl zs ?_;simp only[setE]
 refine rS ?_
 refine AWP.block ?_
 generalize hz1:yf (y7u a0) (a0.length-0) 0 (List.replicate a0.length (default:Aid))=z1 at hR
 refine AWP.range (y7u a0) (fun i1 s1=>⟨[(0,encL 16 eAid a0),(3,.ref 0 16 0 s1.length),(4,.int .i64 (i1:Int))],[.arr 60 16 s1.length (fun j=>yeg (s1.getD j default))]⟩) (fun i1 s1=>s1.length=(List.replicate a0.length (default:Aid)).length) (a0.length) 0 (List.replicate a0.length (default:Aid)) [0] hz1 ot wt sm ?_
 clear hz1
 intro i1 s1 hi1 hW1 hz1
 refine rS ?_
 refine AWP.cond rfl (fun hb => ?_) (fun hb => ?_)
 ·have hlt1:i1<a0.length:=ot
  rw[yh hlt1]at hz1;simp only[y7u]at hz1
  iterate 2 refine rS ?_
  exact⟨_,[0],hlt1,wt,hz1,sm⟩
 ·obtain rfl:i1=a0.length:=ot
  rw[yi (Nat.le_refl _)]at hz1;subst hz1;dsimp only at hR
  refine AWP.exit ?_;refine yb ?_
  refine rS ?_
  refine AWP.ret ?_
  subst hR
  exact es
end N36
def D_zk : DF
 | [x0]=>some (ownL 60 16 yeg (zk (rdL dAid x0)),false,[wL 16 eAid dAid x0,(rdL dAid x0).length<1099511627776,∀ v∈(rdL dAid x0),bdAid v,(rdL dAid x0).length≤1048576])
 | _=>none
theorem ygw:OkD Tryz.prog 36 D_zk:=by unfold D_zk;exact dk N36.den
end Go.Ab

namespace Go.Ab
open Go Go.Proofs
theorem yfu (a:List Aid):zk a=a:=by
 unfold zk
 rw[y5g (b:=y7u a) (fun i=>zo (a.getD i default)) (by simp) (fun i s _=>rfl)]
 simp only[ykm]
 exact yrb a
end Go.Ab

namespace Go.Ab
open Go Go.Proofs
def ynk (a0:(List Aid)) (a1:(List Aid)) (i1:Nat) (s1:Unit):Except (Bool) (Unit):=
 (bif (!(zcc (a0.getD i1 default) (a1.getD i1 default)))then .error false else .ok ())
def zzb (a0:(List Aid)) (a1:(List Aid)):Bool:=
 (bif ((a0.length:Int) != (a1.length:Int))then false else(match yf (ynk a0 a1) (a0.length-0) 0 ()with|.error e=>e|.ok s1=>true))
namespace N39
theorem DD:DOk Tryz.prog (Go.Ab.DD [(33,dP D_zcc)]):=ya yfi.e <| yd _
theorem dn:type_of% (@D_zcc.eq_1):=by and_intros<;>intros<;>rfl
theorem den (a0:(List Aid)) (a1:(List Aid))  : Den Tryz.prog 39 [encL 16 eAid a0,encL 16 eAid a1] (.bool (zzb a0 a1)):=by
 generalize hR:zzb a0 a1=r
 unfold zzb at hR
 refine di Tryz.func39 Tryz.ntmps39 Tryz.results39 ?_
 intro c hL hc hk
 obtain⟨hL0,hL1,_⟩:=hL
 have hw0:a0.length<9223372036854775808:=Nat.lt_succ_of_le (ye hL0).1
 have hw1:∀ v∈a0,bwAid v:=fun v hv=>yy v ((ye hL0).2 v hv)
 have hw2:a1.length<9223372036854775808:=Nat.lt_succ_of_le (ye hL1).1
 have hw3:∀ v∈a1,bwAid v:=fun v hv=>yy v ((ye hL1).2 v hv)
 clear hL0 hL1
 simp only[pars,Nat.zero_add]
 iterate 2 refine rS ?_
 refine AWP.cond rfl (fun hb => ?_) (fun hb => ?_)
 ·replace hR:=ct hR
  refine rS ?_
  refine AWP.ret ?_
  subst hR
  exact es
 ·replace hR:=cf hR
  refine rS ?_
  refine AWP.block ?_
  generalize hz1:yf (ynk a0 a1) (a0.length-0) 0 ()=z1 at hR
  refine AWP.range (ynk a0 a1) (fun i1 s1=>⟨[(0,encL 16 eAid a0),(1,encL 16 eAid a1),(5,.int .i64 (i1:Int))],[]⟩) (fun i1 s1=>True) (a0.length) 0 () [] hz1 ot wt sm ?_
  clear hz1
  intro i1 s1 hi1 hW1 hz1
  refine rS ?_
  refine AWP.cond rfl (fun hb => ?_) (fun hb => ?_)
  ·have hlt1:i1<a0.length:=ot
   rw[yh hlt1]at hz1;simp only[ynk]at hz1
   refine rD 8 ?_
   refine AWP.cond rfl (fun hb => ?_) (fun hb => ?_)
   ·simp only[hb,cond_true]at hz1
    refine rS ?_
    refine AWP.ret ?_
    subst hz1
    dsimp only at hR
    subst hR
    exact es
   ·simp only[hb,cond_false]at hz1
    refine rS ?_
    exact⟨_,[],hlt1,wt,hz1,sm⟩
  ·obtain rfl:i1=a0.length:=ot
   rw[yi (Nat.le_refl _)]at hz1;subst hz1;dsimp only at hR
   refine AWP.exit ?_;refine yb ?_
   refine rS ?_
   refine AWP.ret ?_
   subst hR
   exact es
end N39
def D_zzb : DF
 | [x0,x1]=>some (.bool (zzb (rdL dAid x0) (rdL dAid x1)),false,[wL 16 eAid dAid x0,wL 16 eAid dAid x1])
 | _=>none
theorem ygr:OkD Tryz.prog 39 D_zzb:=by unfold D_zzb;exact dk N39.den
end Go.Ab

namespace Go.Ab
open Go Go.Proofs
theorem yxw (a b:List Aid):zzb a b=decide (a=b):=by
 unfold zzb
 by_cases hl:a.length=b.length
 ·have h1:((a.length:Int) != (b.length:Int))=false:=by simp[hl]
  rw[h1,cond_false,yac (b:=ynk a b) (fun j => !decide (a.getD j default=b.getD j default)) false (fun j u _ _=>by simp only[ynk,y9p])]
  simp only[Nat.sub_zero,Nat.zero_add]
  rw[yyk a b hl]
  by_cases h:a=b<;>simp[h]
 ·have h1:((a.length:Int) != (b.length:Int))=true:=by simp;omega
  have h2:¬ a=b:=fun e=>hl (by rw[e])
  rw[h1,cond_true,decide_eq_false h2]
end Go.Ab

namespace Go.Ab
open Go Go.Proofs
def y0q (a0:(List Aid)) (a1:Int) (i1:Nat) (s1:Int):Except (Int) (Int):=
 (bif decide ((zv (a0.getD i1 default) s1)<0)then .error (-1)else .ok (zv (a0.getD i1 default) s1))
def zx (a0:(List Aid)) (a1:Int):Int:=
 (bif decide ((IntKind.wrap .i64 (a1-(a0.length:Int)))<0)then(-1)else(match yf (y0q a0 a1) (a0.length-0) 0 (IntKind.wrap .i64 (a1-(a0.length:Int)))with|.error e=>e|.ok s1=>s1))
namespace N34
theorem DD:DOk Tryz.prog (Go.Ab.DD [(29,dP D_zv)]):=ya y0l.e <| yd _
theorem dn:type_of% (@D_zv.eq_1):=by and_intros<;>intros<;>rfl
theorem den (a0:(List Aid)) (a1:Int)  : Den Tryz.prog 34 [encL 16 eAid a0,.int .i64 a1] (.int .i64 (zx a0 a1)):=by
 generalize hR:zx a0 a1=r
 unfold zx at hR
 refine di Tryz.func34 Tryz.ntmps34 Tryz.results34 ?_
 intro c hL hc hk
 obtain⟨hL0,hL1,_⟩:=hL
 have hw0:a0.length<9223372036854775808:=Nat.lt_succ_of_le (ye hL0).1
 have hw1:∀ v∈a0,bwAid v:=fun v hv=>yy v ((ye hL0).2 v hv)
 clear hL0 hL1
 simp only[pars,Nat.zero_add]
 iterate 3 refine rS ?_
 refine AWP.cond rfl (fun hb => ?_) (fun hb => ?_)
 ·replace hR:=ct hR
  refine rS ?_
  refine AWP.ret ?_
  subst hR
  exact es
 ·replace hR:=cf hR
  refine rS ?_
  refine AWP.block ?_
  generalize hz1:yf (y0q a0 a1) (a0.length-0) 0 (IntKind.wrap .i64 (a1-(a0.length:Int)))=z1 at hR
  refine AWP.range (y0q a0 a1) (fun i1 s1=>⟨[(0,encL 16 eAid a0),(1,.int .i64 s1),(5,.int .i64 (i1:Int))],[]⟩) (fun i1 s1=>True) (a0.length) 0 (IntKind.wrap .i64 (a1-(a0.length:Int))) [] hz1 ot wt sm ?_
  clear hz1
  intro i1 s1 hi1 hW1 hz1
  refine rS ?_
  refine AWP.cond rfl (fun hb => ?_) (fun hb => ?_)
  ·have hlt1:i1<a0.length:=ot
   rw[yh hlt1]at hz1;simp only[y0q]at hz1
   iterate 2 refine rS ?_
   refine AWP.cond rfl (fun hb => ?_) (fun hb => ?_)
   ·simp only[hb,cond_true]at hz1
    refine rS ?_
    refine AWP.ret ?_
    subst hz1
    dsimp only at hR
    subst hR
    exact es
   ·simp only[hb,cond_false]at hz1
    refine rS ?_
    exact⟨_,[],hlt1,wt,hz1,sm⟩
  ·obtain rfl:i1=a0.length:=ot
   rw[yi (Nat.le_refl _)]at hz1;subst hz1;dsimp only at hR
   refine AWP.exit ?_;refine yb ?_
   refine rS ?_
   refine AWP.ret ?_
   subst hR
   exact es
end N34
def D_zx : DF
 | [x0,x1]=>some (.int .i64 (zx (rdL dAid x0) (rdI x1)),false,[wL 16 eAid dAid x0,wI .i64 x1])
 | _=>none
theorem y3v:OkD Tryz.prog 34 D_zx:=by unfold D_zx;exact dk N34.den
end Go.Ab

namespace Go.Ab
open Go Go.Proofs
theorem yom (a:List Aid) (n:Int) (h0 : -1≤n) (h1:n≤1048576) (hl:a.length<9223372036854775808) (hx:∀ v∈a,bwAid v) :
  -1≤zx a n∧zx a n≤n∧(¬ zx a n<0→a.length≤1048576∧∀ v∈a,yfp v):=by
 unfold zx
 rw[show IntKind.wrap .i64 (n-(a.length:Int))=n-a.length from by rw[IntKind.wrap_i64];omega]
 by_cases c:n-(a.length:Int)<0
 ·rw[decide_eq_true c];exact⟨by simp,by simpa using h0,fun h=>absurd (by simp) h⟩
 ·rw[decide_eq_false c]
  simp only[cond_false]
  split
  ·rename_i e h
   obtain⟨j,t,_,_,h3⟩:=y8c h
   simp only[y0q]at h3
   have:e = -1:=by
    cases hq:decide (zv (a.getD j default) t<0)with
    | true=>rw[hq]at h3;simpa using h3.symm
    | false=>rw[hq]at h3;simp at h3
   omega
  ·rename_i s h
   have:=yyj (b:=y0q a n) (fun i s => -1≤s∧s≤n-a.length∧∀ j,j<i→yfp (a.getD j default)) ⟨by omega,by omega,by intro j hj;omega⟩ (by
    intro j u v h1 h2 ⟨h3,h4,h5⟩ h6
    simp only[y0q]at h6
    have hb:bwAid (a.getD j default):=ybd hx (by decide) j
    have hf:=ypi (a.getD j default) u h3 (by omega) hb
    cases hq:decide (zv (a.getD j default) u<0)with
    | true=>rw[hq]at h6;simp at h6
    | false=>
     rw[hq]at h6
     simp only[cond_false,Except.ok.injEq]at h6
     subst h6
     refine⟨by omega,by omega,fun q hq2 => ?_⟩
     by_cases hqj:q=j
     ·subst hqj;exact hf.2.2 (of_decide_eq_false hq)
     ·exact h5 q (by omega)) h
   refine⟨by omega,by omega,fun _=>⟨by omega,fun v hv => ?_⟩⟩
   obtain⟨i,hi,rfl⟩:=List.getElem_of_mem hv
   have:=this.2.2 i (by omega)
   simpa [List.getD_eq_getElem?_getD,hi]using this
end Go.Ab

namespace Go.Ab
open Go Go.Proofs
def yyp (a0:(List Int)) (a1:Int) (i1:Nat) (s1:Int×List Int):Except (Int×(List Int)) (Int×List Int):=
 .ok (IntKind.wrap .i64 (s1.1+1),s1.2.set i1 s1.1)
def zg (a0:(List Int)) (a1:Int):Int×(List Int):=
 (match yf (yyp a0 a1) (a0.length-0) 0 (a1,a0)with|.error e=>e|.ok s1=>(s1.1,s1.2))
namespace N121
theorem DD:DOk Tryz.prog (Go.Ab.DD []):=yd _
theorem den (a0:(List Int)) (a1:Int)  : DenM Tryz.prog 121 [ownL 2 1 yp a0,.int .i64 a1] (.int .i64 ((zg a0 a1).1)) [(ownL 2 1 yp ((zg a0 a1).2)),.any]:=by
 generalize hR:zg a0 a1=r
 unfold zg at hR
 refine dj (gb:=[true,false]) Tryz.func121 Tryz.ntmps121 Tryz.results121 ?_
 intro c hL hc hk
 obtain⟨hL0,hL1,_⟩:=hL
 have hw0:a0.length<9223372036854775808:=Nat.lt_succ_of_le (y1b hL0).1
 clear hL0 hL1
 simp only[adEL,adE,adRL,adR,ownL,encL,sv,List.nil_append,List.append_nil,List.cons_append,List.length_cons,List.length_nil,pars,Nat.zero_add,Nat.reduceAdd]at hk ⊢
 iterate 2 refine rS ?_
 refine AWP.block ?_
 generalize hz1:yf (yyp a0 a1) (a0.length-0) 0 (a1,a0)=z1 at hR
 refine AWP.range (yyp a0 a1) (fun i1 s1=>⟨[(0,.ref 0 1 0 s1.2.length),(1,.int .i64 s1.1),(5,.int .i64 (i1:Int))],[.arr 2 1 s1.2.length (fun j=>yp (s1.2.getD j default))]⟩) (fun i1 s1=>s1.2.length=a0.length) (a0.length) 0 (a1,a0) [0] hz1 ot wt sm ?_
 clear hz1
 intro i1 s1 hi1 hW1 hz1
 refine rS ?_
 refine AWP.cond rfl (fun hb => ?_) (fun hb => ?_)
 ·have hlt1:i1<a0.length:=ot
  rw[yh hlt1]at hz1;simp only[yyp]at hz1
  iterate 3 refine rS ?_
  exact⟨_,[0],hlt1,wt,hz1,sm⟩
 ·obtain rfl:i1=a0.length:=ot
  rw[yi (Nat.le_refl _)]at hz1;subst hz1;dsimp only at hR
  refine AWP.exit ?_;refine yb ?_
  refine rS ?_
  refine AWP.ret ?_
  subst hR
  exact es
end N121
def D_zg : List AV → Option (AV × List AV × List Prop)
 | [x0,x1]=>some (.int .i64 ((zg (rdL yob x0) (rdI x1)).1),[(ownL 2 1 yp ((zg (rdL yob x0) (rdI x1)).2)),.any],[wO 2 1 yp yob x0,wI .i64 x1])
 | _=>none
theorem yn3:OkM Tryz.prog 121 D_zg:=by unfold D_zg;exact dm N121.den
end Go.Ab

namespace Go.Ab
open Go Go.Proofs
def yjy (a0:Int) (s1:Int×List UInt8):Except (Sum ((List UInt8)) (Int×List UInt8)) (Int×List UInt8):=
 (bif decide (0<s1.1)then .ok (IntKind.wrap .i64 (s1.1.tdiv 10),(([IntKind.wrap .u8 (IntKind.wrap .i64 (48+(s1.1.tmod 10)))]:List Int).map fun z=>UInt8.ofNat z.toNat)++s1.2)else .error (.inr (s1.1,s1.2)))
def zm (a0:Int):(List UInt8):=
 (bif decide (a0≤0)then[109,48]else(match ynb (yjy a0) (((a0).toNat)+1) (a0,[])with|.error (.inl e)=>e|.error (.inr s1)=>[109]++s1.2|.ok _=>default))
namespace N120
theorem DD:DOk Tryz.prog (Go.Ab.DD []):=yd _
theorem den (a0:Int) (hp0:a0≤9223372036854775807):Den Tryz.prog 120 [.int .i64 a0] (.str (zm a0)):=by
 generalize hR:zm a0=r
 unfold zm at hR
 refine di Tryz.func120 Tryz.ntmps120 Tryz.results120 ?_
 intro c hL hc hk
 clear hL
 simp only[pars,Nat.zero_add]
 iterate 2 refine rS ?_
 refine AWP.cond rfl (fun hb => ?_) (fun hb => ?_)
 ·replace hR:=ct hR
  refine rS ?_
  refine AWP.ret ?_
  subst hR
  exact es
 ·replace hR:=cf hR
  refine rS ?_
  refine AWP.seq ?_
  refine AWP.block ?_
  generalize hz1:ynb (yjy a0) (((a0).toNat)+1) (a0,[])=z1 at hR
  refine AWP.whileW (yjy a0) (fun s1=>⟨[(0,.int .i64 s1.1),(3,.str s1.2)],[]⟩) (fun s1=>0≤s1.1∧s1.2.length≤19∧s1.1 * 10 ^ s1.2.length≤a0) (fun s1=>(s1.1).toNat) (((a0).toNat)+1) (a0,[]) [] hz1 m0 (by(refine⟨by have:=of_decide_eq_false hb;simp only;omega,by simp,by simp⟩)) sm ?_
  clear hz1
  intro s1 k1 hW1 hm1 hz1
  simp only[yjy]at hz1
  refine rS ?_
  refine AWP.cond rfl (fun hb => ?_) (fun hb => ?_)
  ·simp only[hb,cond_true]at hz1
   iterate 2 refine rS ?_
   exact⟨_,[],by(exact Nat.lt_of_lt_of_le (digd hW1 hb hp0) (Nat.le_of_lt_succ hm1)),by(exact digw rfl hW1 hb hp0),hz1,sm⟩
  ·simp only[hb,cond_false]at hz1
   refine AWP.exit ?_
   refine yb ?_
   subst hz1;dsimp only at hR
   refine rS ?_
   refine AWP.ret ?_
   subst hR
   exact es
end N120
def D_zm : DF
 | [x0]=>some (.str (zm (rdI x0)),false,[wI .i64 x0,(rdI x0)≤9223372036854775807])
 | _=>none
theorem yfm:OkD Tryz.prog 120 D_zm:=by unfold D_zm;exact dk N120.den
end Go.Ab

namespace Go.Ab
open Go Go.Proofs
def ywq (a0:(List Sector)) (a1:Int) (i1:Nat) (s1:Int×List Sector):Except (Int×(List Sector)) (Int×List Sector):=
 .ok (IntKind.wrap .i64 ((IntKind.wrap .i64 ((IntKind.wrap .i64 (s1.1+1))+1))+1),s1.2.set i1 ({ From:=s1.1,To:=IntKind.wrap .i64 (s1.1+1),Color:=(zm (IntKind.wrap .i64 ((IntKind.wrap .i64 (s1.1+1))+1))):Sector }))
def zy (a0:(List Sector)) (a1:Int):Int×(List Sector):=
 (match yf (ywq a0 a1) (a0.length-0) 0 (a1,a0)with|.error e=>e|.ok s1=>(s1.1,s1.2))
namespace N122
theorem DD:DOk Tryz.prog (Go.Ab.DD [(120,dP D_zm)]):=ya yfm.e <| yd _
theorem dn:type_of% (@D_zm.eq_1):=by and_intros<;>intros<;>rfl
theorem den (a0:(List Sector)) (a1:Int) (hp0:a1≤9223372036854775807):DenM Tryz.prog 122 [ownL 188 3 eSector a0,.int .i64 a1] (.int .i64 ((zy a0 a1).1)) [(ownL 188 3 eSector ((zy a0 a1).2)),.any]:=by
 generalize hR:zy a0 a1=r
 unfold zy at hR
 refine dj (gb:=[true,false]) Tryz.func122 Tryz.ntmps122 Tryz.results122 ?_
 intro c hL hc hk
 obtain⟨hL0,hL1,_⟩:=hL
 have hw0:a0.length<9223372036854775808:=Nat.lt_succ_of_le (y1b hL0).1
 have hw1:∀ v∈a0,bwSector v:=fun v hv=>yn v ((y1b hL0).2 v hv)
 clear hL0 hL1
 simp only[adEL,adE,adRL,adR,ownL,encL,sv,List.nil_append,List.append_nil,List.cons_append,List.length_cons,List.length_nil,pars,Nat.zero_add,Nat.reduceAdd]at hk ⊢
 iterate 2 refine rS ?_
 refine AWP.block ?_
 generalize hz1:yf (ywq a0 a1) (a0.length-0) 0 (a1,a0)=z1 at hR
 refine AWP.range (ywq a0 a1) (fun i1 s1=>⟨[(0,.ref 0 3 0 s1.2.length),(1,.int .i64 s1.1),(5,.int .i64 (i1:Int))],[.arr 188 3 s1.2.length (fun j=>eSector (s1.2.getD j default))]⟩) (fun i1 s1=>s1.2.length=a0.length∧s1.1≤9223372036854775807) (a0.length) 0 (a1,a0) [0] hz1 ot wt sm ?_
 clear hz1
 intro i1 s1 hi1 hW1 hz1
 refine rS ?_
 refine AWP.cond rfl (fun hb => ?_) (fun hb => ?_)
 ·have hlt1:i1<a0.length:=ot
  rw[yh hlt1]at hz1;simp only[ywq]at hz1
  iterate 7 refine rS ?_
  exact⟨_,[0],hlt1,by(exact mrg),hz1,sm⟩
 ·obtain rfl:i1=a0.length:=ot
  rw[yi (Nat.le_refl _)]at hz1;subst hz1;dsimp only at hR
  refine AWP.exit ?_;refine yb ?_
  refine rS ?_
  refine AWP.ret ?_
  subst hR
  exact es
end N122
def D_zy : List AV → Option (AV × List AV × List Prop)
 | [x0,x1]=>some (.int .i64 ((zy (rdL yk x0) (rdI x1)).1),[(ownL 188 3 eSector ((zy (rdL yk x0) (rdI x1)).2)),.any],[wO 188 3 eSector yk x0,wI .i64 x1,(rdI x1)≤9223372036854775807])
 | _=>none
theorem ys3:OkM Tryz.prog 122 D_zy:=by unfold D_zy;exact dm N122.den
end Go.Ab

namespace Go.Ab
open Go Go.Proofs
theorem y6f (a:List Int) (k:Int) (h:k≤9223372036854775807):(zg a k).1≤9223372036854775807:=by
 unfold zg
 obtain⟨t,h1,h2⟩:=yq (b:=yyp a k) (fun _ s=>s.1≤9223372036854775807) (k:=a.length-0) (i:=0) (s:=(k,a)) h (by
  intro j u _ _ h
  exact⟨_,rfl,ymh _⟩)
 rw[h1]
 exact h2
theorem ymd (a:List Sector) (k:Int) (h:k≤9223372036854775807):(zy a k).1≤9223372036854775807:=by
 unfold zy
 obtain⟨t,h1,h2⟩:=yq (b:=ywq a k) (fun _ s=>s.1≤9223372036854775807) (k:=a.length-0) (i:=0) (s:=(k,a)) h (by
  intro j u _ _ h
  exact⟨_,rfl,ymh _⟩)
 rw[h1]
 exact h2
theorem y6c (a:List Sector) (k:Int):(zy a k).2.length=a.length:=by
 unfold zy
 obtain⟨t,h1,h2⟩:=yq (b:=ywq a k) (fun _ s=>s.2.length=a.length) (k:=a.length-0) (i:=0) (s:=(k,a)) rfl (by
  intro j u _ _ h
  exact⟨_,rfl,by simpa using h⟩)
 rw[h1]
 exact h2
theorem ype (a:List Sector) (k:Int):subL (zy a k).2 0 a.length=(zy a k).2:=by
 rw[← y6c a k];exact yye _
end Go.Ab

namespace Go.Ab
open Go Go.Proofs
def ymq (v:Int):Int:=v
theorem yzr (a:List Int) (k:Int):(zg a k).2.length=a.length:=by
 unfold zg
 obtain⟨t,h1,h2⟩:=yq (b:=yyp a k) (fun _ s=>s.2.length=a.length) (k:=a.length-0) (i:=0) (s:=(k,a)) rfl (by
  intro j u _ _ h
  exact⟨_,rfl,by simpa using h⟩)
 rw[h1]
 exact h2
theorem yw2 (a:List Int) (k:Int):subL (zg a k).2 0 a.length=(zg a k).2:=by
 rw[← yzr a k];exact yye _
theorem yr5 (a:List Int) (k:Int) (h0:0≤k) (h1:k+1 * a.length<4611686018427387904):zg a k=(k+1 * a.length,(List.range a.length).map (fun j:Nat=>ymq (k+1 * j))):=by
 unfold zg
 obtain⟨t,q1,q2,q3,q4⟩:=yq (b:=yyp a k) (fun i s=>s.1=k+1 * i∧s.2.length=a.length∧∀ j,j<i→s.2.getD j default=ymq (k+1 * j)) (k:=a.length-0) (i:=0) (s:=(k,a)) ⟨by simp,rfl,by intro j hj;omega⟩ (by
  intro j u _ hj ⟨h2,h3,h4⟩
  have w1:∀ m:Int,0≤m→m<4611686018427387904→IntKind.wrap .i64 (m+1)=m+1:=by intro m _ _;rw[IntKind.wrap_i64];omega
  have w0:∀ m:Int,0≤m→m<4611686018427387904→IntKind.wrap .i64 m=m:=by intro m _ _;rw[IntKind.wrap_i64];omega
  refine⟨_,rfl,?_,?_,?_⟩
  ·simp only[h2,IntKind.wrap_i64];omega
  ·simpa using h3
  ·intro q hq
   simp only
   rw[ywd]
   by_cases h:q=j
   ·subst h
    rw[if_pos ⟨rfl,by omega⟩,h2]
    simp only[ymq]
    all_goals (try rw[Int.mk.injEq])
    all_goals (and_intros<;>first|rfl|trivial|(simp only[IntKind.wrap_i64];omega)|(congr 1;(simp only[IntKind.wrap_i64];omega)))
   ·rw[if_neg (fun hh=>h hh.1)]
    exact h4 q (by omega))
 rw[q1]
 simp only[Nat.zero_add,Nat.sub_zero]at q2 q4
 simp only[q2]
 congr 1
 apply yai
 ·simpa using q3
 ·intro i hi
  rw[q4 i (by omega)]
  simp[List.getD_eq_getElem?_getD]
  rw[List.getElem?_range (by omega)]
  rfl
theorem zg_k (a:List Int) (k:Int) (h0:0≤k) (h1:k≤1152921504606846976) (hl:a.length<1099511627776):(zg a k).1=k+1 * a.length:=by
 rw[yr5 a k h0 (by omega)]
end Go.Ab

namespace Go.Ab
open Go Go.Proofs
theorem wr1 {k:Int} (h0:0≤k) (h1:k<4611686018427387904):IntKind.wrap .i64 (k+1)=k+1:=by rw[IntKind.wrap_i64];omega
def ytd (x:Sector) (k:Int):Int×Sector:=
 (IntKind.wrap .i64 ((IntKind.wrap .i64 ((IntKind.wrap .i64 (k+1))+1))+1),{ From:=k,To:=IntKind.wrap .i64 (k+1),Color:=(zm (IntKind.wrap .i64 ((IntKind.wrap .i64 (k+1))+1))):Sector })
theorem yhn (x:Sector) (k:Int) (h0:0≤k) (h1:k≤2305843009213693952):(ytd x k).1=k+3:=by
 unfold ytd
 simp(disch:=omega) only[wr1]
 omega
theorem ynm (a:List Sector) (k:Int):zy a k=yuf ytd a k:=by
 unfold zy
 have:=y9g ytd (ywq a k) (fun i s=>rfl) a [] k
 simp only[List.length_nil,List.nil_append,Nat.sub_zero]at this ⊢
 rw[this]
theorem yus : ∀ (a : List Sector) (k : Int), 0 ≤ k → k + 3 * a.length ≤ 2305843009213693952 → (yuf ytd a k).1 = k + 3 * a.length
 | [],k,_,_=>by simp[yuf]
 | x::a,k,h0,h1=>by
  simp only[List.length_cons]at h1 ⊢
  simp only[yuf]
  have hk:=yhn x k h0 (by omega)
  rw[yus a _ (by omega) (by omega),hk]
  omega
theorem yil (a:List Sector) (k:Int) (h0:0≤k) (h1:k≤1152921504606846976) (hl:a.length≤1099511627776):(zy a k).1=k+3 * a.length:=by
 rw[ynm,yus a k h0 (by omega)]
end Go.Ab

namespace Go.Ab
open Go Go.Proofs
def yjj (a0:(List Aid)) (a1:Int) (i1:Nat) (s1:Int×List Aid):Except (Int×(List Aid)) (Int×List Aid):=
 .ok (IntKind.wrap .i64 (((zy ((s1.2.getD i1 default).Sectors) (IntKind.wrap .i64 ((IntKind.wrap .i64 ((IntKind.wrap .i64 (((zg (((s1.2.getD i1 default).Light).Group) (IntKind.wrap .i64 ((IntKind.wrap .i64 ((IntKind.wrap .i64 ((IntKind.wrap .i64 ((IntKind.wrap .i64 ((IntKind.wrap .i64 ((IntKind.wrap .i64 ((IntKind.wrap .i64 ((IntKind.wrap .i64 ((IntKind.wrap .i64 (s1.1+1))+1))+1))+1))+1))+1))+1))+1))+1))+1))).1)+1))+1))+1))).1)+1),s1.2.set i1 ({ Number:=s1.1,Name:=(zm (IntKind.wrap .i64 (s1.1+1))),At:={ X:=IntKind.wrap .i64 ((IntKind.wrap .i64 (s1.1+1))+1),Y:=IntKind.wrap .i64 ((IntKind.wrap .i64 ((IntKind.wrap .i64 (s1.1+1))+1))+1):Point },Height:=IntKind.wrap .i64 ((IntKind.wrap .i64 ((IntKind.wrap .i64 ((IntKind.wrap .i64 (s1.1+1))+1))+1))+1),Mark:={ Kind:=IntKind.wrap .i64 ((IntKind.wrap .i64 ((IntKind.wrap .i64 ((IntKind.wrap .i64 ((IntKind.wrap .i64 (s1.1+1))+1))+1))+1))+1),Colors:=(zm (IntKind.wrap .i64 ((IntKind.wrap .i64 ((IntKind.wrap .i64 ((IntKind.wrap .i64 ((IntKind.wrap .i64 ((IntKind.wrap .i64 (s1.1+1))+1))+1))+1))+1))+1))),Shape:=(zm (IntKind.wrap .i64 ((IntKind.wrap .i64 ((IntKind.wrap .i64 ((IntKind.wrap .i64 ((IntKind.wrap .i64 ((IntKind.wrap .i64 ((IntKind.wrap .i64 (s1.1+1))+1))+1))+1))+1))+1))+1))),Topmark:=(zm (IntKind.wrap .i64 ((IntKind.wrap .i64 ((IntKind.wrap .i64 ((IntKind.wrap .i64 ((IntKind.wrap .i64 ((IntKind.wrap .i64 ((IntKind.wrap .i64 ((IntKind.wrap .i64 (s1.1+1))+1))+1))+1))+1))+1))+1))+1))):Mark },Light:={ Kind:=IntKind.wrap .i64 ((IntKind.wrap .i64 ((IntKind.wrap .i64 ((IntKind.wrap .i64 ((IntKind.wrap .i64 ((IntKind.wrap .i64 ((IntKind.wrap .i64 ((IntKind.wrap .i64 ((IntKind.wrap .i64 (s1.1+1))+1))+1))+1))+1))+1))+1))+1))+1),Group:=(zg (((s1.2.getD i1 default).Light).Group) (IntKind.wrap .i64 ((IntKind.wrap .i64 ((IntKind.wrap .i64 ((IntKind.wrap .i64 ((IntKind.wrap .i64 ((IntKind.wrap .i64 ((IntKind.wrap .i64 ((IntKind.wrap .i64 ((IntKind.wrap .i64 ((IntKind.wrap .i64 (s1.1+1))+1))+1))+1))+1))+1))+1))+1))+1))+1))).2,Letter:=(zm ((zg (((s1.2.getD i1 default).Light).Group) (IntKind.wrap .i64 ((IntKind.wrap .i64 ((IntKind.wrap .i64 ((IntKind.wrap .i64 ((IntKind.wrap .i64 ((IntKind.wrap .i64 ((IntKind.wrap .i64 ((IntKind.wrap .i64 ((IntKind.wrap .i64 ((IntKind.wrap .i64 (s1.1+1))+1))+1))+1))+1))+1))+1))+1))+1))+1))).1)),Colors:=(zm (IntKind.wrap .i64 (((zg (((s1.2.getD i1 default).Light).Group) (IntKind.wrap .i64 ((IntKind.wrap .i64 ((IntKind.wrap .i64 ((IntKind.wrap .i64 ((IntKind.wrap .i64 ((IntKind.wrap .i64 ((IntKind.wrap .i64 ((IntKind.wrap .i64 ((IntKind.wrap .i64 ((IntKind.wrap .i64 (s1.1+1))+1))+1))+1))+1))+1))+1))+1))+1))+1))).1)+1))),Period:=IntKind.wrap .i64 ((IntKind.wrap .i64 (((zg (((s1.2.getD i1 default).Light).Group) (IntKind.wrap .i64 ((IntKind.wrap .i64 ((IntKind.wrap .i64 ((IntKind.wrap .i64 ((IntKind.wrap .i64 ((IntKind.wrap .i64 ((IntKind.wrap .i64 ((IntKind.wrap .i64 ((IntKind.wrap .i64 ((IntKind.wrap .i64 (s1.1+1))+1))+1))+1))+1))+1))+1))+1))+1))+1))).1)+1))+1):Character },Sectors:=(zy ((s1.2.getD i1 default).Sectors) (IntKind.wrap .i64 ((IntKind.wrap .i64 ((IntKind.wrap .i64 (((zg (((s1.2.getD i1 default).Light).Group) (IntKind.wrap .i64 ((IntKind.wrap .i64 ((IntKind.wrap .i64 ((IntKind.wrap .i64 ((IntKind.wrap .i64 ((IntKind.wrap .i64 ((IntKind.wrap .i64 ((IntKind.wrap .i64 ((IntKind.wrap .i64 ((IntKind.wrap .i64 (s1.1+1))+1))+1))+1))+1))+1))+1))+1))+1))+1))).1)+1))+1))+1))).2,Intensity:=((zy ((s1.2.getD i1 default).Sectors) (IntKind.wrap .i64 ((IntKind.wrap .i64 ((IntKind.wrap .i64 (((zg (((s1.2.getD i1 default).Light).Group) (IntKind.wrap .i64 ((IntKind.wrap .i64 ((IntKind.wrap .i64 ((IntKind.wrap .i64 ((IntKind.wrap .i64 ((IntKind.wrap .i64 ((IntKind.wrap .i64 ((IntKind.wrap .i64 ((IntKind.wrap .i64 ((IntKind.wrap .i64 (s1.1+1))+1))+1))+1))+1))+1))+1))+1))+1))+1))).1)+1))+1))+1))).1):Aid }))
def zzc (a0:(List Aid)) (a1:Int):Int×(List Aid):=
 (match yf (yjj a0 a1) (a0.length-0) 0 (a1,a0)with|.error e=>e|.ok s1=>(s1.1,s1.2))
namespace N40
theorem DD:DOk Tryz.prog (Go.Ab.DD [(120,dP D_zm),(121,dM [true,false] D_zg),(122,dM [true,false] D_zy)]):=ya yfm.e <| ya yn3.e <| ya ys3.e <| yd _
theorem dn:type_of% (And.intro @D_zm.eq_1 <| And.intro @D_zg.eq_1 <| And.intro @D_zy.eq_1 <| And.intro @yw2 <| @ype):=And.intro @D_zm.eq_1 <| And.intro @D_zg.eq_1 <| And.intro @D_zy.eq_1 <| And.intro @yw2 <| @ype
theorem ol:type_of% (And.intro @yzr <| @y6c):=And.intro @yzr <| @y6c
theorem gr {p:Prop} (h:p:=by(grind [yzr,ymd]);first|done|fail):p:=h
theorem o1 {p:Prop} (h:p:=by(first|(exact mrg)|(first|exact y6f _ _ (by exact mrg)|exact ymd _ _ (by exact mrg)|exact y6f _ _ (ymh _)|exact ymd _ _ (ymh _)));first|done|fail):p:=h
theorem o2 {p:Prop} (h:p:=by(first|(and_intros<;>first|rfl|decide|(rw[IntKind.wrap_i64];omega)|(simp only[List.length_set];(first|done|fail))|(intro j hj;by_cases hji:j=i1;(focus(subst hji;simp only[y5y hj,Nat.beq_refl,beq_self_eq_true,cond_true,ol];first|(first|done|fail)|rfl|(and_intros<;>rfl)));(simp only[y9w hji,beqF hji,cond_false];first|(first|done|fail)|rfl|(and_intros<;>rfl)))));first|done|fail):p:=h
set_option maxHeartbeats 4000000 in
set_option maxRecDepth 20000 in
theorem den (a0:(List Aid)) (a1:Int) (hp0:a1≤9223372036854775807):DenD Tryz.prog 40 [ownL 60 16 yeg a0,.int .i64 a1] (.int .i64 ((zzc a0 a1).1)) [(ownL 60 16 yeg ((zzc a0 a1).2)),.any]:=by
 generalize hR:zzc a0 a1=r
 unfold zzc at hR
 refine ylu (gb:=[true,false]) G_ok Tryz.func40 (by kernel_rfl) rfl Tryz.ntmps40 (by rw[Tryz.results40]) (by simp) ?_
 intro c hdp hL hc hk
 obtain⟨hL0,hL1,_⟩:=hL
 have hw0:a0.length<9223372036854775808:=Nat.lt_succ_of_le (y1b hL0).1
 have hw1:∀ v∈a0,bwAid v:=fun v hv=>yrv v ((y1b hL0).2 v hv)
 clear hL0 hL1
 simp only[adEL,adE,adRL,adR,ownL,encL,sv,List.nil_append,List.append_nil,List.cons_append,List.length_cons,List.length_nil,pars,Nat.zero_add,Nat.reduceAdd]at hk ⊢
 iterate 2 refine rS ?_
 refine AWP.block ?_
 generalize hz1:yf (yjj a0 a1) (a0.length-0) 0 (a1,a0)=z1 at hR
 refine AWP.range (yjj a0 a1) (fun i1 s1=>⟨[(0,.ref 0 16 0 s1.2.length),(1,.int .i64 s1.1),(5,.int .i64 (i1:Int))],[.arr 60 16 s1.2.length (fun j=>yeg (s1.2.getD j default))]⟩) (fun i1 s1=>s1.2.length=a0.length∧s1.1≤9223372036854775807) (a0.length) 0 (a1,a0) [0] hz1 ot wt sm ?_
 clear hz1
 intro i1 s1 hi1 hW1 hz1
 refine rS ?_
 refine AWP.cond rfl (fun hb => ?_) (fun hb => ?_)
 ·have hlt1:i1<a0.length:=ot
  rw[yh hlt1]at hz1;simp only[yjj]at hz1
  iterate 4 refine rS ?_
  refine AWP.keepT [0,1,5] ?_;simp only[List.map,putL,dropL,Nat.beq_refl,cond_true,ea,absV,absVL,cput,gv,sv,dn,reduceCtorEq,reduceIte,Nat.reduceBEq,Nat.reduceAdd,Nat.reduceEqDiff,Nat.reduceLT,Nat.reduceLeDiff,Nat.reduceMul,Nat.reduceSub,BEq.rfl,beq_self_eq_true,Int.reduceToNat]
  iterate 5 refine rS ?_
  refine AWP.keepT [0,1,5] ?_;simp only[List.map,putL,dropL,Nat.beq_refl,cond_true,ea,absV,absVL,cput,gv,sv,dn,reduceCtorEq,reduceIte,Nat.reduceBEq,Nat.reduceAdd,Nat.reduceEqDiff,Nat.reduceLT,Nat.reduceLeDiff,Nat.reduceMul,Nat.reduceSub,BEq.rfl,beq_self_eq_true,Int.reduceToNat]
  iterate 5 refine rS ?_
  refine AWP.keepT [0,1,5] ?_;simp only[List.map,putL,dropL,Nat.beq_refl,cond_true,ea,absV,absVL,cput,gv,sv,dn,reduceCtorEq,reduceIte,Nat.reduceBEq,Nat.reduceAdd,Nat.reduceEqDiff,Nat.reduceLT,Nat.reduceLeDiff,Nat.reduceMul,Nat.reduceSub,BEq.rfl,beq_self_eq_true,Int.reduceToNat]
  iterate 5 refine rS ?_
  refine AWP.keepT [0,1,5] ?_;simp only[List.map,putL,dropL,Nat.beq_refl,cond_true,ea,absV,absVL,cput,gv,sv,dn,reduceCtorEq,reduceIte,Nat.reduceBEq,Nat.reduceAdd,Nat.reduceEqDiff,Nat.reduceLT,Nat.reduceLeDiff,Nat.reduceMul,Nat.reduceSub,BEq.rfl,beq_self_eq_true,Int.reduceToNat]
  refine rS ?_
  refine AWP.seq ?_
  refine AWP.openE rb 0 0 i1 10 rfl rfl ot (by simp only[putL,dropL,Nat.beq_refl,cond_true,ea,absV,absVL,cput,gv,sv,dn,reduceCtorEq,reduceIte,Nat.reduceBEq,Nat.reduceAdd,Nat.reduceEqDiff,Nat.reduceLT,Nat.reduceLeDiff,Nat.reduceMul,Nat.reduceSub,BEq.rfl,beq_self_eq_true,Int.reduceToNat];rfl) ?_;simp only[putL,dropL,Nat.beq_refl,cond_true,ea,absV,absVL,cput,gv,sv,dn,reduceCtorEq,reduceIte,Nat.reduceBEq,Nat.reduceAdd,Nat.reduceEqDiff,Nat.reduceLT,Nat.reduceLeDiff,Nat.reduceMul,Nat.reduceSub,BEq.rfl,beq_self_eq_true,Int.reduceToNat]
  refine rS ?_
  simp only[ol]
  refine AWP.closeE 0 0 i1 10 1 rfl rfl rfl (by decide) ot (by simp only[putL,dropL,Nat.beq_refl,cond_true,ea,absV,absVL,cput,gv,sv,dn,reduceCtorEq,reduceIte,Nat.reduceBEq,Nat.reduceAdd,Nat.reduceEqDiff,Nat.reduceLT,Nat.reduceLeDiff,Nat.reduceMul,Nat.reduceSub,BEq.rfl,beq_self_eq_true,Int.reduceToNat];rfl) (fun k hk=>by rfl) ?_;simp only[putL,dropL,Nat.beq_refl,cond_true,ea,absV,absVL,cput,gv,sv,dn,reduceCtorEq,reduceIte,Nat.reduceBEq,Nat.reduceAdd,Nat.reduceEqDiff,Nat.reduceLT,Nat.reduceLeDiff,Nat.reduceMul,Nat.reduceSub,BEq.rfl,beq_self_eq_true,Int.reduceToNat]
  iterate 3 refine rS ?_
  refine AWP.keepT [0,1,5] ?_;simp only[List.map,putL,dropL,Nat.beq_refl,cond_true,ea,absV,absVL,cput,gv,sv,dn,reduceCtorEq,reduceIte,Nat.reduceBEq,Nat.reduceAdd,Nat.reduceEqDiff,Nat.reduceLT,Nat.reduceLeDiff,Nat.reduceMul,Nat.reduceSub,BEq.rfl,beq_self_eq_true,Int.reduceToNat]
  iterate 3 refine rS ?_
  refine AWP.seq ?_
  refine AWP.openE rb 0 0 i1 14 rfl rfl ot (by simp only[putL,dropL,Nat.beq_refl,cond_true,ea,absV,absVL,cput,gv,sv,dn,reduceCtorEq,reduceIte,Nat.reduceBEq,Nat.reduceAdd,Nat.reduceEqDiff,Nat.reduceLT,Nat.reduceLeDiff,Nat.reduceMul,Nat.reduceSub,BEq.rfl,beq_self_eq_true,Int.reduceToNat];rfl) ?_;simp only[putL,dropL,Nat.beq_refl,cond_true,ea,absV,absVL,cput,gv,sv,dn,reduceCtorEq,reduceIte,Nat.reduceBEq,Nat.reduceAdd,Nat.reduceEqDiff,Nat.reduceLT,Nat.reduceLeDiff,Nat.reduceMul,Nat.reduceSub,BEq.rfl,beq_self_eq_true,Int.reduceToNat]
  refine rS ?_
  simp only[ol]
  refine AWP.closeE 0 0 i1 14 2 rfl rfl rfl (by decide) ot (by simp only[putL,dropL,Nat.beq_refl,cond_true,ea,absV,absVL,cput,gv,sv,dn,reduceCtorEq,reduceIte,Nat.reduceBEq,Nat.reduceAdd,Nat.reduceEqDiff,Nat.reduceLT,Nat.reduceLeDiff,Nat.reduceMul,Nat.reduceSub,BEq.rfl,beq_self_eq_true,Int.reduceToNat];rfl) (fun k hk=>by rfl) ?_;simp only[putL,dropL,Nat.beq_refl,cond_true,ea,absV,absVL,cput,gv,sv,dn,reduceCtorEq,reduceIte,Nat.reduceBEq,Nat.reduceAdd,Nat.reduceEqDiff,Nat.reduceLT,Nat.reduceLeDiff,Nat.reduceMul,Nat.reduceSub,BEq.rfl,beq_self_eq_true,Int.reduceToNat]
  refine rS ?_
  refine AWP.keepT [0,1,5] ?_;simp only[List.map,putL,dropL,Nat.beq_refl,cond_true,ea,absV,absVL,cput,gv,sv,dn,reduceCtorEq,reduceIte,Nat.reduceBEq,Nat.reduceAdd,Nat.reduceEqDiff,Nat.reduceLT,Nat.reduceLeDiff,Nat.reduceMul,Nat.reduceSub,BEq.rfl,beq_self_eq_true,Int.reduceToNat]
  iterate 2 refine rS ?_
  exact⟨_,[0],hlt1,by(exact mrg),hz1,sm⟩
 ·obtain rfl:i1=a0.length:=ot
  rw[yi (Nat.le_refl _)]at hz1;subst hz1;dsimp only at hR
  refine AWP.exit ?_;refine yb ?_
  refine rS ?_
  refine AWP.ret ?_
  subst hR
  exact es
end N40
end Go.Ab

namespace Go.Ab
open Go Go.Proofs
def yyf (x:Aid) (k:Int):Int×Aid:=
 (IntKind.wrap .i64 (((zy (x.Sectors) (IntKind.wrap .i64 ((IntKind.wrap .i64 ((IntKind.wrap .i64 (((zg ((x.Light).Group) (IntKind.wrap .i64 ((IntKind.wrap .i64 ((IntKind.wrap .i64 ((IntKind.wrap .i64 ((IntKind.wrap .i64 ((IntKind.wrap .i64 ((IntKind.wrap .i64 ((IntKind.wrap .i64 ((IntKind.wrap .i64 ((IntKind.wrap .i64 (k+1))+1))+1))+1))+1))+1))+1))+1))+1))+1))).1)+1))+1))+1))).1)+1),{ Number:=k,Name:=(zm (IntKind.wrap .i64 (k+1))),At:={ X:=IntKind.wrap .i64 ((IntKind.wrap .i64 (k+1))+1),Y:=IntKind.wrap .i64 ((IntKind.wrap .i64 ((IntKind.wrap .i64 (k+1))+1))+1):Point },Height:=IntKind.wrap .i64 ((IntKind.wrap .i64 ((IntKind.wrap .i64 ((IntKind.wrap .i64 (k+1))+1))+1))+1),Mark:={ Kind:=IntKind.wrap .i64 ((IntKind.wrap .i64 ((IntKind.wrap .i64 ((IntKind.wrap .i64 ((IntKind.wrap .i64 (k+1))+1))+1))+1))+1),Colors:=(zm (IntKind.wrap .i64 ((IntKind.wrap .i64 ((IntKind.wrap .i64 ((IntKind.wrap .i64 ((IntKind.wrap .i64 ((IntKind.wrap .i64 (k+1))+1))+1))+1))+1))+1))),Shape:=(zm (IntKind.wrap .i64 ((IntKind.wrap .i64 ((IntKind.wrap .i64 ((IntKind.wrap .i64 ((IntKind.wrap .i64 ((IntKind.wrap .i64 ((IntKind.wrap .i64 (k+1))+1))+1))+1))+1))+1))+1))),Topmark:=(zm (IntKind.wrap .i64 ((IntKind.wrap .i64 ((IntKind.wrap .i64 ((IntKind.wrap .i64 ((IntKind.wrap .i64 ((IntKind.wrap .i64 ((IntKind.wrap .i64 ((IntKind.wrap .i64 (k+1))+1))+1))+1))+1))+1))+1))+1))):Mark },Light:={ Kind:=IntKind.wrap .i64 ((IntKind.wrap .i64 ((IntKind.wrap .i64 ((IntKind.wrap .i64 ((IntKind.wrap .i64 ((IntKind.wrap .i64 ((IntKind.wrap .i64 ((IntKind.wrap .i64 ((IntKind.wrap .i64 (k+1))+1))+1))+1))+1))+1))+1))+1))+1),Group:=(zg ((x.Light).Group) (IntKind.wrap .i64 ((IntKind.wrap .i64 ((IntKind.wrap .i64 ((IntKind.wrap .i64 ((IntKind.wrap .i64 ((IntKind.wrap .i64 ((IntKind.wrap .i64 ((IntKind.wrap .i64 ((IntKind.wrap .i64 ((IntKind.wrap .i64 (k+1))+1))+1))+1))+1))+1))+1))+1))+1))+1))).2,Letter:=(zm ((zg ((x.Light).Group) (IntKind.wrap .i64 ((IntKind.wrap .i64 ((IntKind.wrap .i64 ((IntKind.wrap .i64 ((IntKind.wrap .i64 ((IntKind.wrap .i64 ((IntKind.wrap .i64 ((IntKind.wrap .i64 ((IntKind.wrap .i64 ((IntKind.wrap .i64 (k+1))+1))+1))+1))+1))+1))+1))+1))+1))+1))).1)),Colors:=(zm (IntKind.wrap .i64 (((zg ((x.Light).Group) (IntKind.wrap .i64 ((IntKind.wrap .i64 ((IntKind.wrap .i64 ((IntKind.wrap .i64 ((IntKind.wrap .i64 ((IntKind.wrap .i64 ((IntKind.wrap .i64 ((IntKind.wrap .i64 ((IntKind.wrap .i64 ((IntKind.wrap .i64 (k+1))+1))+1))+1))+1))+1))+1))+1))+1))+1))).1)+1))),Period:=IntKind.wrap .i64 ((IntKind.wrap .i64 (((zg ((x.Light).Group) (IntKind.wrap .i64 ((IntKind.wrap .i64 ((IntKind.wrap .i64 ((IntKind.wrap .i64 ((IntKind.wrap .i64 ((IntKind.wrap .i64 ((IntKind.wrap .i64 ((IntKind.wrap .i64 ((IntKind.wrap .i64 ((IntKind.wrap .i64 (k+1))+1))+1))+1))+1))+1))+1))+1))+1))+1))).1)+1))+1):Character },Sectors:=(zy (x.Sectors) (IntKind.wrap .i64 ((IntKind.wrap .i64 ((IntKind.wrap .i64 (((zg ((x.Light).Group) (IntKind.wrap .i64 ((IntKind.wrap .i64 ((IntKind.wrap .i64 ((IntKind.wrap .i64 ((IntKind.wrap .i64 ((IntKind.wrap .i64 ((IntKind.wrap .i64 ((IntKind.wrap .i64 ((IntKind.wrap .i64 ((IntKind.wrap .i64 (k+1))+1))+1))+1))+1))+1))+1))+1))+1))+1))).1)+1))+1))+1))).2,Intensity:=((zy (x.Sectors) (IntKind.wrap .i64 ((IntKind.wrap .i64 ((IntKind.wrap .i64 (((zg ((x.Light).Group) (IntKind.wrap .i64 ((IntKind.wrap .i64 ((IntKind.wrap .i64 ((IntKind.wrap .i64 ((IntKind.wrap .i64 ((IntKind.wrap .i64 ((IntKind.wrap .i64 ((IntKind.wrap .i64 ((IntKind.wrap .i64 ((IntKind.wrap .i64 (k+1))+1))+1))+1))+1))+1))+1))+1))+1))+1))).1)+1))+1))+1))).1):Aid })
theorem yau (a:List Aid) (k:Int):zzc a k=yuf yyf a k:=by
 unfold zzc
 have:=y9g yyf (yjj a k) (fun i s=>rfl) a [] k
 simp only[List.length_nil,List.nil_append,Nat.sub_zero]at this ⊢
 rw[this]
def aidB (x:Aid):Prop:=x.Light.Group.length≤1048576∧x.Sectors.length≤1048576
theorem yfv (x:Aid) (k:Int) (hx:aidB x) (h0:0≤k) (h1:k≤281474976710656):(yyf x k).1=k+14+x.Light.Group.length+3 * x.Sectors.length:=by
 obtain⟨b1,b2⟩:=hx
 unfold yyf
 simp(disch:=omega) only[wr1]
 have g1:k+1+1+1+1+1+1+1+1+1+1=k+10:=by omega
 rw[g1,zg_k _ _ (by omega) (by omega) (by omega)]
 simp(disch:=omega) only[wr1]
 rw[yil _ _ (by omega) (by omega) (by omega)]
 simp(disch:=omega) only[wr1]
 omega
theorem yvp (x:Aid) (k:Int) (hx:aidB x) (h0:0≤k) (h1:k≤281474976710656):k≤(yyf x k).1∧(yyf x k).1≤k+4194400:=by
 rw[yfv x k hx h0 h1]
 obtain⟨b1,b2⟩:=hx
 omega
theorem yto (a:List Aid) (k:Int) (ha:∀ x∈a,aidB x) (hl:a.length≤1048576) (h0:0≤k) (h1:k≤140737488355328):k≤(zzc a k).1∧(zzc a k).1≤k+4194400 * a.length:=by
 rw[yau]
 exact y8r yyf aidB 4194400 281474976710656 (by omega) yvp a k ha h0 (by omega)
end Go.Ab

namespace Go.Ab
open Go Go.Proofs
def aidP (v:Aid):Prop:=aidL v∧aidB v
theorem yhx {v:Aid} (h:bwAid v) (h2:yfp v):aidP v:=⟨⟨h.2.2.1.2.2,by have:=h2.2.2.2.1;omega⟩,⟨h2.2.2.1.1,h2.2.2.2.1⟩⟩
end Go.Ab
