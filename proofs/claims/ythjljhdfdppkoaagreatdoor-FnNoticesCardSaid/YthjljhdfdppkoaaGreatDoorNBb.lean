/- A part of a proof: walks of functions and lemmas of our own. No conditions. -/
import Derived.Test.YthjljhdfdppkoaaGreatDoorNAl
import Derived.Test.YthjljhdfdppkoaaGreatDoorNAt
import Derived.Test.YthjljhdfdppkoaaGreatDoorNAr
import Derived.Test.YthjljhdfdppkoaaGreatDoorNAq
import Derived.Test.YthjljhdfdppkoaaGreatDoorNAy
import Derived.Test.YthjljhdfdppkoaaGreatDoorNAv
import Derived.Test.YthjljhdfdppkoaaGreatDoorNAu
import Derived.Test.YthjljhdfdppkoaaGreatDoorNBa
import Derived.Test.YthjljhdfdppkoaaGreatDoorNAs
import Derived.Test.YthjljhdfdppkoaaGreatDoorNAz
import Derived.Test.YthjljhdfdppkoaaGreatDoorNAx
import Derived.Test.YthjljhdfdppkoaaGreatDoorNAn
import Derived.Test.YthjljhdfdppkoaaGreatDoorNAo
import Derived.Test.YthjljhdfdppkoaaGreatDoorNAp
import Derived.Test.YthjljhdfdppkoaaGreatDoorNAm
import Derived.Test.YthjljhdfdppkoaaGreatDoorNAi
set_option linter.unusedSectionVars false
set_option linter.unusedVariables false
set_option linter.unusedSimpArgs false
set_option maxHeartbeats 1000000
namespace Go.Ab
open Go Go.Proofs
def zge (a0:Notice):Bool:=
 (bif (((!(zgd a0.Number)) || (!(zrb a0.Day))) || (!(ze a0.Kind 1 4)))then false else(bif (zpc a0)then((zfc a0.Aid) && (a0.Target == 0))else((zmg a0.Aid ({ Number:=0,Name:=[],At:={ X:=0,Y:=0:Point },Height:=0,Mark:={ Kind:=0,Colors:=[],Shape:=[],Topmark:=[]:Mark },Light:={ Kind:=0,Group:=[],Letter:=[],Colors:=[],Period:=0:Character },Sectors:=[],Intensity:=0:Aid })) && (zgd a0.Target))))
namespace N29
theorem DD:DOk Tryz.prog (Go.Ab.DD [(27,dP D_zpc),(39,dP D_zgd),(42,dP D_zrb),(63,dP D_ze),(64,dP D_zfc),(65,dP D_zmg)]):=ya y7p.e <| ya y5o.e <| ya yth.e <| ya yfc.e <| ya y1h.e <| ya yi3.e <| yf _
abbrev dn:=cj @D_zpc.eq_1 <| cj @D_zgd.eq_1 <| cj @D_zrb.eq_1 <| cj @D_ze.eq_1 <| cj @D_zfc.eq_1 <| @D_zmg.eq_1
abbrev ol:=@ze.eq_1
theorem den (a0:Notice) (hb0:bdNotice a0):Den Tryz.prog 29 [.agg (ye a0)] (.bool (zge a0)):=by
 generalize hR:zge a0=r;unfold zge at hR;refine di Tryz.func29 Tryz.ntmps29 Tryz.results29 ?_;intro c hL hc hk;obtain⟨hL0,_⟩:=hL;have hw0:bwNotice a0:=yi a0 hL0;clear hL0;simp only[pars,Nat.zero_add];iterate 2 refine rS ?_
 refine AWP.cond rfl (fun hb => ?_) (fun hb => ?_)
 ·replace hR:=ct hR
  refine rS ?_;refine AWP.ret ?_;subst hR;exact es
 ·replace hR:=cf hR
  refine rS ?_;refine AWP.cond rfl (fun hb => ?_) (fun hb => ?_)
  ·replace hR:=ct hR
   refine rS ?_;refine AWP.ret ?_;subst hR;exact es
  ·replace hR:=cf hR
   refine rS ?_;refine AWP.ret ?_;subst hR;exact es
end N29
def D_zge : DF
 | [x0]=>some (.bool (zge (rdG yc x0)),false,[wG ye yc x0,bdNotice (rdG yc x0)])
 | _=>none
theorem yzo:OkD Tryz.prog 29 D_zge:=by unfold D_zge;exact dk N29.den
def y0k (a0:(List Notice)) (i1:Nat) (s1:Unit):Except (Bool) (Unit):=
 (bif (((!(zge (a0.getD i1 default))) || (decide (0<(i1:Int)) && (decide (((a0.getD i1 default).Number)<=((a0.getD ((IntKind.wrap .i64 ((i1:Int)-1)).toNat) default).Number)) || decide (((a0.getD i1 default).Day)<((a0.getD ((IntKind.wrap .i64 ((i1:Int)-1)).toNat) default).Day))))) || ((((a0.getD i1 default).Kind) == 4) && (!(zrf (a0.getD i1 default) (subL a0 0 (i1))))))then .error false else .ok ())
def ztb (a0:(List Notice)):Bool:=
 (match yh (y0k a0) (a0.length-0) 0 ()with|.error e=>e|.ok s1=>(zlb (a0.length:Int) 32))
namespace N35
theorem DD:DOk Tryz.prog (Go.Ab.DD [(29,dP D_zge),(36,dP D_zrf),(78,dP D_zlb)]):=ya yzo.e <| ya yiv.e <| ya ymg.e <| yf _
abbrev dn:=cj @D_zge.eq_1 <| cj @D_zrf.eq_1 <| @D_zlb.eq_1
theorem den (a0:(List Notice)) (hb0:a0.length<1099511627776) (hb1:∀ v∈a0,bdNotice v):Den Tryz.prog 35 [encL 20 ye a0] (.bool (ztb a0)):=by
 generalize hR:ztb a0=r;unfold ztb at hR;refine di Tryz.func35 Tryz.ntmps35 Tryz.results35 ?_;intro c hL hc hk;obtain⟨hL0,_⟩:=hL;have hw0:a0.length<9223372036854775808:=Nat.lt_succ_of_le (yb hL0).1;have hw1:∀ v∈a0,bwNotice v:=fun v hv=>yi v ((yb hL0).2 v hv)
 clear hL0;simp only[pars,Nat.zero_add];iterate 2 refine rS ?_
 refine AWP.block ?_;generalize hz1:yh (y0k a0) (a0.length-0) 0 ()=z1 at hR;refine AWP.range (y0k a0) (fun i1 s1=>⟨[(0,encL 20 ye a0),(5,encL 20 ye a0),(6,.int .i64 (a0.length:Int)),(7,.int .i64 (i1:Int))],[]⟩) (fun i1 s1=>True) (a0.length) 0 () [] hz1 ot wt sm ?_;clear hz1;intro i1 s1 hi1 hW1 hz1;refine rS ?_;refine AWP.seq ?_;refine AWP.cond rfl (fun hb => ?_) (fun hb => ?_)
 ·have hlt1:i1<a0.length:=ot
  rw[yl hlt1]at hz1;simp only[y0k]at hz1;refine rS ?_;refine rD 42 ?_;refine AWP.cond rfl (fun hb => ?_) (fun hb => ?_)
  ·simp only[hb,cond_true]at hz1
   refine rS ?_;refine AWP.ret ?_;subst hz1;dsimp only at hR;subst hR;exact es
  ·simp only[hb,cond_false]at hz1
   refine rS ?_;exact⟨_,[],hlt1,wt,hz1,sm⟩
 ·obtain rfl:i1=a0.length:=ot
  rw[yk (Nat.le_refl _)]at hz1;subst hz1;dsimp only at hR;refine AWP.exit ?_;refine yd ?_;refine rS ?_;refine AWP.ret ?_;subst hR;exact es
end N35
def D_ztb : DF
 | [x0]=>some (.bool (ztb (rdL yc x0)),false,[wL 20 ye yc x0,(rdL yc x0).length<1099511627776,∀ v∈(rdL yc x0),bdNotice v])
 | _=>none
theorem yek:OkD Tryz.prog 35 D_ztb:=by unfold D_ztb;exact dk N35.den
def zib (a0:Notice):Bool:=
 (bif ((!(zg a0.Number 1 9999)) || (!(zuf a0.Day)))then false else(bif (a0.Kind == 1)then((zpb a0.Aid) && (a0.Target == 0))else(bif (a0.Kind == 2)then((zpb a0.Aid) && (a0.Target == 0))else(bif (a0.Kind == 3)then((zqd a0.Aid ({ Number:=0,Name:=[],At:={ X:=0,Y:=0:Point },Height:=0,Mark:={ Kind:=0,Colors:=[],Shape:=[],Topmark:=[]:Mark },Light:={ Kind:=0,Group:=[],Letter:=[],Colors:=[],Period:=0:Character },Sectors:=[],Intensity:=0:Aid })) && (zg a0.Target 1 9999))else(bif (a0.Kind == 4)then((zqd a0.Aid ({ Number:=0,Name:=[],At:={ X:=0,Y:=0:Point },Height:=0,Mark:={ Kind:=0,Colors:=[],Shape:=[],Topmark:=[]:Mark },Light:={ Kind:=0,Group:=[],Letter:=[],Colors:=[],Period:=0:Character },Sectors:=[],Intensity:=0:Aid })) && (zg a0.Target 1 9999))else false)))))
namespace N22
theorem DD:DOk Tryz.prog (Go.Ab.DD [(44,dP D_zqd),(49,dP D_zg),(50,dP D_zuf),(51,dP D_zpb)]):=ya ynp.e <| ya y5e.e <| ya yb5.e <| ya y26.e <| yf _
abbrev dn:=cj @D_zqd.eq_1 <| cj @D_zg.eq_1 <| cj @D_zuf.eq_1 <| @D_zpb.eq_1
abbrev ol:=@zg.eq_1
theorem den (a0:Notice) (hb0:bdNotice a0):Den Tryz.prog 22 [.ep (ye a0)] (.bool (zib a0)):=by
 generalize hR:zib a0=r;unfold zib at hR;refine di Tryz.func22 Tryz.ntmps22 Tryz.results22 ?_;intro c hL hc hk;obtain⟨hL0,_⟩:=hL;have hw0:bwNotice a0:=yi a0 hL0;clear hL0;simp only[pars,Nat.zero_add];iterate 2 refine rS ?_
 refine AWP.cond rfl (fun hb => ?_) (fun hb => ?_)
 ·replace hR:=ct hR
  refine rS ?_;refine AWP.ret ?_;subst hR;exact es
 ·replace hR:=cf hR
  iterate 3 refine rS ?_
  refine AWP.cond rfl (fun hb => ?_) (fun hb => ?_)
  ·replace hR:=ct hR
   refine AWP.skip ?_;refine AWP.cond rfl (fun hb => ?_) (fun hb => ?_)
   ·refine rS ?_
    refine AWP.ret ?_;subst hR;exact es
   ·exfalso;simp_all
  ·replace hR:=cf hR
   refine rS ?_;refine AWP.cond rfl (fun hb => ?_) (fun hb => ?_)
   ·replace hR:=ct hR
    refine rS ?_;refine AWP.ret ?_;subst hR;exact es
   ·replace hR:=cf hR
    refine rS ?_;refine AWP.cond rfl (fun hb => ?_) (fun hb => ?_)
    ·replace hR:=ct hR
     refine AWP.skip ?_;refine AWP.cond rfl (fun hb => ?_) (fun hb => ?_)
     ·refine rS ?_
      refine AWP.ret ?_;subst hR;exact es
     ·exfalso;simp_all
    ·replace hR:=cf hR
     refine rS ?_;refine AWP.cond rfl (fun hb => ?_) (fun hb => ?_)
     ·replace hR:=ct hR
      refine rS ?_;refine AWP.ret ?_;subst hR;exact es
     ·replace hR:=cf hR
      refine rS ?_;refine AWP.ret ?_;subst hR;exact es
end N22
def D_zib : DF
 | [x0]=>some (.bool (zib (rdP yc x0)),false,[wP ye yc x0,bdNotice (rdP yc x0)])
 | _=>none
theorem yeo:OkD Tryz.prog 22 D_zib:=by unfold D_zib;exact dk N22.den
def y6g (a0:(List Notice)) (i1:Nat) (s1:Unit):Except (Bool) (Unit):=
 (bif (((!(zib (a0.getD i1 default))) || (decide (0<(i1:Int)) && (decide (((a0.getD i1 default).Number)<=((a0.getD ((IntKind.wrap .i64 ((i1:Int)-1)).toNat) default).Number)) || decide (((a0.getD i1 default).Day)<((a0.getD ((IntKind.wrap .i64 ((i1:Int)-1)).toNat) default).Day))))) || (!(zsb (subL a0 0 (i1)) (a0.getD i1 default))))then .error false else .ok ())
def zkb (a0:(List Notice)):Bool:=
 (match yh (y6g a0) (a0.length-0) 0 ()with|.error e=>e|.ok s1=>decide ((a0.length:Int)<=32))
namespace N101
theorem DD:DOk Tryz.prog (Go.Ab.DD [(102,dP D_zsb),(22,dP D_zib)]):=ya yyw.e <| ya yeo.e <| yf _
abbrev dn:=cj @D_zsb.eq_1 <| @D_zib.eq_1
theorem den (a0:(List Notice)) (hb0:a0.length<1099511627776) (hb1:∀ v∈a0,bdNotice v):Den Tryz.prog 101 [encL 20 ye a0] (.bool (zkb a0)):=by
 generalize hR:zkb a0=r;unfold zkb at hR;refine di Tryz.func101 Tryz.ntmps101 Tryz.results101 ?_;intro c hL hc hk;obtain⟨hL0,_⟩:=hL;have hw0:a0.length<9223372036854775808:=Nat.lt_succ_of_le (yb hL0).1;have hw1:∀ v∈a0,bwNotice v:=fun v hv=>yi v ((yb hL0).2 v hv)
 clear hL0;simp only[pars,Nat.zero_add];iterate 2 refine rS ?_
 refine AWP.block ?_;generalize hz1:yh (y6g a0) (a0.length-0) 0 ()=z1 at hR;refine AWP.range (y6g a0) (fun i1 s1=>⟨[(0,encL 20 ye a0),(3,.int .i64 (i1:Int))],[]⟩) (fun i1 s1=>True) (a0.length) 0 () [] hz1 ot wt sm ?_;clear hz1;intro i1 s1 hi1 hW1 hz1;refine rS ?_;refine AWP.cond rfl (fun hb => ?_) (fun hb => ?_)
 ·have hlt1:i1<a0.length:=ot
  rw[yl hlt1]at hz1;simp only[y6g]at hz1;refine rS ?_;refine rD 41 ?_;refine AWP.cond rfl (fun hb => ?_) (fun hb => ?_)
  ·simp only[hb,cond_true]at hz1
   refine rS ?_;refine AWP.ret ?_;subst hz1;dsimp only at hR;subst hR;exact es
  ·simp only[hb,cond_false]at hz1
   refine rS ?_;exact⟨_,[],hlt1,wt,hz1,sm⟩
 ·obtain rfl:i1=a0.length:=ot
  rw[yk (Nat.le_refl _)]at hz1;subst hz1;dsimp only at hR;refine AWP.exit ?_;refine yd ?_;refine rS ?_;refine AWP.ret ?_;subst hR;exact es
end N101
def D_zkb : DF
 | [x0]=>some (.bool (zkb (rdL yc x0)),false,[wL 20 ye yc x0,(rdL yc x0).length<1099511627776,∀ v∈(rdL yc x0),bdNotice v])
 | _=>none
theorem yk3:OkD Tryz.prog 101 D_zkb:=by unfold D_zkb;exact dk N101.den
theorem y0c (n:Notice) (h:aidL n.Aid):zge n=zib n:=by
 unfold zge zib zpc;rw[y0d _ h.1 h.2];simp only[ylj];have e1:zgd n.Number=zg n.Number 1 9999:=rfl;have e2:zgd n.Target=zg n.Target 1 9999:=rfl;have e3:zrb n.Day=zuf n.Day:=rfl
 have e4:ze n.Kind 1 4=((((n.Kind == 1) || (n.Kind == 2)) || (n.Kind == 3)) || (n.Kind == 4)):=by
  unfold ze;apply Bool.eq_iff_iff.2;simp only[Bool.and_eq_true,Bool.or_eq_true,decide_eq_true_eq,beq_iff_eq];omega
 rw[e1,e2,e3,e4];cases zg n.Number 1 9999<;>cases zuf n.Day<;>cases(n.Kind == 1)<;>cases(n.Kind == 2)<;>cases(n.Kind == 3)<;>cases(n.Kind == 4)<;>rfl
theorem yoc (l:List Notice) (t d:Int):zlc l t d=l.any (fun m=>((m.Kind == 4) && (m.Target == t)) && decide (m.Day<=d)):=by
 unfold zlc;rw[yid (b:=ybs l t d) (fun j=>(((l.getD j default).Kind == 4) && ((l.getD j default).Target == t)) && decide ((l.getD j default).Day<=d)) true (fun j u _ _=>rfl)];simp only[Nat.sub_zero,Nat.zero_add];rw[yoe (fun m:Notice=>((m.Kind == 4) && (m.Target == t)) && decide (m.Day<=d)) l];cases l.any (fun m=>((m.Kind == 4) && (m.Target == t)) && decide (m.Day<=d))<;>rfl
theorem yyo (l:List Notice) (n:Notice):zfg l n=l.any (fun m=>(m.Kind == 4) && (m.Target == n.Target)):=by
 unfold zfg zoe;have ha:=yoe (fun m:Notice=>(m.Kind == 4) && (m.Target == n.Target)) l;rcases yvb (b:=ybt l n) (fun j=>((l.getD j default).Kind == 4) && ((l.getD j default).Target == n.Target)) (fun j=>(j:Int)) (k:=l.length-0) (i:=0) (s:=()) (fun j u _ _=>rfl)with⟨j,_,h2,h3,h4,h5⟩|⟨h1,h2⟩
 ·rw[h5]
  rw[<- ha,List.any_eq_true.2 ⟨j,by simpa using h2,h3⟩];simp
 ·rw[h2, <- ha]
  have:(List.range l.length).any (fun i=>(((l.getD i default).Kind == 4) && ((l.getD i default).Target == n.Target)))=false:=by
   rw[List.any_eq_false];intro i hi;rw[h1 i (Nat.zero_le _) (by simpa using hi)];simp
  rw[this];rfl
theorem ycs (l:List Notice) (n:Notice) (d:Int):zzf l n d=zlc l n.Number d:=by
 rw[yoc];unfold zzf zpe;have ha:=yoe (fun m:Notice=>((m.Kind == 4) && (m.Target == n.Number)) && decide (m.Day<=d)) l;rcases yvb (b:=y2s l n d) (fun j=>(((l.getD j default).Kind == 4) && ((l.getD j default).Target == n.Number)) && decide ((l.getD j default).Day<=d)) (fun j=>(j:Int)) (k:=l.length-0) (i:=0) (s:=()) (fun j u _ _=>rfl)with⟨j,_,h2,h3,h4,h5⟩|⟨h1,h2⟩
 ·rw[h5]
  rw[<- ha,List.any_eq_true.2 ⟨j,by simpa using h2,h3⟩];simp
 ·rw[h2, <- ha]
  have:(List.range l.length).any (fun i=>((((l.getD i default).Kind == 4) && ((l.getD i default).Target == n.Number)) && decide ((l.getD i default).Day<=d)))=false:=by
   rw[List.any_eq_false];intro i hi;rw[h1 i (Nat.zero_le _) (by simpa using hi)];simp
  rw[this];rfl
theorem y1s (l:List Notice) (n:Notice) (hd:∀ m∈l,m.Day<=99999):((n.Kind == 4) && (!(zrf n l))) = !(zsb l n):=by
 unfold zsb
 cases hk:(n.Kind == 4)with
 | false=>
  have:(n.Kind != 4)=true:=by simp only[bne,hk];rfl
  rw[this];rfl
 | true=>
  have:(n.Kind != 4)=false:=by simp only[bne,hk];rfl
  rw[this,cond_false,Bool.true_and];congr 1
  unfold zrf;rw[yyo]
  have hc:l.any (fun m=>(m.Kind == 4) && (m.Target == n.Target))=zlc l n.Target 99999:=by
   rw[yoc];apply Bool.eq_iff_iff.2;rw[List.any_eq_true,List.any_eq_true];constructor
   ·rintro⟨x,hx,h⟩;exact⟨x,hx,by rw[h];simpa using hd x hx⟩
   ·rintro⟨x,hx,h⟩;exact⟨x,hx,by rw[Bool.and_eq_true]at h;exact h.1⟩
  rw[hc];rcases yls l n with⟨j,h1,h2,h3,h4⟩|⟨h1,h2⟩
  ·rw[h4]
   rcases yvb (b:=yuj l n) (fun j=>(l.getD j default).Number == n.Target) (fun j=>((((l.getD j default).Kind) != 4) && (!(zlc l n.Target 99999)))) (k:=l.length-0) (i:=0) (s:=()) (fun j u _ _=>rfl)with⟨q,_,g2,g3,g4,g5⟩|⟨g1,_⟩
   ·have:q=j:=by
     rcases Nat.lt_trichotomy q j with h|h|h
     ·have:=h3 q h
      unfold zkf at this;rw[this]at g3;cases g3
     ·exact h
     ·have:=g4 j (Nat.zero_le _) h
      unfold zkf at h2;rw[this]at h2;cases h2
    subst this;rw[g5,decide_eq_false (by omega),Bool.false_or,Int.toNat_natCast];simp only[bne];cases((l.getD q default).Kind == 4)<;>rfl
   ·have:=g1 j (Nat.zero_le _) (by omega)
    unfold zkf at h2;rw[this]at h2;cases h2
  ·rw[h2]
   rcases yvb (b:=yuj l n) (fun j=>(l.getD j default).Number == n.Target) (fun j=>((((l.getD j default).Kind) != 4) && (!(zlc l n.Target 99999)))) (k:=l.length-0) (i:=0) (s:=()) (fun j u _ _=>rfl)with⟨q,_,g2,g3,g4,g5⟩|⟨_,g2⟩
   ·have:=h1 q (by omega)
    unfold zkf at this;rw[this]at g3;cases g3
   ·rw[g2];rfl
theorem ybx {α:Type} [Inhabited α] {l:List α} {j:Nat} (hj:j<l.length):l.getD j default∈l:=by
 rw[List.getD_eq_getElem?_getD,List.getElem?_eq_getElem hj];exact List.getElem_mem hj
theorem yns:aidL (default:Notice).Aid:=⟨by decide,by decide⟩
theorem yio {n:Notice} (h:zib n=true):n.Day<=99999:=by
 unfold zib at h
 cases hd:zuf n.Day with
 | false=>rw[hd]at h;simp at h
 | true=>
  unfold zuf zg at hd;simp only[Bool.and_eq_true,decide_eq_true_eq]at hd;exact hd.2
theorem yqd (l:List Notice) (h:∀ n∈l,aidL n.Aid):ztb l=zkb l:=by
 unfold ztb zkb
 rw[ylm (b:=y0k l) (b':=y6g l) (fun j=>(l.getD j default).Day<=99999) (fun j hj=>by
  simp only[y6g]at hj
  cases hc:zib (l.getD j default)with
  | true=>exact yio hc
  | false=>rw[hc]at hj;simp at hj) (l.length-0) 0 (fun q hq=>absurd hq (Nat.not_lt_zero _)) (fun j _ hj hp=>by
   simp only[y0k,y6g];have hb:aidL (l.getD j default).Aid:=ykf (p:=fun n:Notice=>aidL n.Aid) h yns j
   rw[y0c _ hb,y1s (subL l 0 j) (l.getD j default) (fun m hm=>by
    rw[y2e l _ (by omega)]at hm;obtain⟨q,hq,rfl⟩:=List.getElem_of_mem hm;simp only[List.length_take]at hq;have:=hp q (by omega);rw[List.getD_eq_getElem?_getD,List.getElem?_eq_getElem (show q<l.length by omega)]at this;simp only[List.getElem_take]
    exact this)])]
 rfl
def inF (l:List Notice) (d:Int) (n:Notice):Bool:=((n.Kind != 4) && decide (n.Day<=d)) && !(zlc l n.Number d)
theorem y2n (l:List Notice) (d:Int):zq l d=l.filter (inF l d):=by
 unfold zq;rw[yrj l (ybr l d) (inF l d) (fun x=>x) (fun i s hi=>by simp only[ybr,ycs];rfl)];simp
theorem y1t {l:List Notice} (h:zkb l=true):(∀ n∈l,zib n=true)/\l.length<=32:=by
 unfold zkb at h;have h:=(yah (b:=y6g l) (fun i1=>(((!(zib (l.getD i1 default))) || (decide (0<(i1:Int)) && (decide (((l.getD i1 default).Number)<=((l.getD ((IntKind.wrap .i64 ((i1:Int)-1)).toNat) default).Number)) || decide (((l.getD i1 default).Day)<((l.getD ((IntKind.wrap .i64 ((i1:Int)-1)).toNat) default).Day))))) || (!(zsb (subL l 0 (i1)) (l.getD i1 default))))) l.length _ (fun j u _=>rfl)).1 h;refine⟨fun n hn => ?_,by have:=of_decide_eq_true h.2;omega⟩;obtain⟨j,hj,rfl⟩:=List.getElem_of_mem hn;have:=h.1 j hj;rw[Bool.or_eq_false_iff,Bool.or_eq_false_iff]at this;have h3:=this.1.1;rw[List.getD_eq_getElem?_getD,List.getElem?_eq_getElem hj]at h3;simpa using h3
theorem ylo {n:Notice} (h:zib n=true):1<=n.Number/\n.Number<=9999/\0<=n.Day/\n.Day<=99999 /\
  (((n.Kind=1\/n.Kind=2)/\zpb n.Aid=true/\n.Target=0)\/((n.Kind=3\/n.Kind=4)/\zqd n.Aid default=true/\1<=n.Target/\n.Target<=9999)):=by
 unfold zib at h
 cases hc:((!(zg n.Number 1 9999)) || (!(zuf n.Day)))with
 | true=>rw[hc]at h;cases h
 | false=>
  rw[hc,cond_false]at h;simp only[Bool.or_eq_false_iff,Bool.not_eq_false',zuf,zg,Bool.and_eq_true,decide_eq_true_eq]at hc;refine⟨hc.1.1,hc.1.2,hc.2.1,hc.2.2,?_⟩;have e:({ Number:=0,Name:=[],At:={ X:=0,Y:=0:Point },Height:=0,Mark:={ Kind:=0,Colors:=[],Shape:=[],Topmark:=[]:Mark },Light:={ Kind:=0,Group:=[],Letter:=[],Colors:=[],Period:=0:Character },Sectors:=[],Intensity:=0:Aid })=default:=rfl;rw[e]at h;by_cases h1:n.Kind=1
  ·rw[show(n.Kind == 1)=true by simp[h1],cond_true,Bool.and_eq_true,beq_iff_eq]at h
   exact .inl ⟨.inl h1,h.1,h.2⟩
  rw[show(n.Kind == 1)=false by simp[h1],cond_false]at h;by_cases h2:n.Kind=2
  ·rw[show(n.Kind == 2)=true by simp[h2],cond_true,Bool.and_eq_true,beq_iff_eq]at h
   exact .inl ⟨.inr h2,h.1,h.2⟩
  rw[show(n.Kind == 2)=false by simp[h2],cond_false]at h;by_cases h3:n.Kind=3
  ·rw[show(n.Kind == 3)=true by simp[h3],cond_true,Bool.and_eq_true]at h
   simp only[zg,Bool.and_eq_true,decide_eq_true_eq]at h;exact .inr ⟨.inl h3,h.1,h.2⟩
  rw[show(n.Kind == 3)=false by simp[h3],cond_false]at h;by_cases h4:n.Kind=4
  ·rw[show(n.Kind == 4)=true by simp[h4],cond_true,Bool.and_eq_true]at h
   simp only[zg,Bool.and_eq_true,decide_eq_true_eq]at h;exact .inr ⟨.inr h4,h.1,h.2⟩
  rw[show(n.Kind == 4)=false by simp[h4],cond_false]at h;cases h
theorem y8q (k:Int):(zcc k).length<=100:=yvv _ _ (by decide)
theorem ys2 {n:Notice} (hb:bdNotice n) (h:(!zge n)=false):zib n=true:=by
 rw[<- y0c n ⟨Nat.lt_of_lt_of_le hb.2.2.1.2.2 (by decide),Nat.lt_of_lt_of_le hb.2.2.2.1 (by decide)⟩];simpa using h
theorem yw8 {c:Character} (h:zyc c=true):c=zChr:=by
 obtain⟨K,G,L,C,P⟩:=c;unfold zyc at h;simp only[Bool.and_eq_true,beq_iff_eq]at h;obtain⟨⟨⟨⟨h1,h2⟩,h3⟩,h4⟩,h5⟩:=h;have hG:G=[]:=List.length_eq_zero_iff.1 (by omega);subst h1 hG h3 h4 h5;rfl
theorem yw9 {a:Aid} (h:zpb a=true) (hl:zpg a=false):a.Light=zChr:=by
 have hk:a.Light.Kind=0:=by
  unfold zpg at hl;simpa using hl
 unfold zpb at h
 cases hc:(((((!(zg a.Number 1 9999)) || (!(zjc a.Name))) || (!(zpd a.At))) || (!(zg a.Height 0 3000))) || (!(zjd a.Mark)))with
 | true=>rw[hc]at h;cases h
 | false=>
  rw[hc,cond_false]at h
  cases hp:zyc a.Light with
  | true=>exact yw8 hp
  | false=>
   rw[hp,cond_false]at h
   cases hd:(((!(zmc a.Light)) || (!(zg a.Intensity 1 100000000))) || (!(zv a.Sectors)))with
   | true=>rw[hd]at h;cases h
   | false=>
    simp only[Bool.or_eq_false_iff,Bool.not_eq_false']at hd;have g1:=hd.1.1;unfold zmc zee zxg zg at g1;rw[hk]at g1;cases g1
def T8 (a:Aid) (w:List UInt8):List UInt8:=zh a.Number++47::(a.Name++47::(ptT a.At++47::(zh a.Height++47::(zrc a.Mark++47::(w++47::(scsT a.Sectors++47::zh a.Intensity))))))
theorem y3bb (a b c d e f g h:List UInt8) (s:List UInt8):Lib.join [a,b,c,d,e,f,g,h] s=a++(s++(b++(s++(c++(s++(d++(s++(e++(s++(f++(s++(g++(s++h))))))))))))):=by
 simp[Lib.join_cons,Lib.joinTail]
theorem yg1 {a:Aid} (h:zpb a=true) (hl:a.Light.Colors.length<9223372036854775808):zbd a=T8 a (bif zpg a then chrT a.Light else[45]):=by
 obtain⟨n1,n2,nm,at1,h1,h2,mk,lt,sx,i1,i2⟩:=yke h;have hsl:=(ycg sx).1
 have e:∀ a b c d e f g h:List UInt8,zub [a,b,c,d,e,f,g,h] [47]=a++47::(b++47::(c++47::(d++47::(e++47::(f++47::(g++47::h)))))):=fun a b c d e f g h=>by
  show Lib.join [a,b,c,d,e,f,g,h] [47]=_;rw[y3bb];simp
 unfold zbd T8;rw[y0d a hl (by omega),h,yo8 h hl,(pt_I at1).1,ycu sx,e,e]
 cases ht:zpg a with
 | true=>
  rw[yzl a.Light (y0q h hl ht)];rfl
 | false=>rfl
theorem y1z {a:Aid} (h:zpb a=true) (hl:a.Light.Colors.length<9223372036854775808):(zbd a).length<=300:=by
 obtain⟨n1,n2,nm,at1,h1,h2,mk,lt,sx,i1,i2⟩:=yke h;have k1:=yae a.Number 3 (by omega) (by show _<(10000:Int);omega);have k2:=yhp nm;have k3:=(pt_I at1).2.1;have k4:=yae a.Height 3 (by omega) (by show _<(10000:Int);omega);have k5:=(yxq mk).2.2;have k6:=yf8 sx;have k7:=yae a.Intensity 8 (by omega) (by show _<(1000000000:Int);omega)
 have k8:(bif zpg a then chrT a.Light else[45]).length<=40:=by
  cases ht:zpg a with
  | true=>exact yi8 (y0q h hl ht)
  | false=>show([45]:List UInt8).length<=40;decide
 rw[yg1 h hl];generalize (bif zpg a then chrT a.Light else[45])=w at k8;show(Lib.itoa a.Number++47::(a.Name++47::(ptT a.At++47::(Lib.itoa a.Height++47::(zrc a.Mark++47::(w++47::(scsT a.Sectors++47::Lib.itoa a.Intensity))))))).length<=300;simp only[List.length_append,List.length_cons];omega
theorem ywl (a:Aid) (hb:bdAid a):(zbd a).length<=300:=by
 have hl:a.Light.Colors.length<9223372036854775808:=Nat.lt_of_lt_of_le hb.2.2.1.2.2 (by decide);have hs:a.Sectors.length<9223372036854775807:=Nat.lt_of_lt_of_le hb.2.2.2.1 (by decide)
 cases h:zpb a with
 | true=>exact y1z h hl
 | false=>
  unfold zbd;rw[y0d a hl hs,h];simp
theorem ygx {a:Aid} (h:zpb a=true) {w:List UInt8} (hw:(47:UInt8)∉w):ybb 47 (T8 a w)=[zh a.Number,a.Name,ptT a.At,zh a.Height,zrc a.Mark,w,scsT a.Sectors,zh a.Intensity]:=by
 obtain⟨n1,n2,nm,at1,h1,h2,mk,lt,sx,i1,i2⟩:=yke h;unfold T8;rw[yjb 47 _ _ (ysj (by omega) 47 (by decide)),yjb 47 _ _ (yv4 nm),yjb 47 _ _ (pt_I at1).2.2.1,yjb 47 _ _ (ysj h1 47 (by decide)),yjb 47 _ _ (yxq mk).2.1,yjb 47 _ _ hw,yjb 47 _ _ (yt8 sx),yvd 47 _ (ysj i1 47 (by decide))]
theorem ywz:(zrd [45]).1=({ Kind:=0,Group:=[],Letter:=[],Colors:=[],Period:=0 }:Character):=by decide +kernel
theorem yps {a:Aid} (h:zpb a=true) (hl:a.Light.Colors.length<9223372036854775808):zhf (zbd a)=(a,true):=by
 obtain⟨n1,n2,nm,at1,h1,h2,mk,lt,sx,i1,i2⟩:=yke h;have ht:=yg1 h hl;have ea:({ Number:=a.Number,Name:=a.Name,At:=a.At,Height:=a.Height,Mark:=a.Mark,Light:=a.Light,Sectors:=a.Sectors,Intensity:=a.Intensity:Aid })=a:=rfl
 cases hlt:zpg a with
 | true=>
  have hv:=y0q h hl hlt;rw[hlt,cond_true]at ht;have hsp:=(show zd (zbd a) [47]=ybb 47 (T8 a (chrT a.Light))by rw[ydw,ht]).trans (ygx h (ygab _ hv hl))
  have hne:(chrT a.Light == [45])=false:=by
   rw[beq_eq_false_iff_ne];intro e;have:(32:UInt8)∈chrT a.Light:=by unfold chrT;simp
   rw[e]at this;exact absurd this (by decide)
  unfold zhf;rw[hsp];simp only[List.getD_cons_zero,List.getD_cons_succ];rw[ydk (n:=a.Number) (by omega) (by omega),ydk h1 (by omega),ydk i1 i2,(pt_I at1).2.2.2,(yxq mk).1,sx_I sx,hne,y01 _ hv hl];simp only[ea,bne_self_eq_false];rfl
 | false=>
  have hz:({ Kind:=0,Group:=[],Letter:=[],Colors:=[],Period:=0 }:Character)=a.Light:=(yw9 h hlt).symm;rw[hlt,cond_false]at ht;have hsp:=(show zd (zbd a) [47]=ybb 47 (T8 a [45])by rw[ydw,ht]).trans (ygx h (w:=[45]) (by decide));unfold zhf;rw[hsp];simp only[List.getD_cons_zero,List.getD_cons_succ];rw[ydk (n:=a.Number) (by omega) (by omega),ydk h1 (by omega),ydk i1 i2,(pt_I at1).2.2.2,(yxq mk).1,sx_I sx,ywz,hz];simp only[ea,bne_self_eq_false];rfl
def ztc (a0:Notice):(List UInt8):=
 (bif (!(zge a0))then[]else(bif (zpc a0)then(zub [(zh a0.Number),(zhb a0.Day),(zcc a0.Kind),(zbd a0.Aid)] [32])else(zub [(zh a0.Number),(zhb a0.Day),(zcc a0.Kind),(zh a0.Target)] [32])))
namespace N10
theorem DD:DOk Tryz.prog (Go.Ab.DD [(26,dP D_zcc),(27,dP D_zpc),(29,dP D_zge),(30,dP D_zh),(31,dP D_zbd),(32,dP D_zub),(33,dP D_zhb)]):=ya ykx.e <| ya y7p.e <| ya yzo.e <| ya yvf.e <| ya y0w.e <| ya yai.e <| ya yqw.e <| yf _
abbrev dn:=cj @D_zcc.eq_1 <| cj @D_zpc.eq_1 <| cj @D_zge.eq_1 <| cj @D_zh.eq_1 <| cj @D_zbd.eq_1 <| cj @D_zub.eq_1 <| @D_zhb.eq_1
theorem gr {p:Prop} (h:p:=by(grind [yrc,yno]);first|done|fail):p:=h
theorem o0 {p:Prop} (h:p:=by(first|(have h9:=hn9 (by assumption);(repeat' with_reducible apply And.intro)<;>(first|omega|assumption|(simp only[List.length_append,List.length_cons,List.length_nil,List.length_singleton];omega)|(refine Nat.le_trans (y3i _ _) ?_;simp only[jl,List.length_cons,List.length_nil];omega))));first|done|fail):p:=h
theorem lx {p:Prop} (h:p:=by(exact lxx);first|done|fail):p:=h
set_option maxHeartbeats 1000000 in
set_option maxRecDepth 20000 in
theorem den (a0:Notice) (hb0:bdNotice a0):Den Tryz.prog 10 [.agg (ye a0)] (.str (ztc a0)):=by
 generalize hR:ztc a0=r;unfold ztc at hR;refine di Tryz.func10 Tryz.ntmps10 Tryz.results10 ?_;intro c hL hc hk;obtain⟨hL0,_⟩:=hL;have hw0:bwNotice a0:=yi a0 hL0;clear hL0;simp only[pars,Nat.zero_add];have hn9:=fun h=>ylo (ys2 hb0 h)
 have l3:=y8q a0.Kind;have l4:=ywl a0.Aid hb0;have l5:=yno a0.Day;have l1:=yrc a0.Number;have l2:=yrc a0.Target;iterate 2 refine rS ?_
 refine AWP.cond rfl (fun hb => ?_) (fun hb => ?_)
 ·replace hR:=ct hR
  refine rS ?_;refine AWP.ret ?_;subst hR;exact es
 ·replace hR:=cf hR
  iterate 2 refine rS ?_
  refine AWP.cond rfl (fun hb => ?_) (fun hb => ?_)
  ·replace hR:=ct hR
   refine rS ?_;refine rD 10 ?_;refine AWP.ret ?_;subst hR;exact es
  ·replace hR:=cf hR
   refine rD 10 ?_;refine AWP.ret ?_;subst hR;exact es
end N10
def D_ztc : DF
 | [x0]=>some (.str (ztc (rdG yc x0)),false,[wG ye yc x0,bdNotice (rdG yc x0)])
 | _=>none
theorem yrx:OkD Tryz.prog 10 D_ztc:=by unfold D_ztc;exact dk N10.den
def yvi (a0:(List UInt8)) (s1:Int×Int):Except (Sum ((Notice×Bool)) (Int×Int)) (Int×Int):=
 (bif decide (s1.1<=4)then(bif ((zcc s1.1) == ((zx a0 [32] 4).getD 2 default))then .ok (IntKind.wrap .i64 (s1.1+1),s1.1)else .ok (IntKind.wrap .i64 (s1.1+1),s1.2))else .error (.inr (s1.1,s1.2)))
def zkd (a0:(List UInt8)):(Notice×Bool):=
 (bif (((zx a0 [32] 4).length:Int) != 4)then({ Number:=0,Day:=0,Kind:=0,Target:=0,Aid:={ Number:=0,Name:=[],At:={ X:=0,Y:=0:Point },Height:=0,Mark:={ Kind:=0,Colors:=[],Shape:=[],Topmark:=[]:Mark },Light:={ Kind:=0,Group:=[],Letter:=[],Colors:=[],Period:=0:Character },Sectors:=[],Intensity:=0:Aid }:Notice },false)else(match yeb (yvi a0) (((5-(1:Int)).toNat)+1) (1,0)with|.error (.inl e)=>e|.error (.inr s1)=>(bif (zpc ({ Number:=(zj ((zx a0 [32] 4).getD 0 default)).1,Day:=(zhd ((zx a0 [32] 4).getD 1 default)).1,Kind:=s1.2,Target:=0,Aid:={ Number:=0,Name:=[],At:={ X:=0,Y:=0:Point },Height:=0,Mark:={ Kind:=0,Colors:=[],Shape:=[],Topmark:=[]:Mark },Light:={ Kind:=0,Group:=[],Letter:=[],Colors:=[],Period:=0:Character },Sectors:=[],Intensity:=0:Aid }:Notice }))then(bif ((((!((zj ((zx a0 [32] 4).getD 0 default)).2)) || (!((zhd ((zx a0 [32] 4).getD 1 default)).2))) || (!((zhf ((zx a0 [32] 4).getD 3 default)).2))) || ((ztc ({ Number:=(zj ((zx a0 [32] 4).getD 0 default)).1,Day:=(zhd ((zx a0 [32] 4).getD 1 default)).1,Kind:=s1.2,Target:=0,Aid:=(zhf ((zx a0 [32] 4).getD 3 default)).1:Notice })) != a0))then({ Number:=0,Day:=0,Kind:=0,Target:=0,Aid:={ Number:=0,Name:=[],At:={ X:=0,Y:=0:Point },Height:=0,Mark:={ Kind:=0,Colors:=[],Shape:=[],Topmark:=[]:Mark },Light:={ Kind:=0,Group:=[],Letter:=[],Colors:=[],Period:=0:Character },Sectors:=[],Intensity:=0:Aid }:Notice },false)else({ Number:=(zj ((zx a0 [32] 4).getD 0 default)).1,Day:=(zhd ((zx a0 [32] 4).getD 1 default)).1,Kind:=s1.2,Target:=0,Aid:=(zhf ((zx a0 [32] 4).getD 3 default)).1:Notice },true))else(bif ((((!((zj ((zx a0 [32] 4).getD 0 default)).2)) || (!((zhd ((zx a0 [32] 4).getD 1 default)).2))) || (!((zj ((zx a0 [32] 4).getD 3 default)).2))) || ((ztc ({ Number:=(zj ((zx a0 [32] 4).getD 0 default)).1,Day:=(zhd ((zx a0 [32] 4).getD 1 default)).1,Kind:=s1.2,Target:=(zj ((zx a0 [32] 4).getD 3 default)).1,Aid:={ Number:=0,Name:=[],At:={ X:=0,Y:=0:Point },Height:=0,Mark:={ Kind:=0,Colors:=[],Shape:=[],Topmark:=[]:Mark },Light:={ Kind:=0,Group:=[],Letter:=[],Colors:=[],Period:=0:Character },Sectors:=[],Intensity:=0:Aid }:Notice })) != a0))then({ Number:=0,Day:=0,Kind:=0,Target:=0,Aid:={ Number:=0,Name:=[],At:={ X:=0,Y:=0:Point },Height:=0,Mark:={ Kind:=0,Colors:=[],Shape:=[],Topmark:=[]:Mark },Light:={ Kind:=0,Group:=[],Letter:=[],Colors:=[],Period:=0:Character },Sectors:=[],Intensity:=0:Aid }:Notice },false)else({ Number:=(zj ((zx a0 [32] 4).getD 0 default)).1,Day:=(zhd ((zx a0 [32] 4).getD 1 default)).1,Kind:=s1.2,Target:=(zj ((zx a0 [32] 4).getD 3 default)).1,Aid:={ Number:=0,Name:=[],At:={ X:=0,Y:=0:Point },Height:=0,Mark:={ Kind:=0,Colors:=[],Shape:=[],Topmark:=[]:Mark },Light:={ Kind:=0,Group:=[],Letter:=[],Colors:=[],Period:=0:Character },Sectors:=[],Intensity:=0:Aid }:Notice },true)))|.ok _=>default))
namespace N9
theorem DD:DOk Tryz.prog (Go.Ab.DD [(10,dP D_ztc),(23,dP D_zx),(24,dP D_zj),(25,dP D_zhd),(26,dP D_zcc),(27,dP D_zpc),(28,dP D_zhf)]):=ya yrx.e <| ya y1ab.e <| ya yhj.e <| ya y72.e <| ya ykx.e <| ya y7p.e <| ya yl3.e <| yf _
abbrev dn:=cj @D_ztc.eq_1 <| cj @D_zx.eq_1 <| cj @D_zj.eq_1 <| cj @D_zhd.eq_1 <| cj @D_zcc.eq_1 <| cj @D_zpc.eq_1 <| @D_zhf.eq_1
set_option maxHeartbeats 1000000 in
set_option maxRecDepth 20000 in
theorem den (a0:(List UInt8)) (hb0:a0.length<1099511627776) (hp0:a0.length<=1048576):DenM Tryz.prog 9 [.str a0] (.tup [.agg (ye ((zkd a0).1)),.bool ((zkd a0).2)]) [.any]:=by
 generalize hR:zkd a0=r;unfold zkd at hR;refine djL (gb:=[false]) Tryz.func9 Tryz.ntmps9 Tryz.results9 ?_;intro c hL hc hk;obtain⟨hL0,_⟩:=hL;have hw0:a0.length<9223372036854775808:=Nat.lt_succ_of_le hL0;clear hL0;simp only[adEL,adE,adRL,adR,ownL,encL,sv,List.nil_append,List.append_nil,List.cons_append,List.length_cons,List.length_nil,pars,Nat.zero_add,Nat.reduceAdd]at hk ⊢;have hc9:=yoy a0 hp0;have hc1:=hc9.1;have hc3:=hc9.2;have hca:=hc1 0;have hcb:=hc1 1;have hcd:=hc1 2;have hce:=hc1 3;have hra:=yry ((zx a0 [32] 4).getD 3 default) hce;iterate 3 refine rS ?_
 refine AWP.cond rfl (fun hb => ?_) (fun hb => ?_)
 ·replace hR:=ct hR
  refine rS ?_;refine AWP.ret ?_;subst hR;exact esL
 ·replace hR:=cf hR
  iterate 4 refine rS ?_
  refine AWP.block ?_;generalize hz1:yeb (yvi a0) (((5-(1:Int)).toNat)+1) (1,0)=z1 at hR;refine AWP.whileW (yvi a0) (fun s1=>⟨[(0,.str a0),(2,.ptr 0 0),(4,.ref 1 1 0 ((zx a0 [32] 4).length)),(6,.bool ((zj ((zx a0 [32] 4).getD 0 default)).2)),(8,.bool ((zhd ((zx a0 [32] 4).getD 1 default)).2)),(9,.ptr 2 0),(10,.int .i64 s1.1)],[.box [.int .i64 0,.int .i64 0,.int .i64 0,.int .i64 0,.int .i64 0,.str [],.int .i64 0,.int .i64 0,.int .i64 0,.int .i64 0,.str [],.str [],.str [],.int .i64 0,.nils,.str [],.str [],.int .i64 0,.nils,.int .i64 0],.arr 9 1 (zx a0 [32] 4).length (fun j=>eS ((zx a0 [32] 4).getD j default)),.box [.int .i64 ((zj ((zx a0 [32] 4).getD 0 default)).1),.int .i64 ((zhd ((zx a0 [32] 4).getD 1 default)).1),.int .i64 s1.2,.int .i64 0,.int .i64 0,.str [],.int .i64 0,.int .i64 0,.int .i64 0,.int .i64 0,.str [],.str [],.str [],.int .i64 0,.nils,.str [],.str [],.int .i64 0,.nils,.int .i64 0]]⟩) (fun s1=>1<=s1.1/\s1.1<=5) (fun s1=>(5-s1.1).toNat) (((5-(1:Int)).toNat)+1) (1,0) [0,1,2] hz1 m0 wt sm ?_;clear hz1;intro s1 k1 hW1 hm1 hz1;simp only[yvi]at hz1;refine rS ?_;refine AWP.cond rfl (fun hb => ?_) (fun hb => ?_)
  ·simp only[hb,cond_true]at hz1
   refine rD 5 ?_;refine AWP.cond rfl (fun hb => ?_) (fun hb => ?_)
   ·simp only[hb,cond_true]at hz1
    iterate 2 refine rS ?_
    exact⟨_,[0,1,2],ms,wt,hz1,sm⟩
   ·simp only[hb,cond_false]at hz1
    refine rS ?_;exact⟨_,[0,1,2],ms,wt,hz1,sm⟩
  ·simp only[hb,cond_false]at hz1
   refine AWP.exit ?_;refine yd ?_;subst hz1;dsimp only at hR;iterate 2 refine rS ?_
   refine AWP.cond rfl (fun hb => ?_) (fun hb => ?_)
   ·replace hR:=ct hR
    iterate 2 refine rS ?_
    refine AWP.cond rfl (fun hb => ?_) (fun hb => ?_)
    ·replace hR:=ct hR
     refine rS ?_;refine AWP.ret ?_;subst hR;exact esL
    ·replace hR:=cf hR
     refine rS ?_;refine AWP.ret ?_;subst hR;exact esL
   ·replace hR:=cf hR
    iterate 2 refine rS ?_
    refine AWP.cond rfl (fun hb => ?_) (fun hb => ?_)
    ·replace hR:=ct hR
     refine rS ?_;refine AWP.ret ?_;subst hR;exact esL
    ·replace hR:=cf hR
     refine rS ?_;refine AWP.ret ?_;subst hR;exact esL
end N9
def D_zkd : List AV -> Option (AV × List AV × List Prop)
 | [x0]=>some (.tup [.agg (ye ((zkd (rdS x0)).1)),.bool ((zkd (rdS x0)).2)],[.any],[wS x0,(rdS x0).length<1099511627776,(rdS x0).length<=1048576])
 | _=>none
theorem y37:OkM Tryz.prog 9 D_zkd:=by unfold D_zkd;exact dm N9.den
def y02 (w:List UInt8):Int:=bif zcc 4 == w then 4 else bif zcc 3 == w then 3 else bif zcc 2 == w then 2 else bif zcc 1 == w then 1 else 0
def setK (w:List UInt8) (k n:Int):Int:=bif zcc k == w then k else n
theorem yw4 (w:List UInt8):setK w 4 (setK w 3 (setK w 2 (setK w 1 0)))=y02 w:=by
 unfold setK y02;cases(zcc 4 == w)<;>cases(zcc 3 == w)<;>cases(zcc 2 == w)<;>cases(zcc 1 == w)<;>rfl
theorem ytcb (s:List UInt8):yeb (yvi s) (((5-(1:Int)).toNat)+1) (1,0)=.error (.inr (5,y02 ((zx s [32] 4).getD 2 default))):=by
 have hb:∀ (k m:Int),1<=k->k<=4->yvi s (k,m)=.ok (k+1,setK ((zx s [32] 4).getD 2 default) k m):=fun k m h1 h2=>by
  unfold yvi setK;simp only;have hw:IntKind.wrap .i64 (k+1)=k+1:=by rw[IntKind.wrap_i64];omega
  rw[decide_eq_true (show k<=4 by omega),cond_true,hw];cases(zcc k == (zx s [32] 4).getD 2 default)<;>rfl
 have h5:∀ m:Int,yvi s (5,m)=.error (.inr (5,m)):=fun m=>by
  unfold yvi;rfl
 rw[<- yw4];exact(ywh (k:=4) (hb 1 0 (by omega) (by omega))).trans <| (ywh (k:=3) (hb 2 _ (by omega) (by omega))).trans <| (ywh (k:=2) (hb 3 _ (by omega) (by omega))).trans <| (ywh (k:=1) (hb 4 _ (by omega) (by omega))).trans <| yj2 (k:=0) (h5 _)
theorem yby {n:Notice} {s:List UInt8} (hA:aidL n.Aid) (h:zib n=false) (hs:s≠[]):(ztc n != s)=true:=by
 have e:ztc n=[]:=by
  unfold ztc;rw[y0c n hA,h];rfl
 rw[e,bne_iff_ne];exact fun e=>hs e.symm
theorem ylu {s a b d r : List UInt8} (hs : s = a ++ 32 :: (b ++ 32 :: (d ++ 32 :: r))) (n : Notice) (hA : aidL n.Aid) (h0 : zh n.Number = a) (h1 : zhb n.Day = b) (h2 : zcc n.Kind = d)
  (h3:(bif zpc n then zbd n.Aid else zh n.Target)=r):(ztc n != s) = !(zib n):=by
 cases h:zib n with
 | false=>exact yby hA h (by rw[hs];simp)
 | true=>
  rw[Bool.not_true,bne_eq_false_iff_eq,hs];unfold ztc;rw[y0c n hA,h];have e:∀ a b c d:List UInt8,zub [a,b,c,d] [32]=a++([32]++(b++([32]++(c++([32]++d))))):=fun a b c d=>yvbb a b c d [32]
  simp only[Bool.not_true,cond_false]
  cases hh:zpc n with
  | true=>rw[hh,cond_true]at h3;rw[cond_true,e,h0,h1,h2,h3];rfl
  | false=>rw[hh,cond_false]at h3;rw[cond_false,e,h0,h1,h2,h3];rfl
theorem ybp {d:Int} (h1:0<=d) (h2:d<=99999):zhd (zhb d)=(d,true):=by
 rcases yko (zhb d) (yqq h1 h2).2.2 with⟨x,x1,x2,x3,x4⟩|⟨h3,_⟩
 ·rw[x4,yvq h1 h2 x1 x2 x3]
 ·exact absurd rfl (h3 d h1 h2)
theorem y8bb {a:Aid} (h:zqd a default=true):a=default:=by
 rw[<- ylj]at h;unfold zmg zxe at h;rw[yuf,yle]at h;obtain⟨a1,a2,⟨a3,a4⟩,a5,⟨a6,a7,a8,a9⟩,⟨b1,b2,b3,b4,b5⟩,a10,a11⟩:=a;simp only[Bool.and_eq_true,beq_iff_eq,decide_eq_true_eq]at h;simp only[and_assoc]at h;obtain⟨rfl,rfl,rfl,rfl,rfl,rfl,rfl,rfl,rfl,rfl,rfl,rfl,rfl,rfl,rfl,rfl⟩:=h;rfl
theorem y82 {k:Int} (h:k=1\/k=2\/k=3\/k=4):(32:UInt8)∉zcc k/\y02 (zcc k)=k:=by
 rcases h with rfl|rfl|rfl|rfl<;>exact⟨by decide +kernel,by decide +kernel⟩
theorem yc0 {a b d r:List UInt8} (ha:(32:UInt8)∉a) (hb:(32:UInt8)∉b) (hd:(32:UInt8)∉d):zx (a++32::(b++32::(d++32::r))) [32] 4=[a,b,d,r]:=by
 have hc:cutK 32 3 (a++32::(b++32::(d++32::r)))=([a,b,d],r):=by
  rw[y4c 32 2 _ _ ha,y4c 32 1 _ _ hb,y4c 32 0 _ _ hd,ysh]
 rcases ya3 (a++32::(b++32::(d++32::r)))with⟨a',b',d',r',h1,h2,_⟩|⟨h1,_⟩
 ·rw[hc]at h1
  simp only[Prod.mk.injEq,List.cons.injEq,and_true]at h1;obtain⟨⟨rfl,rfl,rfl⟩,rfl⟩:=h1;exact h2
 ·rw[hc]at h1
  exact absurd rfl h1
theorem ybu {n:Notice} (h:zib n=true) (hA:aidL n.Aid):zkd (ztc n)=(n,true):=by
 obtain⟨n1,n2,d1,d2,hk⟩:=ylo h;have hK:n.Kind=1\/n.Kind=2\/n.Kind=3\/n.Kind=4:=by omega
 obtain⟨k1,k2⟩:=y82 hK
 have hs:ztc n=zh n.Number++32::(zhb n.Day++32::(zcc n.Kind++32::(bif zpc n then zbd n.Aid else zh n.Target))):=by
  have:=ylu (s:=_) rfl n hA rfl rfl rfl rfl;rw[h,Bool.not_true,bne_eq_false_iff_eq]at this;exact this
 have hsp:zx (ztc n) [32] 4=[zh n.Number,zhb n.Day,zcc n.Kind,(bif zpc n then zbd n.Aid else zh n.Target)]:=by
  rw[hs];exact yc0 (ysj (by omega) 32 (by decide)) (yqq d1 d2).1 k1
 have en:∀ m:Notice,m=n->(ztc m != ztc n)=false:=fun m e=>by rw[e,bne_self_eq_false]
 unfold zkd;rw[ytcb,hsp];simp only[List.getD_cons_zero,List.getD_cons_succ];rw[k2,ydk (n:=n.Number) (by omega) (by omega),ybp d1 d2];rcases hk with⟨hk,ha,ht⟩|⟨hk,ha,t1,t2⟩
 ·have hh:∀ m:Notice,m.Kind=n.Kind->zpc m=true:=fun m e=>by unfold zpc;rw[e];rcases hk with e|e<;>rw[e]<;>rfl
  have e:({ Number:=n.Number,Day:=n.Day,Kind:=n.Kind,Target:=0,Aid:=n.Aid:Notice })=n:=by rw[<- ht]
  have e1:=hh ({ Number:=n.Number,Day:=n.Day,Kind:=n.Kind,Target:=0,Aid:=zAid:Notice }) rfl;rw[hh n rfl];simp only[cond_true,e1,yps ha hA.1,e,bne_self_eq_false];rfl
 ·have hh:∀ m:Notice,m.Kind=n.Kind->zpc m=false:=fun m e=>by unfold zpc;rw[e];rcases hk with e|e<;>rw[e]<;>rfl
  have hz:=y8bb ha;have e:({ Number:=n.Number,Day:=n.Day,Kind:=n.Kind,Target:=n.Target,Aid:={ Number:=0,Name:=[],At:={ X:=0,Y:=0:Point },Height:=0,Mark:={ Kind:=0,Colors:=[],Shape:=[],Topmark:=[]:Mark },Light:={ Kind:=0,Group:=[],Letter:=[],Colors:=[],Period:=0:Character },Sectors:=[],Intensity:=0:Aid }:Notice })=n:=congrArg (fun a=>({ Number:=n.Number,Day:=n.Day,Kind:=n.Kind,Target:=n.Target,Aid:=a:Notice })) hz.symm;have e1:=hh ({ Number:=n.Number,Day:=n.Day,Kind:=n.Kind,Target:=0,Aid:=zAid:Notice }) rfl;rw[hh n rfl];simp only[cond_false,e1,ydk (n:=n.Target) (by omega) (by omega),e,bne_self_eq_false];rfl
theorem y0i (l:List Notice):zwc l=l:=by
 unfold zwc;rw[show(List.replicate 0 (default:Notice))=[]from rfl,ygk l (yjn l) (fun i s=>by simp only[yjn,ykg])]
theorem yvh (a:Notice):zag a=a:=by simp[zag,yol]
theorem ywe (l:List Notice):zef l=l:=by
 unfold zef;rw[ygk l (yfn l) (fun i s=>by simp only[yfn,yvh])]
theorem ygs {a:List Notice} (h:zkb a=true):a.length<=32:=by
 unfold zkb at h;split at h
 ·rename_i e he
  obtain⟨j,t,_,_,h3⟩:=ywc he;simp only[y6g,Bool.cond_eq_ite]at h3;split at h3
  ·cases h3;cases h
  ·cases h3
 ·have:=of_decide_eq_true h;omega
theorem yjg {a:List Notice} (h:ztb a=true):a.length<=32:=by
 unfold ztb at h;split at h
 ·rename_i e he
  obtain⟨j,t,_,_,h3⟩:=ywc he;simp only[y0k,Bool.cond_eq_ite]at h3;split at h3
  ·cases h3;cases h
  ·cases h3
 ·unfold zlb at h;have:=of_decide_eq_true h;omega
def znc (a0:(List Notice)) (a1:Notice):((List Notice)×Int):=
 (bif ((!(zkb a0)) || (!(zib a1)))then([],1)else(bif (decide (0<(a0.length:Int)) && (decide (a1.Number<=((a0.getD ((IntKind.wrap .i64 ((a0.length:Int)-1)).toNat) default).Number)) || decide (a1.Day<((a0.getD ((IntKind.wrap .i64 ((a0.length:Int)-1)).toNat) default).Day))))then([],7)else(bif (!(zsb a0 a1))then([],3)else(bif ((a0.length:Int) == 32)then([],5)else((zef a0)++[zag a1],0)))))
namespace N48
theorem DD:DOk Tryz.prog (Go.Ab.DD [(101,dP D_zkb),(102,dP D_zsb),(103,dP D_zef),(104,dP D_zag),(22,dP D_zib)]):=ya yk3.e <| ya yyw.e <| ya ym7.e <| ya y6w.e <| ya yeo.e <| yf _
abbrev dn:=cj @D_zkb.eq_1 <| cj @D_zsb.eq_1 <| cj @D_zef.eq_1 <| cj @D_zag.eq_1 <| @D_zib.eq_1
abbrev ol:=@ywe
theorem gr {p:Prop} (h:p:=by(grind [ygs]);first|done|fail):p:=h
theorem o1 {p:Prop} (h:p:=by(first|(have h9:=hvl (by assumption);(try simp only[ywe]);first|omega|(constructor<;>omega)));first|done|fail):p:=h
theorem den (a0:(List Notice)) (a1:Notice) (hb0:a0.length<1099511627776) (hb1:∀ v∈a0,bdNotice v) (hb2:bdNotice a1):Den Tryz.prog 48 [encL 20 ye a0,.agg (ye a1)] (.tup [ownL 39 20 y7b ((znc a0 a1).1),.int .i64 ((znc a0 a1).2)]):=by
 generalize hR:znc a0 a1=r;unfold znc at hR;refine di Tryz.func48 Tryz.ntmps48 Tryz.results48 ?_;intro c hL hc hk;obtain⟨hL0,hL1,_⟩:=hL;have hw0:a0.length<9223372036854775808:=Nat.lt_succ_of_le (yb hL0).1;have hw1:∀ v∈a0,bwNotice v:=fun v hv=>yi v ((yb hL0).2 v hv)
 have hw2:bwNotice a1:=yi a1 hL1;clear hL0 hL1;simp only[pars,Nat.zero_add];have hvl:((!(zkb a0)) || (!(zib a1)))=false->a0.length<=32:=fun h=>by rw[Bool.or_eq_false_iff]at h;exact ygs (by simpa using h.1)
 iterate 2 refine rS ?_
 refine AWP.cond rfl (fun hb => ?_) (fun hb => ?_)
 ·replace hR:=ct hR
  refine rS ?_;refine AWP.ret ?_;subst hR;exact es
 ·replace hR:=cf hR
  refine rS ?_;refine rD 24 ?_;refine AWP.cond rfl (fun hb => ?_) (fun hb => ?_)
  ·replace hR:=ct hR
   refine rS ?_;refine AWP.ret ?_;subst hR;exact es
  ·replace hR:=cf hR
   refine rS ?_;refine AWP.cond rfl (fun hb => ?_) (fun hb => ?_)
   ·replace hR:=ct hR
    refine rS ?_;refine AWP.ret ?_;subst hR;exact es
   ·replace hR:=cf hR
    refine rS ?_;refine AWP.cond rfl (fun hb => ?_) (fun hb => ?_)
    ·replace hR:=ct hR
     refine rS ?_;refine AWP.ret ?_;subst hR;exact es
    ·replace hR:=cf hR
     refine rS ?_;refine AWP.ret ?_;subst hR;exact es
end N48
def D_znc : DF
 | [x0,x1]=>some (.tup [ownL 39 20 y7b ((znc (rdL yc x0) (rdG yc x1)).1),.int .i64 ((znc (rdL yc x0) (rdG yc x1)).2)],false,[wL 20 ye yc x0,wG ye yc x1,(rdL yc x0).length<1099511627776,∀ v∈(rdL yc x0),bdNotice v,bdNotice (rdG yc x1)])
 | _=>none
theorem yu6:OkD Tryz.prog 48 D_znc:=by unfold D_znc;exact dk N48.den
theorem y5i (l:List Notice) (n:Notice):(znc l n).1=[]/\(znc l n).2≠0\/znc l n=(l++[n],0)/\zkb l=true/\zib n=true/\(0<l.length->(l.getD (l.length-1) default).Number<n.Number/\(l.getD (l.length-1) default).Day<=n.Day)/\zsb l n=true/\(l.length:Int)≠32:=by
 unfold znc
 cases hk:zkb l with
 | false=>left;exact⟨rfl,by simp⟩
 | true=>
  cases h1:zib n with
  | false=>left;exact⟨rfl,by simp⟩
  | true=>
   simp only[Bool.not_true,Bool.or_false,cond_false,ywe,yvh]
   cases h2:(decide (0<(l.length:Int)) && (decide (n.Number<=((l.getD ((IntKind.wrap .i64 ((l.length:Int)-1)).toNat) default).Number)) || decide (n.Day<((l.getD ((IntKind.wrap .i64 ((l.length:Int)-1)).toNat) default).Day))))with
   | true=>left;exact⟨rfl,by simp⟩
   | false=>
    simp only[cond_false]
    cases h3:zsb l n with
    | false=>left;exact⟨rfl,by simp⟩
    | true=>
     simp only[Bool.not_true,cond_false]
     cases h4:((l.length:Int) == 32)with
     | true=>left;exact⟨rfl,by simp⟩
     | false=>
      right
      rw[beq_eq_false_iff_ne]at h4;refine⟨by first|rfl|trivial,by first|rfl|trivial,by first|rfl|trivial,fun h0 => ?_,by first|rfl|trivial,h4⟩;rw[decide_eq_true (by omega),Bool.true_and,Bool.or_eq_false_iff,decide_eq_false_iff_not,decide_eq_false_iff_not]at h2;by_cases hw:l.length<9223372036854775808
      ·have e:(IntKind.wrap .i64 ((l.length:Int)-1)).toNat=l.length-1:=by rw[IntKind.wrap_i64];omega
       rw[e]at h2;omega
      ·exfalso
       have:=(y1t hk).2;omega
theorem ygbb (l:List Notice) (n:Notice) (hl:∀ v∈l,bdNotice v) (hn:bdNotice n):(∀ v∈(znc l n).1,bdNotice v)/\(znc l n).1.length<=l.length+1:=by
 rcases y5i l n with⟨h,_⟩|⟨h,_⟩
 ·rw[h];exact⟨fun v h=>absurd h (by simp),by simp⟩
 ·rw[h]
  refine⟨fun v hv => ?_,by simp⟩;rcases List.mem_append.1 hv with h|h
  ·exact hl v h
  ·rw[List.mem_singleton]at h;subst h;exact hn
def y3y (l:List Notice) (i1:Nat):Bool:=(((!(zib (l.getD i1 default))) || (decide (0<(i1:Int)) && (decide (((l.getD i1 default).Number)<=((l.getD ((IntKind.wrap .i64 ((i1:Int)-1)).toNat) default).Number)) || decide (((l.getD i1 default).Day)<((l.getD ((IntKind.wrap .i64 ((i1:Int)-1)).toNat) default).Day))))) || (!(zsb (subL l 0 (i1)) (l.getD i1 default))))
theorem y0f (l:List Notice):zkb l=true↔(∀ j,j<l.length->y3y l j=false)/\l.length<=32:=by
 unfold zkb;refine Iff.trans (yah (b:=y6g l) (y3y l) l.length _ (fun j u _=>rfl)) ?_;rw[decide_eq_true_eq];exact⟨fun h=>⟨h.1,by have:=h.2;omega⟩,fun h=>⟨h.1,by have:=h.2;omega⟩⟩
theorem ydj {l:List Notice} {n:Notice} (h:zkb l=true) (h1:zib n=true) (h2:0<l.length->(l.getD (l.length-1) default).Number<n.Number/\(l.getD (l.length-1) default).Day<=n.Day) (h3:zsb l n=true) (h4:(l.length:Int)≠32):zkb (l++[n])=true:=by
 rw[y0f]at h ⊢
 have hg:∀ k,k<l.length->(l++[n]).getD k default=l.getD k default:=fun k hk=>by
  rw[List.getD_eq_getElem?_getD,List.getElem?_append_left hk, <- List.getD_eq_getElem?_getD]
 refine⟨fun j hj => ?_,by simp;omega⟩;rw[List.length_append,List.length_singleton]at hj;by_cases hjl:j<l.length
 ·have hc:=h.1 j hjl
  unfold y3y at hc ⊢;rw[hg j hjl]
  have e:subL (l++[n]) 0 j=subL l 0 j:=by
   rw[y2e _ _ (by simp;omega),y2e _ _ (by omega),List.take_append_of_le_length (by omega)]
  rw[e];by_cases h0:0<j
  ·have hw:(IntKind.wrap .i64 ((j:Int)-1)).toNat=j-1:=by rw[IntKind.wrap_i64];omega
   rw[hw]at hc ⊢;rw[hg (j-1) (by omega)];exact hc
  ·have hj0:j=0:=by omega
   subst hj0;exact hc
 ·have hjl:j=l.length:=by omega
  subst hjl
  have hgn:(l++[n]).getD l.length default=n:=by
   rw[List.getD_eq_getElem?_getD,List.getElem?_append_right (Nat.le_refl _)];simp
  unfold y3y;rw[hgn]
  have e:subL (l++[n]) 0 l.length=l:=by
   rw[y2e _ _ (by simp),List.take_append_of_le_length (Nat.le_refl _),List.take_length]
  rw[e,h1,h3];by_cases h0:0<l.length
  ·have hw:(IntKind.wrap .i64 ((l.length:Int)-1)).toNat=l.length-1:=by rw[IntKind.wrap_i64];omega
   rw[hw,hg (l.length-1) (by omega)];obtain⟨q1,q2⟩:=h2 h0;rw[decide_eq_false (show ¬ n.Number<=(l.getD (l.length-1) default).Number by omega),decide_eq_false (show ¬ n.Day<(l.getD (l.length-1) default).Day by omega)];simp
  ·rw[decide_eq_false (show ¬ (0:Int)<(l.length:Int)by omega)]
   simp
theorem ym2:zkb []=true:=by rw[y0f];exact⟨fun j hj=>absurd hj (Nat.not_lt_zero _),by decide⟩
end Go.Ab
