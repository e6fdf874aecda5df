/- A part of a proof: walks of functions and lemmas of our own. No conditions. -/
import Derived.Test.YtaneiddiakjgdaaGreatDoorWAl
import Derived.Test.YtaneiddiakjgdaaGreatDoorWAz
import Derived.Test.YtaneiddiakjgdaaGreatDoorWAw
import Derived.Test.YtaneiddiakjgdaaGreatDoorWAs
import Derived.Test.YtaneiddiakjgdaaGreatDoorWAr
import Derived.Test.YtaneiddiakjgdaaGreatDoorWAv
import Derived.Test.YtaneiddiakjgdaaGreatDoorWAp
import Derived.Test.YtaneiddiakjgdaaGreatDoorWAi
import Derived.Test.YtaneiddiakjgdaaGreatDoorWAn
set_option linter.unusedSectionVars false
set_option linter.unusedVariables false
set_option linter.unusedSimpArgs false
set_option maxHeartbeats 1000000
namespace Go.Ab
open Go Go.Proofs
def yym (a0:(List Notice)) (i1:Nat) (s1:Unit):Except (Bool) (Unit):=
 (bif (((!(zpb (a0.getD i1 default))) || (decide (0<(i1:Int)) && (decide (((a0.getD i1 default).Number)≤((a0.getD ((IntKind.wrap .i64 ((i1:Int)-1)).toNat) default).Number)) || decide (((a0.getD i1 default).Day)<((a0.getD ((IntKind.wrap .i64 ((i1:Int)-1)).toNat) default).Day))))) || (!(zgc (subL a0 0 (i1)) (a0.getD i1 default))))then .error false else .ok ())
def zu (a0:(List Notice)):Bool:=
 (match yh (yym a0) (a0.length-0) 0 ()with|.error e=>e|.ok s1=>decide ((a0.length:Int)≤32))
namespace N69
theorem DD:DOk Tryz.prog (Go.Ab.DD [(120,dP D_zpb),(121,dP D_zgc)]):=ya ynt.e <| ya y1s.e <| ye _
theorem dn:type_of% (And.intro @D_zpb.eq_1 <| @D_zgc.eq_1):=by and_intros<;>intros<;>rfl
theorem den (a0:(List Notice)) (hb0:a0.length<1099511627776) (hb1:∀ v∈a0,bdNotice v):Den Tryz.prog 69 [encL 20 eNotice a0] (.bool (zu a0)):=by
 generalize hR:zu a0=r
 unfold zu at hR
 refine di Tryz.func69 Tryz.ntmps69 Tryz.results69 ?_
 intro c hL hc hk
 obtain⟨hL0,_⟩:=hL
 have hw0:a0.length<9223372036854775808:=Nat.lt_succ_of_le (yb hL0).1
 have hw1:∀ v∈a0,bwNotice v:=fun v hv=>yg v ((yb hL0).2 v hv)
 clear hL0
 simp only[pars,Nat.zero_add]
 iterate 2 refine rS ?_
 refine AWP.block ?_
 generalize hz1:yh (yym a0) (a0.length-0) 0 ()=z1 at hR
 refine AWP.range (yym a0) (fun i1 s1=>⟨[(0,encL 20 eNotice a0),(3,.int .i64 (i1:Int))],[]⟩) (fun i1 s1=>True) (a0.length) 0 () [] hz1 ot wt sm ?_
 clear hz1
 intro i1 s1 hi1 hW1 hz1
 refine rS ?_
 refine AWP.cond rfl (fun hb => ?_) (fun hb => ?_)
 ·have hlt1:i1<a0.length:=ot
  rw[yj hlt1]at hz1;simp only[yym]at hz1
  refine rS ?_
  refine rD 41 ?_
  refine AWP.cond rfl (fun hb => ?_) (fun hb => ?_)
  ·simp only[hb,cond_true]at hz1
   refine rS ?_
   refine AWP.ret ?_
   subst hz1
   dsimp only at hR
   subst hR
   exact es
  ·simp only[hb,cond_false]at hz1
   refine rS ?_
   exact⟨_,[],hlt1,wt,hz1,sm⟩
 ·obtain rfl:i1=a0.length:=ot
  rw[yi (Nat.le_refl _)]at hz1;subst hz1;dsimp only at hR
  refine AWP.exit ?_;refine yd ?_
  refine rS ?_
  refine AWP.ret ?_
  subst hR
  exact es
end N69
def D_zu : DF
 | [x0]=>some (.bool (zu (rdL yc x0)),false,[wL 20 eNotice yc x0,(rdL yc x0).length<1099511627776,∀ v∈(rdL yc x0),bdNotice v])
 | _=>none
theorem yjv:OkD Tryz.prog 69 D_zu:=by unfold D_zu;exact dk N69.den
end Go.Ab

namespace Go.Ab
open Go Go.Proofs
theorem yli (n:Notice) (h:aidL n.Aid):zhe n=zpb n:=by
 unfold zhe zpb zvg
 rw[y2e _ h.1 h.2]
 simp only[yzt]
 have e1:zrc n.Number=zd n.Number 1 9999:=rfl
 have e2:zrc n.Target=zd n.Target 1 9999:=rfl
 have e3:zec n.Day=znb n.Day:=rfl
 have e4:zb n.Kind 1 4=((((n.Kind == 1) || (n.Kind == 2)) || (n.Kind == 3)) || (n.Kind == 4)):=by
  unfold zb
  apply Bool.eq_iff_iff.2
  simp only[Bool.and_eq_true,Bool.or_eq_true,decide_eq_true_eq,beq_iff_eq]
  omega
 rw[e1,e2,e3,e4]
 cases zd n.Number 1 9999<;>cases znb n.Day<;>cases(n.Kind == 1)<;>cases(n.Kind == 2)<;>cases(n.Kind == 3)<;>cases(n.Kind == 4)<;>rfl
theorem y7g (l:List Notice) (t d:Int):zsb l t d=l.any (fun m=>((m.Kind == 4) && (m.Target == t)) && decide (m.Day≤d)):=by
 unfold zsb
 rw[ykc (b:=y4o l t d) (fun j=>(((l.getD j default).Kind == 4) && ((l.getD j default).Target == t)) && decide ((l.getD j default).Day≤d)) true (fun j u _ _=>rfl)]
 simp only[Nat.sub_zero,Nat.zero_add]
 rw[yce (fun m:Notice=>((m.Kind == 4) && (m.Target == t)) && decide (m.Day≤d)) l]
 cases l.any (fun m=>((m.Kind == 4) && (m.Target == t)) && decide (m.Day≤d))<;>rfl
theorem yhm (l:List Notice) (n:Notice):zue l n=l.any (fun m=>(m.Kind == 4) && (m.Target == n.Target)):=by
 unfold zue zjd
 have ha:=yce (fun m:Notice=>(m.Kind == 4) && (m.Target == n.Target)) l
 rcases y8b (b:=yvp l n) (fun j=>((l.getD j default).Kind == 4) && ((l.getD j default).Target == n.Target)) (fun j=>(j:Int)) (k:=l.length-0) (i:=0) (s:=()) (fun j u _ _=>rfl)with⟨j,_,h2,h3,h4,h5⟩|⟨h1,h2⟩
 ·rw[h5]
  rw[← ha,List.any_eq_true.2 ⟨j,by simpa using h2,h3⟩]
  simp
 ·rw[h2, ← ha]
  have:(List.range l.length).any (fun i=>(((l.getD i default).Kind == 4) && ((l.getD i default).Target == n.Target)))=false:=by
   rw[List.any_eq_false]
   intro i hi
   rw[h1 i (Nat.zero_le _) (by simpa using hi)]
   simp
  rw[this];rfl
theorem y6o (l:List Notice) (n:Notice) (d:Int):zoe l n d=zsb l n.Number d:=by
 rw[y7g]
 unfold zoe zkd
 have ha:=yce (fun m:Notice=>((m.Kind == 4) && (m.Target == n.Number)) && decide (m.Day≤d)) l
 rcases y8b (b:=yfp l n d) (fun j=>(((l.getD j default).Kind == 4) && ((l.getD j default).Target == n.Number)) && decide ((l.getD j default).Day≤d)) (fun j=>(j:Int)) (k:=l.length-0) (i:=0) (s:=()) (fun j u _ _=>rfl)with⟨j,_,h2,h3,h4,h5⟩|⟨h1,h2⟩
 ·rw[h5]
  rw[← ha,List.any_eq_true.2 ⟨j,by simpa using h2,h3⟩]
  simp
 ·rw[h2, ← ha]
  have:(List.range l.length).any (fun i=>((((l.getD i default).Kind == 4) && ((l.getD i default).Target == n.Number)) && decide ((l.getD i default).Day≤d)))=false:=by
   rw[List.any_eq_false]
   intro i hi
   rw[h1 i (Nat.zero_le _) (by simpa using hi)]
   simp
  rw[this];rfl
theorem ypp (l:List Notice) (n:Notice) (hd:∀ m∈l,m.Day≤99999):((n.Kind == 4) && (!(zce n l))) = !(zgc l n):=by
 unfold zgc
 cases hk:(n.Kind == 4)with
 | false=>
  have:(n.Kind != 4)=true:=by simp only[bne,hk];rfl
  rw[this];rfl
 | true=>
  have:(n.Kind != 4)=false:=by simp only[bne,hk];rfl
  rw[this,cond_false,Bool.true_and]
  congr 1
  unfold zce
  rw[yhm]
  have hc:l.any (fun m=>(m.Kind == 4) && (m.Target == n.Target))=zsb l n.Target 99999:=by
   rw[y7g]
   apply Bool.eq_iff_iff.2
   rw[List.any_eq_true,List.any_eq_true]
   constructor
   ·rintro⟨x,hx,h⟩;exact⟨x,hx,by rw[h];simpa using hd x hx⟩
   ·rintro⟨x,hx,h⟩;exact⟨x,hx,by rw[Bool.and_eq_true]at h;exact h.1⟩
  rw[hc]
  rcases yno l n with⟨j,h1,h2,h3,h4⟩|⟨h1,h2⟩
  ·rw[h4]
   rcases y8b (b:=ysl l n) (fun j=>(l.getD j default).Number == n.Target) (fun j=>((((l.getD j default).Kind) != 4) && (!(zsb l n.Target 99999)))) (k:=l.length-0) (i:=0) (s:=()) (fun j u _ _=>rfl)with⟨q,_,g2,g3,g4,g5⟩|⟨g1,_⟩
   ·have:q=j:=by
     rcases Nat.lt_trichotomy q j with h|h|h
     ·have:=h3 q h
      unfold zbe at this
      rw[this]at g3;cases g3
     ·exact h
     ·have:=g4 j (Nat.zero_le _) h
      unfold zbe at h2
      rw[this]at h2;cases h2
    subst this
    rw[g5,decide_eq_false (by omega),Bool.false_or,Int.toNat_natCast]
    simp only[bne]
    cases((l.getD q default).Kind == 4)<;>rfl
   ·have:=g1 j (Nat.zero_le _) (by omega)
    unfold zbe at h2
    rw[this]at h2;cases h2
  ·rw[h2]
   rcases y8b (b:=ysl l n) (fun j=>(l.getD j default).Number == n.Target) (fun j=>((((l.getD j default).Kind) != 4) && (!(zsb l n.Target 99999)))) (k:=l.length-0) (i:=0) (s:=()) (fun j u _ _=>rfl)with⟨q,_,g2,g3,g4,g5⟩|⟨_,g2⟩
   ·have:=h1 q (by omega)
    unfold zbe at this
    rw[this]at g3;cases g3
   ·rw[g2];rfl
theorem y6p:aidL (default:Notice).Aid:=⟨by decide,by decide⟩
theorem ybx {n:Notice} (h:zpb n=true):n.Day≤99999:=by
 unfold zpb at h
 cases hd:znb n.Day with
 | false=>rw[hd]at h;simp at h
 | true=>
  unfold znb zd at hd
  simp only[Bool.and_eq_true,decide_eq_true_eq]at hd
  exact hd.2
theorem yue (l:List Notice) (h:∀ n∈l,aidL n.Aid):zy l=zu l:=by
 unfold zy zu
 rw[yjk (b:=yeq l) (b':=yym l) (fun j=>(l.getD j default).Day≤99999) (fun j hj=>by
  simp only[yym]at hj
  cases hc:zpb (l.getD j default)with
  | true=>exact ybx hc
  | false=>rw[hc]at hj;simp at hj) (l.length-0) 0 (fun q hq=>absurd hq (Nat.not_lt_zero _)) (fun j _ hj hp=>by
   simp only[yeq,yym]
   have hb:aidL (l.getD j default).Aid:=yfd (p:=fun n:Notice=>aidL n.Aid) h y6p j
   rw[yli _ hb,ypp (subL l 0 j) (l.getD j default) (fun m hm=>by
    rw[ykf l _ (by omega)]at hm
    obtain⟨q,hq,rfl⟩:=List.getElem_of_mem hm
    simp only[List.length_take]at hq
    have:=hp q (by omega)
    rw[List.getD_eq_getElem?_getD,List.getElem?_eq_getElem (show q<l.length by omega)]at this
    simp only[List.getElem_take]
    exact this)])]
 rfl
def inF (l:List Notice) (d:Int) (n:Notice):Bool:=((n.Kind != 4) && decide (n.Day≤d)) && !(zsb l n.Number d)
theorem yry (l:List Notice) (i:Nat) (d:Int):zmg l (i:Int) d=inF l d (l.getD i default):=by
 unfold zmg inF
 rw[Int.toNat_natCast]
 cases(l.getD i default).Kind != 4<;>cases decide ((l.getD i default).Day≤d)<;>rfl
theorem ysu (l:List Notice) (d:Int):zr l d=l.filter (inF l d):=by
 unfold zr
 rw[ynp l (yzp l d) (inF l d) (fun x=>x) (fun i s hi=>by simp only[yzp,y6o];rfl)]
 simp
theorem yqr {l:List Notice} (h:zu l=true):(∀ n∈l,zpb n=true)∧l.length≤32:=by
 unfold zu at h
 have h:=(yil (b:=yym l) (fun i1=>(((!(zpb (l.getD i1 default))) || (decide (0<(i1:Int)) && (decide (((l.getD i1 default).Number)≤((l.getD ((IntKind.wrap .i64 ((i1:Int)-1)).toNat) default).Number)) || decide (((l.getD i1 default).Day)<((l.getD ((IntKind.wrap .i64 ((i1:Int)-1)).toNat) default).Day))))) || (!(zgc (subL l 0 (i1)) (l.getD i1 default))))) l.length _ (fun j u _=>rfl)).1 h
 refine⟨fun n hn => ?_,by have:=of_decide_eq_true h.2;omega⟩
 obtain⟨j,hj,rfl⟩:=List.getElem_of_mem hn
 have:=h.1 j hj
 rw[Bool.or_eq_false_iff,Bool.or_eq_false_iff]at this
 have h3:=this.1.1
 rw[List.getD_eq_getElem?_getD,List.getElem?_eq_getElem hj]at h3
 simpa using h3
end Go.Ab

namespace Go.Ab
open Go Go.Proofs
def ydr (a0:(List Int)) (a1:Int) (i1:Nat) (s1:Int×List Int):Except (Int×(List Int)) (Int×List Int):=
 .ok (IntKind.wrap .i64 (s1.1+1),s1.2.set i1 s1.1)
def za (a0:(List Int)) (a1:Int):Int×(List Int):=
 (match yh (ydr a0 a1) (a0.length-0) 0 (a1,a0)with|.error e=>e|.ok s1=>(s1.1,s1.2))
namespace N20
theorem DD:DOk Tryz.prog (Go.Ab.DD []):=ye _
theorem den (a0:(List Int)) (a1:Int)  : DenM Tryz.prog 20 [ownL 2 1 yp a0,.int .i64 a1] (.int .i64 ((za a0 a1).1)) [(ownL 2 1 yp ((za a0 a1).2)),.any]:=by
 generalize hR:za a0 a1=r
 unfold za at hR
 refine dj (gb:=[true,false]) Tryz.func20 Tryz.ntmps20 Tryz.results20 ?_
 intro c hL hc hk
 obtain⟨hL0,hL1,_⟩:=hL
 have hw0:a0.length<9223372036854775808:=Nat.lt_succ_of_le (yub hL0).1
 clear hL0 hL1
 simp only[adEL,adE,adRL,adR,ownL,encL,sv,List.nil_append,List.append_nil,List.cons_append,List.length_cons,List.length_nil,pars,Nat.zero_add,Nat.reduceAdd]at hk ⊢
 iterate 2 refine rS ?_
 refine AWP.block ?_
 generalize hz1:yh (ydr a0 a1) (a0.length-0) 0 (a1,a0)=z1 at hR
 refine AWP.range (ydr a0 a1) (fun i1 s1=>⟨[(0,.ref 0 1 0 s1.2.length),(1,.int .i64 s1.1),(5,.int .i64 (i1:Int))],[.arr 2 1 s1.2.length (fun j=>yp (s1.2.getD j default))]⟩) (fun i1 s1=>s1.2.length=a0.length) (a0.length) 0 (a1,a0) [0] hz1 ot wt sm ?_
 clear hz1
 intro i1 s1 hi1 hW1 hz1
 refine rS ?_
 refine AWP.cond rfl (fun hb => ?_) (fun hb => ?_)
 ·have hlt1:i1<a0.length:=ot
  rw[yj hlt1]at hz1;simp only[ydr]at hz1
  iterate 3 refine rS ?_
  exact⟨_,[0],hlt1,wt,hz1,sm⟩
 ·obtain rfl:i1=a0.length:=ot
  rw[yi (Nat.le_refl _)]at hz1;subst hz1;dsimp only at hR
  refine AWP.exit ?_;refine yd ?_
  refine rS ?_
  refine AWP.ret ?_
  subst hR
  exact es
end N20
def D_za : List AV → Option (AV × List AV × List Prop)
 | [x0,x1]=>some (.int .i64 ((za (rdL ylb x0) (rdI x1)).1),[(ownL 2 1 yp ((za (rdL ylb x0) (rdI x1)).2)),.any],[wO 2 1 yp ylb x0,wI .i64 x1])
 | _=>none
theorem yfq:OkM Tryz.prog 20 D_za:=by unfold D_za;exact dm N20.den
end Go.Ab

namespace Go.Ab
open Go Go.Proofs
def yzy (a0:Int) (s1:Int×List UInt8):Except (Sum ((List UInt8)) (Int×List UInt8)) (Int×List UInt8):=
 (bif decide (0<s1.1)then .ok (IntKind.wrap .i64 (s1.1.tdiv 10),(([IntKind.wrap .u8 (IntKind.wrap .i64 (48+(s1.1.tmod 10)))]:List Int).map fun z=>UInt8.ofNat z.toNat)++s1.2)else .error (.inr (s1.1,s1.2)))
def ze (a0:Int):(List UInt8):=
 (bif decide (a0≤0)then[109,48]else(match yyd (yzy a0) (((a0).toNat)+1) (a0,[])with|.error (.inl e)=>e|.error (.inr s1)=>[109]++s1.2|.ok _=>default))
namespace N75
theorem DD:DOk Tryz.prog (Go.Ab.DD []):=ye _
theorem den (a0:Int) (hp0:a0≤9223372036854775807):Den Tryz.prog 75 [.int .i64 a0] (.str (ze a0)):=by
 generalize hR:ze a0=r
 unfold ze at hR
 refine di Tryz.func75 Tryz.ntmps75 Tryz.results75 ?_
 intro c hL hc hk
 clear hL
 simp only[pars,Nat.zero_add]
 iterate 2 refine rS ?_
 refine AWP.cond rfl (fun hb => ?_) (fun hb => ?_)
 ·replace hR:=ct hR
  refine rS ?_
  refine AWP.ret ?_
  subst hR
  exact es
 ·replace hR:=cf hR
  refine rS ?_
  refine AWP.seq ?_
  refine AWP.block ?_
  generalize hz1:yyd (yzy a0) (((a0).toNat)+1) (a0,[])=z1 at hR
  refine AWP.whileW (yzy a0) (fun s1=>⟨[(0,.int .i64 s1.1),(3,.str s1.2)],[]⟩) (fun s1=>0≤s1.1∧s1.2.length≤19∧s1.1 * 10 ^ s1.2.length≤a0) (fun s1=>(s1.1).toNat) (((a0).toNat)+1) (a0,[]) [] hz1 m0 (by(refine⟨by have:=of_decide_eq_false hb;simp only;omega,by simp,by simp⟩)) sm ?_
  clear hz1
  intro s1 k1 hW1 hm1 hz1
  simp only[yzy]at hz1
  refine rS ?_
  refine AWP.cond rfl (fun hb => ?_) (fun hb => ?_)
  ·simp only[hb,cond_true]at hz1
   iterate 2 refine rS ?_
   exact⟨_,[],by(exact Nat.lt_of_lt_of_le (digd hW1 hb hp0) (Nat.le_of_lt_succ hm1)),by(exact digw rfl hW1 hb hp0),hz1,sm⟩
  ·simp only[hb,cond_false]at hz1
   refine AWP.exit ?_
   refine yd ?_
   subst hz1;dsimp only at hR
   refine rS ?_
   refine AWP.ret ?_
   subst hR
   exact es
end N75
def D_ze : DF
 | [x0]=>some (.str (ze (rdI x0)),false,[wI .i64 x0,(rdI x0)≤9223372036854775807])
 | _=>none
theorem y4h:OkD Tryz.prog 75 D_ze:=by unfold D_ze;exact dk N75.den
end Go.Ab

namespace Go.Ab
open Go Go.Proofs
def y3q (a0:(List Sector)) (a1:Int) (i1:Nat) (s1:Int×List Sector):Except (Int×(List Sector)) (Int×List Sector):=
 .ok (IntKind.wrap .i64 ((IntKind.wrap .i64 ((IntKind.wrap .i64 (s1.1+1))+1))+1),s1.2.set i1 ({ From:=s1.1,To:=IntKind.wrap .i64 (s1.1+1),Color:=(ze (IntKind.wrap .i64 ((IntKind.wrap .i64 (s1.1+1))+1))):Sector }))
def zg (a0:(List Sector)) (a1:Int):Int×(List Sector):=
 (match yh (y3q a0 a1) (a0.length-0) 0 (a1,a0)with|.error e=>e|.ok s1=>(s1.1,s1.2))
namespace N76
theorem DD:DOk Tryz.prog (Go.Ab.DD [(75,dP D_ze)]):=ya y4h.e <| ye _
theorem dn:type_of% (@D_ze.eq_1):=by and_intros<;>intros<;>rfl
theorem den (a0:(List Sector)) (a1:Int) (hp0:a1≤9223372036854775807):DenM Tryz.prog 76 [ownL 180 3 eSector a0,.int .i64 a1] (.int .i64 ((zg a0 a1).1)) [(ownL 180 3 eSector ((zg a0 a1).2)),.any]:=by
 generalize hR:zg a0 a1=r
 unfold zg at hR
 refine dj (gb:=[true,false]) Tryz.func76 Tryz.ntmps76 Tryz.results76 ?_
 intro c hL hc hk
 obtain⟨hL0,hL1,_⟩:=hL
 have hw0:a0.length<9223372036854775808:=Nat.lt_succ_of_le (yub hL0).1
 have hw1:∀ v∈a0,bwSector v:=fun v hv=>yr v ((yub hL0).2 v hv)
 clear hL0 hL1
 simp only[adEL,adE,adRL,adR,ownL,encL,sv,List.nil_append,List.append_nil,List.cons_append,List.length_cons,List.length_nil,pars,Nat.zero_add,Nat.reduceAdd]at hk ⊢
 iterate 2 refine rS ?_
 refine AWP.block ?_
 generalize hz1:yh (y3q a0 a1) (a0.length-0) 0 (a1,a0)=z1 at hR
 refine AWP.range (y3q a0 a1) (fun i1 s1=>⟨[(0,.ref 0 3 0 s1.2.length),(1,.int .i64 s1.1),(5,.int .i64 (i1:Int))],[.arr 180 3 s1.2.length (fun j=>eSector (s1.2.getD j default))]⟩) (fun i1 s1=>s1.2.length=a0.length∧s1.1≤9223372036854775807) (a0.length) 0 (a1,a0) [0] hz1 ot wt sm ?_
 clear hz1
 intro i1 s1 hi1 hW1 hz1
 refine rS ?_
 refine AWP.cond rfl (fun hb => ?_) (fun hb => ?_)
 ·have hlt1:i1<a0.length:=ot
  rw[yj hlt1]at hz1;simp only[y3q]at hz1
  iterate 7 refine rS ?_
  exact⟨_,[0],hlt1,by(exact mrg),hz1,sm⟩
 ·obtain rfl:i1=a0.length:=ot
  rw[yi (Nat.le_refl _)]at hz1;subst hz1;dsimp only at hR
  refine AWP.exit ?_;refine yd ?_
  refine rS ?_
  refine AWP.ret ?_
  subst hR
  exact es
end N76
def D_zg : List AV → Option (AV × List AV × List Prop)
 | [x0,x1]=>some (.int .i64 ((zg (rdL yn x0) (rdI x1)).1),[(ownL 180 3 eSector ((zg (rdL yn x0) (rdI x1)).2)),.any],[wO 180 3 eSector yn x0,wI .i64 x1,(rdI x1)≤9223372036854775807])
 | _=>none
theorem y5q:OkM Tryz.prog 76 D_zg:=by unfold D_zg;exact dm N76.den
end Go.Ab

namespace Go.Ab
open Go Go.Proofs
theorem y0c (a:List Int) (k:Int) (h:k≤9223372036854775807):(za a k).1≤9223372036854775807:=by
 unfold za
 obtain⟨t,h1,h2⟩:=yib (b:=ydr a k) (fun _ s=>s.1≤9223372036854775807) (k:=a.length-0) (i:=0) (s:=(k,a)) h (by
  intro j u _ _ h
  exact⟨_,rfl,y7c _⟩)
 rw[h1]
 exact h2
theorem yhb (a:List Sector) (k:Int) (h:k≤9223372036854775807):(zg a k).1≤9223372036854775807:=by
 unfold zg
 obtain⟨t,h1,h2⟩:=yib (b:=y3q a k) (fun _ s=>s.1≤9223372036854775807) (k:=a.length-0) (i:=0) (s:=(k,a)) h (by
  intro j u _ _ h
  exact⟨_,rfl,y7c _⟩)
 rw[h1]
 exact h2
theorem y9 (a:List Sector) (k:Int):(zg a k).2.length=a.length:=by
 unfold zg
 obtain⟨t,h1,h2⟩:=yib (b:=y3q a k) (fun _ s=>s.2.length=a.length) (k:=a.length-0) (i:=0) (s:=(k,a)) rfl (by
  intro j u _ _ h
  exact⟨_,rfl,by simpa using h⟩)
 rw[h1]
 exact h2
theorem yfb (a:List Sector) (k:Int):subL (zg a k).2 0 a.length=(zg a k).2:=by
 rw[← y9 a k];exact y8c _
end Go.Ab

namespace Go.Ab
open Go Go.Proofs
def y1q (a0:(List Int)) (a1:Int) (i1:Nat) (s1:Int):Except (Int) (Int):=
 (bif ((a0.getD i1 default) != s1)then .error (-1)else .ok (IntKind.wrap .i64 (s1+1)))
def zo (a0:(List Int)) (a1:Int):Int:=
 (match yh (y1q a0 a1) (a0.length-0) 0 a1 with|.error e=>e|.ok s1=>s1)
namespace N21
theorem DD:DOk Tryz.prog (Go.Ab.DD []):=ye _
theorem den (a0:(List Int)) (a1:Int)  : Den Tryz.prog 21 [encL 1 yp a0,.int .i64 a1] (.int .i64 (zo a0 a1)):=by
 generalize hR:zo a0 a1=r
 unfold zo at hR
 refine di Tryz.func21 Tryz.ntmps21 Tryz.results21 ?_
 intro c hL hc hk
 obtain⟨hL0,hL1,_⟩:=hL
 have hw0:a0.length<9223372036854775808:=Nat.lt_succ_of_le (yb hL0).1
 clear hL0 hL1
 simp only[pars,Nat.zero_add]
 iterate 2 refine rS ?_
 refine AWP.block ?_
 generalize hz1:yh (y1q a0 a1) (a0.length-0) 0 a1=z1 at hR
 refine AWP.range (y1q a0 a1) (fun i1 s1=>⟨[(0,encL 1 yp a0),(1,.int .i64 s1),(5,.int .i64 (i1:Int))],[]⟩) (fun i1 s1=>True) (a0.length) 0 a1 [] hz1 ot wt sm ?_
 clear hz1
 intro i1 s1 hi1 hW1 hz1
 refine rS ?_
 refine AWP.cond rfl (fun hb => ?_) (fun hb => ?_)
 ·have hlt1:i1<a0.length:=ot
  rw[yj hlt1]at hz1;simp only[y1q]at hz1
  refine rS ?_
  refine AWP.cond rfl (fun hb => ?_) (fun hb => ?_)
  ·simp only[hb,cond_true]at hz1
   refine rS ?_
   refine AWP.ret ?_
   subst hz1
   dsimp only at hR
   subst hR
   exact es
  ·simp only[hb,cond_false]at hz1
   iterate 2 refine rS ?_
   exact⟨_,[],hlt1,wt,hz1,sm⟩
 ·obtain rfl:i1=a0.length:=ot
  rw[yi (Nat.le_refl _)]at hz1;subst hz1;dsimp only at hR
  refine AWP.exit ?_;refine yd ?_
  refine rS ?_
  refine AWP.ret ?_
  subst hR
  exact es
end N21
def D_zo : DF
 | [x0,x1]=>some (.int .i64 (zo (rdL ylb x0) (rdI x1)),false,[wL 1 yp ylb x0,wI .i64 x1])
 | _=>none
theorem ylv:OkD Tryz.prog 21 D_zo:=by unfold D_zo;exact dk N21.den
end Go.Ab

namespace Go.Ab
open Go Go.Proofs
def yer (a0:(List Sector)) (a1:Int) (i1:Nat) (s1:Int):Except (Int) (Int):=
 (bif (((a0.getD i1 default).From) != s1)then .error (-1)else(bif (((a0.getD i1 default).To) != (IntKind.wrap .i64 (s1+1)))then .error (-1)else(bif (((a0.getD i1 default).Color) != (ze (IntKind.wrap .i64 ((IntKind.wrap .i64 (s1+1))+1))))then .error (-1)else .ok (IntKind.wrap .i64 ((IntKind.wrap .i64 ((IntKind.wrap .i64 (s1+1))+1))+1)))))
def zz (a0:(List Sector)) (a1:Int):Int:=
 (match yh (yer a0 a1) (a0.length-0) 0 a1 with|.error e=>e|.ok s1=>s1)
namespace N83
theorem DD:DOk Tryz.prog (Go.Ab.DD [(75,dP D_ze)]):=ya y4h.e <| ye _
theorem dn:type_of% (@D_ze.eq_1):=by and_intros<;>intros<;>rfl
theorem den (a0:(List Sector)) (a1:Int) (hp0:a1≤9223372036854775807):Den Tryz.prog 83 [encL 3 eSector a0,.int .i64 a1] (.int .i64 (zz a0 a1)):=by
 generalize hR:zz a0 a1=r
 unfold zz at hR
 refine di Tryz.func83 Tryz.ntmps83 Tryz.results83 ?_
 intro c hL hc hk
 obtain⟨hL0,hL1,_⟩:=hL
 have hw0:a0.length<9223372036854775808:=Nat.lt_succ_of_le (yb hL0).1
 have hw1:∀ v∈a0,bwSector v:=fun v hv=>yr v ((yb hL0).2 v hv)
 clear hL0 hL1
 simp only[pars,Nat.zero_add]
 iterate 2 refine rS ?_
 refine AWP.block ?_
 generalize hz1:yh (yer a0 a1) (a0.length-0) 0 a1=z1 at hR
 refine AWP.range (yer a0 a1) (fun i1 s1=>⟨[(0,encL 3 eSector a0),(1,.int .i64 s1),(5,.int .i64 (i1:Int))],[]⟩) (fun i1 s1=>s1≤9223372036854775807) (a0.length) 0 a1 [] hz1 ot wt sm ?_
 clear hz1
 intro i1 s1 hi1 hW1 hz1
 refine rS ?_
 refine AWP.cond rfl (fun hb => ?_) (fun hb => ?_)
 ·have hlt1:i1<a0.length:=ot
  rw[yj hlt1]at hz1;simp only[yer]at hz1
  refine rS ?_
  refine AWP.cond rfl (fun hb => ?_) (fun hb => ?_)
  ·simp only[hb,cond_true]at hz1
   refine rS ?_
   refine AWP.ret ?_
   subst hz1
   dsimp only at hR
   subst hR
   exact es
  ·simp only[hb,cond_false]at hz1
   iterate 2 refine rS ?_
   refine AWP.cond rfl (fun hb => ?_) (fun hb => ?_)
   ·simp only[hb,cond_true]at hz1
    refine rS ?_
    refine AWP.ret ?_
    subst hz1
    dsimp only at hR
    subst hR
    exact es
   ·simp only[hb,cond_false]at hz1
    refine rS ?_
    refine rD 7 ?_
    refine AWP.cond rfl (fun hb => ?_) (fun hb => ?_)
    ·simp only[hb,cond_true]at hz1
     refine rS ?_
     refine AWP.ret ?_
     subst hz1
     dsimp only at hR
     subst hR
     exact es
    ·simp only[hb,cond_false]at hz1
     iterate 2 refine rS ?_
     exact⟨_,[],hlt1,by(exact mrg),hz1,sm⟩
 ·obtain rfl:i1=a0.length:=ot
  rw[yi (Nat.le_refl _)]at hz1;subst hz1;dsimp only at hR
  refine AWP.exit ?_;refine yd ?_
  refine rS ?_
  refine AWP.ret ?_
  subst hR
  exact es
end N83
def D_zz : DF
 | [x0,x1]=>some (.int .i64 (zz (rdL yn x0) (rdI x1)),false,[wL 3 eSector yn x0,wI .i64 x1,(rdI x1)≤9223372036854775807])
 | _=>none
theorem yqv:OkD Tryz.prog 83 D_zz:=by unfold D_zz;exact dk N83.den
end Go.Ab

namespace Go.Ab
open Go Go.Proofs
theorem yjl {ρ σ : Type} {b : Nat → σ → Except ρ σ} (P : σ → Prop) (Q : ρ → Prop) (h : ∀ j u, P u → (∀ e, b j u = .error e → Q e) ∧ (∀ v, b j u = .ok v → P v)) : ∀ (k i : Nat) (s : σ), P s → (∀ e, yh b k i s = .error e → Q e) ∧ (∀ v, yh b k i s = .ok v → P v)
 | 0,i,s,hs=>⟨fun e he=>by simp[yh]at he,fun v hv=>by simp only[yh,Except.ok.injEq]at hv;subst hv;exact hs⟩
 | k+1,i,s,hs=>by
  have h0:=h i s hs
  simp only[yh]
  cases hb:b i s with
  | error r=>exact⟨fun e he=>by cases he;exact h0.1 _ hb,fun v hv=>by cases hv⟩
  | ok t=>exact yjl P Q h k (i+1) t (h0.2 _ hb)
theorem ygv {b:Nat→Int→Except Int Int} (h:∀ j u,u≤9223372036854775807→(∀ e,b j u=.error e→e≤9223372036854775807)∧(∀ v,b j u=.ok v→v≤9223372036854775807)) (k i:Nat) (s:Int) (hs:s≤9223372036854775807) :
  (match yh b k i s with|.error e=>e|.ok v=>v)≤9223372036854775807:=by
 have:=yjl (fun x=>x≤9223372036854775807) (fun x=>x≤9223372036854775807) h k i s hs
 cases hl:yh b k i s with
 | error e=>exact this.1 _ hl
 | ok v=>exact this.2 _ hl
theorem yqh (a:List Int) (k:Int) (h:k≤9223372036854775807):zo a k≤9223372036854775807:=by
 unfold zo
 refine ygv (fun j u hu => ?_) _ _ _ h
 simp only[y1q,Bool.cond_eq_ite]
 (repeat' split)<;>refine⟨fun e he => ?_,fun v hv => ?_⟩<;>first|(cases he<;>first|exact y7c _|decide)|(cases hv<;>first|exact y7c _|decide)
theorem yhg (a:List Sector) (k:Int) (h:k≤9223372036854775807):zz a k≤9223372036854775807:=by
 unfold zz
 refine ygv (fun j u hu => ?_) _ _ _ h
 simp only[yer,Bool.cond_eq_ite]
 (repeat' split)<;>refine⟨fun e he => ?_,fun v hv => ?_⟩<;>first|(cases he<;>first|exact y7c _|decide)|(cases hv<;>first|exact y7c _|decide)
end Go.Ab

namespace Go.Ab
open Go Go.Proofs
def ybf (v:Int):Int:=v
theorem ycd (a:List Int) (k:Int):(za a k).2.length=a.length:=by
 unfold za
 obtain⟨t,h1,h2⟩:=yib (b:=ydr a k) (fun _ s=>s.2.length=a.length) (k:=a.length-0) (i:=0) (s:=(k,a)) rfl (by
  intro j u _ _ h
  exact⟨_,rfl,by simpa using h⟩)
 rw[h1]
 exact h2
theorem ydg (a:List Int) (k:Int):subL (za a k).2 0 a.length=(za a k).2:=by
 rw[← ycd a k];exact y8c _
theorem y43 (a:List Int) (k:Int) (h0:0≤k) (h1:k+1 * a.length<4611686018427387904):za a k=(k+1 * a.length,(List.range a.length).map (fun j:Nat=>ybf (k+1 * j))):=by
 unfold za
 obtain⟨t,q1,q2,q3,q4⟩:=yib (b:=ydr a k) (fun i s=>s.1=k+1 * i∧s.2.length=a.length∧∀ j,j<i→s.2.getD j default=ybf (k+1 * j)) (k:=a.length-0) (i:=0) (s:=(k,a)) ⟨by simp,rfl,by intro j hj;omega⟩ (by
  intro j u _ hj ⟨h2,h3,h4⟩
  have w1:∀ m:Int,0≤m→m<4611686018427387904→IntKind.wrap .i64 (m+1)=m+1:=by intro m _ _;rw[IntKind.wrap_i64];omega
  have w0:∀ m:Int,0≤m→m<4611686018427387904→IntKind.wrap .i64 m=m:=by intro m _ _;rw[IntKind.wrap_i64];omega
  refine⟨_,rfl,?_,?_,?_⟩
  ·simp only[h2,IntKind.wrap_i64];omega
  ·simpa using h3
  ·intro q hq
   simp only
   rw[yff]
   by_cases h:q=j
   ·subst h
    rw[if_pos ⟨rfl,by omega⟩,h2]
    simp only[ybf]
    all_goals (try rw[Int.mk.injEq])
    all_goals (and_intros<;>first|rfl|trivial|(simp only[IntKind.wrap_i64];omega)|(congr 1;(simp only[IntKind.wrap_i64];omega)))
   ·rw[if_neg (fun hh=>h hh.1)]
    exact h4 q (by omega))
 rw[q1]
 simp only[Nat.zero_add,Nat.sub_zero]at q2 q4
 simp only[q2]
 congr 1
 apply yah
 ·simpa using q3
 ·intro i hi
  rw[q4 i (by omega)]
  simp[List.getD_eq_getElem?_getD]
  rw[List.getElem?_range (by omega)]
  rfl
theorem za_k (a:List Int) (k:Int) (h0:0≤k) (h1:k≤1152921504606846976) (hl:a.length<1099511627776):(za a k).1=k+1 * a.length:=by
 rw[y43 a k h0 (by omega)]
theorem yrw (a:List Int) (k:Int) (h0:0≤k) (hk:k≤1152921504606846976) (h1:a.length<1099511627776):zo (za a k).2 k=(za a k).1∧¬ (za a k).1<0:=by
 rw[y43 a k h0 (by omega)]
 refine⟨?_,by simp only;omega⟩
 simp only
 unfold zo
 obtain⟨t,q1,q2⟩:=yib (b:=y1q ((List.range a.length).map (fun j:Nat=>ybf (k+1 * j))) k) (fun i s=>s=k+1 * (i:Int)) (k:=((List.range a.length).map (fun j:Nat=>ybf (k+1 * j))).length-0) (i:=0) (s:=k) (by simp) (by
  intro j u _ hj h2
  have hj2:j<a.length:=by simpa using hj
  have hg:((List.range a.length).map (fun j:Nat=>ybf (k+1 * j))).getD j default=ybf (k+1 * j):=by
   simp[List.getD_eq_getElem?_getD,hj2]
  subst h2
  refine⟨k+1 * ((j+1:Nat):Int),?_,rfl⟩
  have e1:∀ m:Int,0≤m→m<4611686018427387904→(m+9223372036854775808) % 18446744073709551616-9223372036854775808=m:=by intro m _ _;omega
  simp only[y1q]
  simp only[hg]
  simp only[ybf,IntKind.wrap_i64]
  (repeat rw[e1 _ (by omega) (by omega)])
  simp only[Int.add_assoc,Int.reduceAdd,bne_self_eq_false,cond_false,Except.ok.injEq]
  omega)
 rw[q1]
 simp only[q2]
 simp
end Go.Ab

namespace Go.Ab
open Go Go.Proofs
theorem wr1 {k:Int} (h0:0≤k) (h1:k<4611686018427387904):IntKind.wrap .i64 (k+1)=k+1:=by rw[IntKind.wrap_i64];omega
def y9b (x:Sector) (k:Int):Int×Sector:=
 (IntKind.wrap .i64 ((IntKind.wrap .i64 ((IntKind.wrap .i64 (k+1))+1))+1),{ From:=k,To:=IntKind.wrap .i64 (k+1),Color:=(ze (IntKind.wrap .i64 ((IntKind.wrap .i64 (k+1))+1))):Sector })
theorem yfi (x:Sector) (k:Int) (h0:0≤k) (h1:k≤2305843009213693952):(y9b x k).1=k+3:=by
 unfold y9b
 simp(disch:=omega) only[wr1]
 omega
theorem ymh (a:List Sector) (k:Int):zg a k=ywc y9b a k:=by
 unfold zg
 have:=yqf y9b (y3q a k) (fun i s=>rfl) a [] k
 simp only[List.length_nil,List.nil_append,Nat.sub_zero]at this ⊢
 rw[this]
theorem ytt : ∀ (a : List Sector) (k : Int), 0 ≤ k → k + 3 * a.length ≤ 2305843009213693952 → (ywc y9b a k).1 = k + 3 * a.length
 | [],k,_,_=>by simp[ywc]
 | x::a,k,h0,h1=>by
  simp only[List.length_cons]at h1 ⊢
  simp only[ywc]
  have hk:=yfi x k h0 (by omega)
  rw[ytt a _ (by omega) (by omega),hk]
  omega
theorem ync (a:List Sector) (k:Int) (h0:0≤k) (h1:k≤1152921504606846976) (hl:a.length≤1099511627776):(zg a k).1=k+3 * a.length:=by
 rw[ymh,ytt a k h0 (by omega)]
theorem y5e (a:List Sector) (k:Int) (h0:0≤k) (h1:k≤1152921504606846976) (hl:a.length≤1099511627776):zz (zg a k).2 k=(zg a k).1∧¬ (zg a k).1<0:=by
 refine⟨?_,by rw[ync a k h0 h1 hl];omega⟩
 rw[ymh]
 unfold zz
 rw[yyg,Nat.sub_zero]
 rw[y3f y9b (yer (ywc y9b a k).2 k) (fun _=>True) 3 2305843009213693952 (by omega) (fun x k _ g0 g1=>by rw[yfi x k g0 g1];omega) a 0 k (fun _ _=>trivial) h0 (by omega) (fun j x s _ g0 g1 g2=>by
  have e:(ywc y9b a k).2.getD (0+j) default=(y9b x s).2:=by rw[Nat.zero_add,List.getD_eq_getElem?_getD,g2];rfl
  simp only[yer,e]
  simp only[y9b,bne_self_eq_false,cond_false])]
end Go.Ab

namespace Go.Ab
open Go Go.Proofs
def ynk (a0:(List Aid)) (a1:Int) (i1:Nat) (s1:Int×List Aid):Except (Int×(List Aid)) (Int×List Aid):=
 .ok (IntKind.wrap .i64 (((zg ((s1.2.getD i1 default).Sectors) (IntKind.wrap .i64 ((IntKind.wrap .i64 ((IntKind.wrap .i64 (((za (((s1.2.getD i1 default).Light).Group) (IntKind.wrap .i64 ((IntKind.wrap .i64 ((IntKind.wrap .i64 ((IntKind.wrap .i64 ((IntKind.wrap .i64 ((IntKind.wrap .i64 ((IntKind.wrap .i64 ((IntKind.wrap .i64 ((IntKind.wrap .i64 ((IntKind.wrap .i64 (s1.1+1))+1))+1))+1))+1))+1))+1))+1))+1))+1))).1)+1))+1))+1))).1)+1),s1.2.set i1 ({ Number:=s1.1,Name:=(ze (IntKind.wrap .i64 (s1.1+1))),At:={ X:=IntKind.wrap .i64 ((IntKind.wrap .i64 (s1.1+1))+1),Y:=IntKind.wrap .i64 ((IntKind.wrap .i64 ((IntKind.wrap .i64 (s1.1+1))+1))+1):Point },Height:=IntKind.wrap .i64 ((IntKind.wrap .i64 ((IntKind.wrap .i64 ((IntKind.wrap .i64 (s1.1+1))+1))+1))+1),Mark:={ Kind:=IntKind.wrap .i64 ((IntKind.wrap .i64 ((IntKind.wrap .i64 ((IntKind.wrap .i64 ((IntKind.wrap .i64 (s1.1+1))+1))+1))+1))+1),Colors:=(ze (IntKind.wrap .i64 ((IntKind.wrap .i64 ((IntKind.wrap .i64 ((IntKind.wrap .i64 ((IntKind.wrap .i64 ((IntKind.wrap .i64 (s1.1+1))+1))+1))+1))+1))+1))),Shape:=(ze (IntKind.wrap .i64 ((IntKind.wrap .i64 ((IntKind.wrap .i64 ((IntKind.wrap .i64 ((IntKind.wrap .i64 ((IntKind.wrap .i64 ((IntKind.wrap .i64 (s1.1+1))+1))+1))+1))+1))+1))+1))),Topmark:=(ze (IntKind.wrap .i64 ((IntKind.wrap .i64 ((IntKind.wrap .i64 ((IntKind.wrap .i64 ((IntKind.wrap .i64 ((IntKind.wrap .i64 ((IntKind.wrap .i64 ((IntKind.wrap .i64 (s1.1+1))+1))+1))+1))+1))+1))+1))+1))):Mark },Light:={ Kind:=IntKind.wrap .i64 ((IntKind.wrap .i64 ((IntKind.wrap .i64 ((IntKind.wrap .i64 ((IntKind.wrap .i64 ((IntKind.wrap .i64 ((IntKind.wrap .i64 ((IntKind.wrap .i64 ((IntKind.wrap .i64 (s1.1+1))+1))+1))+1))+1))+1))+1))+1))+1),Group:=(za (((s1.2.getD i1 default).Light).Group) (IntKind.wrap .i64 ((IntKind.wrap .i64 ((IntKind.wrap .i64 ((IntKind.wrap .i64 ((IntKind.wrap .i64 ((IntKind.wrap .i64 ((IntKind.wrap .i64 ((IntKind.wrap .i64 ((IntKind.wrap .i64 ((IntKind.wrap .i64 (s1.1+1))+1))+1))+1))+1))+1))+1))+1))+1))+1))).2,Letter:=(ze ((za (((s1.2.getD i1 default).Light).Group) (IntKind.wrap .i64 ((IntKind.wrap .i64 ((IntKind.wrap .i64 ((IntKind.wrap .i64 ((IntKind.wrap .i64 ((IntKind.wrap .i64 ((IntKind.wrap .i64 ((IntKind.wrap .i64 ((IntKind.wrap .i64 ((IntKind.wrap .i64 (s1.1+1))+1))+1))+1))+1))+1))+1))+1))+1))+1))).1)),Colors:=(ze (IntKind.wrap .i64 (((za (((s1.2.getD i1 default).Light).Group) (IntKind.wrap .i64 ((IntKind.wrap .i64 ((IntKind.wrap .i64 ((IntKind.wrap .i64 ((IntKind.wrap .i64 ((IntKind.wrap .i64 ((IntKind.wrap .i64 ((IntKind.wrap .i64 ((IntKind.wrap .i64 ((IntKind.wrap .i64 (s1.1+1))+1))+1))+1))+1))+1))+1))+1))+1))+1))).1)+1))),Period:=IntKind.wrap .i64 ((IntKind.wrap .i64 (((za (((s1.2.getD i1 default).Light).Group) (IntKind.wrap .i64 ((IntKind.wrap .i64 ((IntKind.wrap .i64 ((IntKind.wrap .i64 ((IntKind.wrap .i64 ((IntKind.wrap .i64 ((IntKind.wrap .i64 ((IntKind.wrap .i64 ((IntKind.wrap .i64 ((IntKind.wrap .i64 (s1.1+1))+1))+1))+1))+1))+1))+1))+1))+1))+1))).1)+1))+1):Character },Sectors:=(zg ((s1.2.getD i1 default).Sectors) (IntKind.wrap .i64 ((IntKind.wrap .i64 ((IntKind.wrap .i64 (((za (((s1.2.getD i1 default).Light).Group) (IntKind.wrap .i64 ((IntKind.wrap .i64 ((IntKind.wrap .i64 ((IntKind.wrap .i64 ((IntKind.wrap .i64 ((IntKind.wrap .i64 ((IntKind.wrap .i64 ((IntKind.wrap .i64 ((IntKind.wrap .i64 ((IntKind.wrap .i64 (s1.1+1))+1))+1))+1))+1))+1))+1))+1))+1))+1))).1)+1))+1))+1))).2,Intensity:=((zg ((s1.2.getD i1 default).Sectors) (IntKind.wrap .i64 ((IntKind.wrap .i64 ((IntKind.wrap .i64 (((za (((s1.2.getD i1 default).Light).Group) (IntKind.wrap .i64 ((IntKind.wrap .i64 ((IntKind.wrap .i64 ((IntKind.wrap .i64 ((IntKind.wrap .i64 ((IntKind.wrap .i64 ((IntKind.wrap .i64 ((IntKind.wrap .i64 ((IntKind.wrap .i64 ((IntKind.wrap .i64 (s1.1+1))+1))+1))+1))+1))+1))+1))+1))+1))+1))).1)+1))+1))+1))).1):Aid }))
def zlb (a0:(List Aid)) (a1:Int):Int×(List Aid):=
 (match yh (ynk a0 a1) (a0.length-0) 0 (a1,a0)with|.error e=>e|.ok s1=>(s1.1,s1.2))
namespace N28
theorem DD:DOk Tryz.prog (Go.Ab.DD [(20,dM [true,false] D_za),(75,dP D_ze),(76,dM [true,false] D_zg)]):=ya yfq.e <| ya y4h.e <| ya y5q.e <| ye _
theorem dn:type_of% (And.intro @D_za.eq_1 <| And.intro @D_ze.eq_1 <| And.intro @D_zg.eq_1 <| And.intro @ydg <| @yfb):=And.intro @D_za.eq_1 <| And.intro @D_ze.eq_1 <| And.intro @D_zg.eq_1 <| And.intro @ydg <| @yfb
theorem ol:type_of% (And.intro @ycd <| @y9):=And.intro @ycd <| @y9
theorem gr {p:Prop} (h:p:=by(grind [ycd,yhb]);first|done|fail):p:=h
theorem o1 {p:Prop} (h:p:=by(first|(exact mrg)|(first|exact y0c _ _ (by exact mrg)|exact yhb _ _ (by exact mrg)|exact y0c _ _ (y7c _)|exact yhb _ _ (y7c _)));first|done|fail):p:=h
theorem o2 {p:Prop} (h:p:=by(first|(and_intros<;>first|rfl|decide|(rw[IntKind.wrap_i64];omega)|(simp only[List.length_set];(first|done|fail))|(intro j hj;by_cases hji:j=i1;(focus(subst hji;simp only[y3r hj,Nat.beq_refl,beq_self_eq_true,cond_true,ol];first|(first|done|fail)|rfl|(and_intros<;>rfl)));(simp only[yao hji,beqF hji,cond_false];first|(first|done|fail)|rfl|(and_intros<;>rfl)))));first|done|fail):p:=h
set_option maxHeartbeats 4000000 in
set_option maxRecDepth 20000 in
theorem den (a0:(List Aid)) (a1:Int) (hp0:a1≤9223372036854775807):DenD Tryz.prog 28 [ownL 63 16 ygb a0,.int .i64 a1] (.int .i64 ((zlb a0 a1).1)) [(ownL 63 16 ygb ((zlb a0 a1).2)),.any]:=by
 generalize hR:zlb a0 a1=r
 unfold zlb at hR
 refine y2h (gb:=[true,false]) G_ok Tryz.func28 (by kernel_rfl) rfl Tryz.ntmps28 (by rw[Tryz.results28]) (by simp) ?_
 intro c hdp hL hc hk
 obtain⟨hL0,hL1,_⟩:=hL
 have hw0:a0.length<9223372036854775808:=Nat.lt_succ_of_le (yub hL0).1
 have hw1:∀ v∈a0,bwAid v:=fun v hv=>y9i v ((yub hL0).2 v hv)
 clear hL0 hL1
 simp only[adEL,adE,adRL,adR,ownL,encL,sv,List.nil_append,List.append_nil,List.cons_append,List.length_cons,List.length_nil,pars,Nat.zero_add,Nat.reduceAdd]at hk ⊢
 iterate 2 refine rS ?_
 refine AWP.block ?_
 generalize hz1:yh (ynk a0 a1) (a0.length-0) 0 (a1,a0)=z1 at hR
 refine AWP.range (ynk a0 a1) (fun i1 s1=>⟨[(0,.ref 0 16 0 s1.2.length),(1,.int .i64 s1.1),(5,.int .i64 (i1:Int))],[.arr 63 16 s1.2.length (fun j=>ygb (s1.2.getD j default))]⟩) (fun i1 s1=>s1.2.length=a0.length∧s1.1≤9223372036854775807) (a0.length) 0 (a1,a0) [0] hz1 ot wt sm ?_
 clear hz1
 intro i1 s1 hi1 hW1 hz1
 refine rS ?_
 refine AWP.cond rfl (fun hb => ?_) (fun hb => ?_)
 ·have hlt1:i1<a0.length:=ot
  rw[yj hlt1]at hz1;simp only[ynk]at hz1
  iterate 4 refine rS ?_
  refine AWP.keepT [0,1,5] ?_;simp only[List.map,putL,dropL,Nat.beq_refl,cond_true,ea,absV,absVL,cput,gv,sv,dn,reduceCtorEq,reduceIte,Nat.reduceBEq,Nat.reduceAdd,Nat.reduceEqDiff,Nat.reduceLT,Nat.reduceLeDiff,Nat.reduceMul,Nat.reduceSub,BEq.rfl,beq_self_eq_true,Int.reduceToNat]
  iterate 5 refine rS ?_
  refine AWP.keepT [0,1,5] ?_;simp only[List.map,putL,dropL,Nat.beq_refl,cond_true,ea,absV,absVL,cput,gv,sv,dn,reduceCtorEq,reduceIte,Nat.reduceBEq,Nat.reduceAdd,Nat.reduceEqDiff,Nat.reduceLT,Nat.reduceLeDiff,Nat.reduceMul,Nat.reduceSub,BEq.rfl,beq_self_eq_true,Int.reduceToNat]
  iterate 5 refine rS ?_
  refine AWP.keepT [0,1,5] ?_;simp only[List.map,putL,dropL,Nat.beq_refl,cond_true,ea,absV,absVL,cput,gv,sv,dn,reduceCtorEq,reduceIte,Nat.reduceBEq,Nat.reduceAdd,Nat.reduceEqDiff,Nat.reduceLT,Nat.reduceLeDiff,Nat.reduceMul,Nat.reduceSub,BEq.rfl,beq_self_eq_true,Int.reduceToNat]
  iterate 5 refine rS ?_
  refine AWP.keepT [0,1,5] ?_;simp only[List.map,putL,dropL,Nat.beq_refl,cond_true,ea,absV,absVL,cput,gv,sv,dn,reduceCtorEq,reduceIte,Nat.reduceBEq,Nat.reduceAdd,Nat.reduceEqDiff,Nat.reduceLT,Nat.reduceLeDiff,Nat.reduceMul,Nat.reduceSub,BEq.rfl,beq_self_eq_true,Int.reduceToNat]
  refine rS ?_
  refine AWP.seq ?_
  refine AWP.openE rb 0 0 i1 10 rfl rfl ot (by simp only[putL,dropL,Nat.beq_refl,cond_true,ea,absV,absVL,cput,gv,sv,dn,reduceCtorEq,reduceIte,Nat.reduceBEq,Nat.reduceAdd,Nat.reduceEqDiff,Nat.reduceLT,Nat.reduceLeDiff,Nat.reduceMul,Nat.reduceSub,BEq.rfl,beq_self_eq_true,Int.reduceToNat];rfl) ?_;simp only[putL,dropL,Nat.beq_refl,cond_true,ea,absV,absVL,cput,gv,sv,dn,reduceCtorEq,reduceIte,Nat.reduceBEq,Nat.reduceAdd,Nat.reduceEqDiff,Nat.reduceLT,Nat.reduceLeDiff,Nat.reduceMul,Nat.reduceSub,BEq.rfl,beq_self_eq_true,Int.reduceToNat]
  refine rS ?_
  simp only[ol]
  refine AWP.closeE 0 0 i1 10 1 rfl rfl rfl (by decide) ot (by simp only[putL,dropL,Nat.beq_refl,cond_true,ea,absV,absVL,cput,gv,sv,dn,reduceCtorEq,reduceIte,Nat.reduceBEq,Nat.reduceAdd,Nat.reduceEqDiff,Nat.reduceLT,Nat.reduceLeDiff,Nat.reduceMul,Nat.reduceSub,BEq.rfl,beq_self_eq_true,Int.reduceToNat];rfl) (fun k hk=>by rfl) ?_;simp only[putL,dropL,Nat.beq_refl,cond_true,ea,absV,absVL,cput,gv,sv,dn,reduceCtorEq,reduceIte,Nat.reduceBEq,Nat.reduceAdd,Nat.reduceEqDiff,Nat.reduceLT,Nat.reduceLeDiff,Nat.reduceMul,Nat.reduceSub,BEq.rfl,beq_self_eq_true,Int.reduceToNat]
  iterate 3 refine rS ?_
  refine AWP.keepT [0,1,5] ?_;simp only[List.map,putL,dropL,Nat.beq_refl,cond_true,ea,absV,absVL,cput,gv,sv,dn,reduceCtorEq,reduceIte,Nat.reduceBEq,Nat.reduceAdd,Nat.reduceEqDiff,Nat.reduceLT,Nat.reduceLeDiff,Nat.reduceMul,Nat.reduceSub,BEq.rfl,beq_self_eq_true,Int.reduceToNat]
  iterate 3 refine rS ?_
  refine AWP.seq ?_
  refine AWP.openE rb 0 0 i1 14 rfl rfl ot (by simp only[putL,dropL,Nat.beq_refl,cond_true,ea,absV,absVL,cput,gv,sv,dn,reduceCtorEq,reduceIte,Nat.reduceBEq,Nat.reduceAdd,Nat.reduceEqDiff,Nat.reduceLT,Nat.reduceLeDiff,Nat.reduceMul,Nat.reduceSub,BEq.rfl,beq_self_eq_true,Int.reduceToNat];rfl) ?_;simp only[putL,dropL,Nat.beq_refl,cond_true,ea,absV,absVL,cput,gv,sv,dn,reduceCtorEq,reduceIte,Nat.reduceBEq,Nat.reduceAdd,Nat.reduceEqDiff,Nat.reduceLT,Nat.reduceLeDiff,Nat.reduceMul,Nat.reduceSub,BEq.rfl,beq_self_eq_true,Int.reduceToNat]
  refine rS ?_
  simp only[ol]
  refine AWP.closeE 0 0 i1 14 2 rfl rfl rfl (by decide) ot (by simp only[putL,dropL,Nat.beq_refl,cond_true,ea,absV,absVL,cput,gv,sv,dn,reduceCtorEq,reduceIte,Nat.reduceBEq,Nat.reduceAdd,Nat.reduceEqDiff,Nat.reduceLT,Nat.reduceLeDiff,Nat.reduceMul,Nat.reduceSub,BEq.rfl,beq_self_eq_true,Int.reduceToNat];rfl) (fun k hk=>by rfl) ?_;simp only[putL,dropL,Nat.beq_refl,cond_true,ea,absV,absVL,cput,gv,sv,dn,reduceCtorEq,reduceIte,Nat.reduceBEq,Nat.reduceAdd,Nat.reduceEqDiff,Nat.reduceLT,Nat.reduceLeDiff,Nat.reduceMul,Nat.reduceSub,BEq.rfl,beq_self_eq_true,Int.reduceToNat]
  refine rS ?_
  refine AWP.keepT [0,1,5] ?_;simp only[List.map,putL,dropL,Nat.beq_refl,cond_true,ea,absV,absVL,cput,gv,sv,dn,reduceCtorEq,reduceIte,Nat.reduceBEq,Nat.reduceAdd,Nat.reduceEqDiff,Nat.reduceLT,Nat.reduceLeDiff,Nat.reduceMul,Nat.reduceSub,BEq.rfl,beq_self_eq_true,Int.reduceToNat]
  iterate 2 refine rS ?_
  exact⟨_,[0],hlt1,by(exact mrg),hz1,sm⟩
 ·obtain rfl:i1=a0.length:=ot
  rw[yi (Nat.le_refl _)]at hz1;subst hz1;dsimp only at hR
  refine AWP.exit ?_;refine yd ?_
  refine rS ?_
  refine AWP.ret ?_
  subst hR
  exact es
end N28
end Go.Ab

namespace Go.Ab
open Go Go.Proofs
def ytk (a0:(List Aid)) (a1:Int) (i1:Nat) (s1:Int):Except (Int) (Int):=
 (bif (((a0.getD i1 default).Number) != s1)then .error (-1)else(bif (((a0.getD i1 default).Name) != (ze (IntKind.wrap .i64 (s1+1))))then .error (-1)else(bif ((((a0.getD i1 default).At).X) != (IntKind.wrap .i64 ((IntKind.wrap .i64 (s1+1))+1)))then .error (-1)else(bif ((((a0.getD i1 default).At).Y) != (IntKind.wrap .i64 ((IntKind.wrap .i64 ((IntKind.wrap .i64 (s1+1))+1))+1)))then .error (-1)else(bif (((a0.getD i1 default).Height) != (IntKind.wrap .i64 ((IntKind.wrap .i64 ((IntKind.wrap .i64 ((IntKind.wrap .i64 (s1+1))+1))+1))+1)))then .error (-1)else(bif ((((a0.getD i1 default).Mark).Kind) != (IntKind.wrap .i64 ((IntKind.wrap .i64 ((IntKind.wrap .i64 ((IntKind.wrap .i64 ((IntKind.wrap .i64 (s1+1))+1))+1))+1))+1)))then .error (-1)else(bif ((((a0.getD i1 default).Mark).Colors) != (ze (IntKind.wrap .i64 ((IntKind.wrap .i64 ((IntKind.wrap .i64 ((IntKind.wrap .i64 ((IntKind.wrap .i64 ((IntKind.wrap .i64 (s1+1))+1))+1))+1))+1))+1))))then .error (-1)else(bif ((((a0.getD i1 default).Mark).Shape) != (ze (IntKind.wrap .i64 ((IntKind.wrap .i64 ((IntKind.wrap .i64 ((IntKind.wrap .i64 ((IntKind.wrap .i64 ((IntKind.wrap .i64 ((IntKind.wrap .i64 (s1+1))+1))+1))+1))+1))+1))+1))))then .error (-1)else(bif ((((a0.getD i1 default).Mark).Topmark) != (ze (IntKind.wrap .i64 ((IntKind.wrap .i64 ((IntKind.wrap .i64 ((IntKind.wrap .i64 ((IntKind.wrap .i64 ((IntKind.wrap .i64 ((IntKind.wrap .i64 ((IntKind.wrap .i64 (s1+1))+1))+1))+1))+1))+1))+1))+1))))then .error (-1)else(bif ((((a0.getD i1 default).Light).Kind) != (IntKind.wrap .i64 ((IntKind.wrap .i64 ((IntKind.wrap .i64 ((IntKind.wrap .i64 ((IntKind.wrap .i64 ((IntKind.wrap .i64 ((IntKind.wrap .i64 ((IntKind.wrap .i64 ((IntKind.wrap .i64 (s1+1))+1))+1))+1))+1))+1))+1))+1))+1)))then .error (-1)else(bif decide ((zo (((a0.getD i1 default).Light).Group) (IntKind.wrap .i64 ((IntKind.wrap .i64 ((IntKind.wrap .i64 ((IntKind.wrap .i64 ((IntKind.wrap .i64 ((IntKind.wrap .i64 ((IntKind.wrap .i64 ((IntKind.wrap .i64 ((IntKind.wrap .i64 ((IntKind.wrap .i64 (s1+1))+1))+1))+1))+1))+1))+1))+1))+1))+1)))<0)then .error (-1)else(bif ((((a0.getD i1 default).Light).Letter) != (ze (zo (((a0.getD i1 default).Light).Group) (IntKind.wrap .i64 ((IntKind.wrap .i64 ((IntKind.wrap .i64 ((IntKind.wrap .i64 ((IntKind.wrap .i64 ((IntKind.wrap .i64 ((IntKind.wrap .i64 ((IntKind.wrap .i64 ((IntKind.wrap .i64 ((IntKind.wrap .i64 (s1+1))+1))+1))+1))+1))+1))+1))+1))+1))+1)))))then .error (-1)else(bif ((((a0.getD i1 default).Light).Colors) != (ze (IntKind.wrap .i64 ((zo (((a0.getD i1 default).Light).Group) (IntKind.wrap .i64 ((IntKind.wrap .i64 ((IntKind.wrap .i64 ((IntKind.wrap .i64 ((IntKind.wrap .i64 ((IntKind.wrap .i64 ((IntKind.wrap .i64 ((IntKind.wrap .i64 ((IntKind.wrap .i64 ((IntKind.wrap .i64 (s1+1))+1))+1))+1))+1))+1))+1))+1))+1))+1)))+1))))then .error (-1)else(bif ((((a0.getD i1 default).Light).Period) != (IntKind.wrap .i64 ((IntKind.wrap .i64 ((zo (((a0.getD i1 default).Light).Group) (IntKind.wrap .i64 ((IntKind.wrap .i64 ((IntKind.wrap .i64 ((IntKind.wrap .i64 ((IntKind.wrap .i64 ((IntKind.wrap .i64 ((IntKind.wrap .i64 ((IntKind.wrap .i64 ((IntKind.wrap .i64 ((IntKind.wrap .i64 (s1+1))+1))+1))+1))+1))+1))+1))+1))+1))+1)))+1))+1)))then .error (-1)else(bif decide ((zz ((a0.getD i1 default).Sectors) (IntKind.wrap .i64 ((IntKind.wrap .i64 ((IntKind.wrap .i64 ((zo (((a0.getD i1 default).Light).Group) (IntKind.wrap .i64 ((IntKind.wrap .i64 ((IntKind.wrap .i64 ((IntKind.wrap .i64 ((IntKind.wrap .i64 ((IntKind.wrap .i64 ((IntKind.wrap .i64 ((IntKind.wrap .i64 ((IntKind.wrap .i64 ((IntKind.wrap .i64 (s1+1))+1))+1))+1))+1))+1))+1))+1))+1))+1)))+1))+1))+1)))<0)then .error (-1)else(bif (((a0.getD i1 default).Intensity) != (zz ((a0.getD i1 default).Sectors) (IntKind.wrap .i64 ((IntKind.wrap .i64 ((IntKind.wrap .i64 ((zo (((a0.getD i1 default).Light).Group) (IntKind.wrap .i64 ((IntKind.wrap .i64 ((IntKind.wrap .i64 ((IntKind.wrap .i64 ((IntKind.wrap .i64 ((IntKind.wrap .i64 ((IntKind.wrap .i64 ((IntKind.wrap .i64 ((IntKind.wrap .i64 ((IntKind.wrap .i64 (s1+1))+1))+1))+1))+1))+1))+1))+1))+1))+1)))+1))+1))+1))))then .error (-1)else .ok (IntKind.wrap .i64 ((zz ((a0.getD i1 default).Sectors) (IntKind.wrap .i64 ((IntKind.wrap .i64 ((IntKind.wrap .i64 ((zo (((a0.getD i1 default).Light).Group) (IntKind.wrap .i64 ((IntKind.wrap .i64 ((IntKind.wrap .i64 ((IntKind.wrap .i64 ((IntKind.wrap .i64 ((IntKind.wrap .i64 ((IntKind.wrap .i64 ((IntKind.wrap .i64 ((IntKind.wrap .i64 ((IntKind.wrap .i64 (s1+1))+1))+1))+1))+1))+1))+1))+1))+1))+1)))+1))+1))+1)))+1))))))))))))))))))
def zwc (a0:(List Aid)) (a1:Int):Int:=
 (match yh (ytk a0 a1) (a0.length-0) 0 a1 with|.error e=>e|.ok s1=>s1)
namespace N37
theorem DD:DOk Tryz.prog (Go.Ab.DD [(21,dP D_zo),(75,dP D_ze),(83,dP D_zz)]):=ya ylv.e <| ya y4h.e <| ya yqv.e <| ye _
theorem dn:type_of% (And.intro @D_zo.eq_1 <| And.intro @D_ze.eq_1 <| And.intro @D_zz.eq_1 <| And.intro @ydg <| @yfb):=And.intro @D_zo.eq_1 <| And.intro @D_ze.eq_1 <| And.intro @D_zz.eq_1 <| And.intro @ydg <| @yfb
theorem ol:type_of% (And.intro @ycd <| @y9):=And.intro @ycd <| @y9
theorem gr {p:Prop} (h:p:=by(grind [ycd,yhb]);first|done|fail):p:=h
theorem o1 {p:Prop} (h:p:=by(first|(exact mrg)|(exact yqh _ _ (by exact mrg))|(exact yhg _ _ (by exact mrg)));first|done|fail):p:=h
set_option maxHeartbeats 4000000 in
set_option maxRecDepth 20000 in
theorem den (a0:(List Aid)) (a1:Int) (hp0:a1≤9223372036854775807):Den Tryz.prog 37 [encL 16 eAid a0,.int .i64 a1] (.int .i64 (zwc a0 a1)):=by
 generalize hR:zwc a0 a1=r
 unfold zwc at hR
 refine di Tryz.func37 Tryz.ntmps37 Tryz.results37 ?_
 intro c hL hc hk
 obtain⟨hL0,hL1,_⟩:=hL
 have hw0:a0.length<9223372036854775808:=Nat.lt_succ_of_le (yb hL0).1
 have hw1:∀ v∈a0,bwAid v:=fun v hv=>yt v ((yb hL0).2 v hv)
 clear hL0 hL1
 simp only[pars,Nat.zero_add]
 iterate 2 refine rS ?_
 refine AWP.block ?_
 generalize hz1:yh (ytk a0 a1) (a0.length-0) 0 a1=z1 at hR
 refine AWP.range (ytk a0 a1) (fun i1 s1=>⟨[(0,encL 16 eAid a0),(1,.int .i64 s1),(5,.int .i64 (i1:Int))],[]⟩) (fun i1 s1=>s1≤9223372036854775807) (a0.length) 0 a1 [] hz1 ot wt sm ?_
 clear hz1
 intro i1 s1 hi1 hW1 hz1
 refine rS ?_
 refine AWP.cond rfl (fun hb => ?_) (fun hb => ?_)
 ·have hlt1:i1<a0.length:=ot
  rw[yj hlt1]at hz1;simp only[ytk]at hz1
  refine rS ?_
  refine AWP.cond rfl (fun hb => ?_) (fun hb => ?_)
  ·simp only[hb,cond_true]at hz1
   refine rS ?_
   refine AWP.ret ?_
   subst hz1
   dsimp only at hR
   subst hR
   exact es
  ·simp only[hb,cond_false]at hz1
   refine rS ?_
   refine rD 7 ?_
   refine AWP.cond rfl (fun hb => ?_) (fun hb => ?_)
   ·simp only[hb,cond_true]at hz1
    refine rS ?_
    refine AWP.ret ?_
    subst hz1
    dsimp only at hR
    subst hR
    exact es
   ·simp only[hb,cond_false]at hz1
    iterate 2 refine rS ?_
    refine AWP.cond rfl (fun hb => ?_) (fun hb => ?_)
    ·simp only[hb,cond_true]at hz1
     refine rS ?_
     refine AWP.ret ?_
     subst hz1
     dsimp only at hR
     subst hR
     exact es
    ·simp only[hb,cond_false]at hz1
     iterate 2 refine rS ?_
     refine AWP.cond rfl (fun hb => ?_) (fun hb => ?_)
     ·simp only[hb,cond_true]at hz1
      refine rS ?_
      refine AWP.ret ?_
      subst hz1
      dsimp only at hR
      subst hR
      exact es
     ·simp only[hb,cond_false]at hz1
      iterate 2 refine rS ?_
      refine AWP.cond rfl (fun hb => ?_) (fun hb => ?_)
      ·simp only[hb,cond_true]at hz1
       refine rS ?_
       refine AWP.ret ?_
       subst hz1
       dsimp only at hR
       subst hR
       exact es
      ·simp only[hb,cond_false]at hz1
       iterate 2 refine rS ?_
       refine AWP.cond rfl (fun hb => ?_) (fun hb => ?_)
       ·simp only[hb,cond_true]at hz1
        refine rS ?_
        refine AWP.ret ?_
        subst hz1
        dsimp only at hR
        subst hR
        exact es
       ·simp only[hb,cond_false]at hz1
        refine rS ?_
        refine rD 9 ?_
        refine AWP.cond rfl (fun hb => ?_) (fun hb => ?_)
        ·simp only[hb,cond_true]at hz1
         refine rS ?_
         refine AWP.ret ?_
         subst hz1
         dsimp only at hR
         subst hR
         exact es
        ·simp only[hb,cond_false]at hz1
         refine rS ?_
         refine rD 9 ?_
         refine AWP.cond rfl (fun hb => ?_) (fun hb => ?_)
         ·simp only[hb,cond_true]at hz1
          refine rS ?_
          refine AWP.ret ?_
          subst hz1
          dsimp only at hR
          subst hR
          exact es
         ·simp only[hb,cond_false]at hz1
          refine rS ?_
          refine rD 9 ?_
          refine AWP.cond rfl (fun hb => ?_) (fun hb => ?_)
          ·simp only[hb,cond_true]at hz1
           refine rS ?_
           refine AWP.ret ?_
           subst hz1
           dsimp only at hR
           subst hR
           exact es
          ·simp only[hb,cond_false]at hz1
           iterate 2 refine rS ?_
           refine AWP.cond rfl (fun hb => ?_) (fun hb => ?_)
           ·simp only[hb,cond_true]at hz1
            refine rS ?_
            refine AWP.ret ?_
            subst hz1
            dsimp only at hR
            subst hR
            exact es
           ·simp only[hb,cond_false]at hz1
            iterate 3 refine rS ?_
            refine AWP.cond rfl (fun hb => ?_) (fun hb => ?_)
            ·simp only[hb,cond_true]at hz1
             refine rS ?_
             refine AWP.ret ?_
             subst hz1
             dsimp only at hR
             subst hR
             exact es
            ·simp only[hb,cond_false]at hz1
             refine rD 9 ?_
             refine AWP.cond rfl (fun hb => ?_) (fun hb => ?_)
             ·simp only[hb,cond_true]at hz1
              refine rS ?_
              refine AWP.ret ?_
              subst hz1
              dsimp only at hR
              subst hR
              exact es
             ·simp only[hb,cond_false]at hz1
              refine rS ?_
              refine rD 9 ?_
              refine AWP.cond rfl (fun hb => ?_) (fun hb => ?_)
              ·simp only[hb,cond_true]at hz1
               refine rS ?_
               refine AWP.ret ?_
               subst hz1
               dsimp only at hR
               subst hR
               exact es
              ·simp only[hb,cond_false]at hz1
               iterate 2 refine rS ?_
               refine AWP.cond rfl (fun hb => ?_) (fun hb => ?_)
               ·simp only[hb,cond_true]at hz1
                refine rS ?_
                refine AWP.ret ?_
                subst hz1
                dsimp only at hR
                subst hR
                exact es
               ·simp only[hb,cond_false]at hz1
                iterate 3 refine rS ?_
                refine AWP.cond rfl (fun hb => ?_) (fun hb => ?_)
                ·simp only[hb,cond_true]at hz1
                 refine rS ?_
                 refine AWP.ret ?_
                 subst hz1
                 dsimp only at hR
                 subst hR
                 exact es
                ·simp only[hb,cond_false]at hz1
                 refine rS ?_
                 refine AWP.cond rfl (fun hb => ?_) (fun hb => ?_)
                 ·simp only[hb,cond_true]at hz1
                  refine rS ?_
                  refine AWP.ret ?_
                  subst hz1
                  dsimp only at hR
                  subst hR
                  exact es
                 ·simp only[hb,cond_false]at hz1
                  iterate 2 refine rS ?_
                  exact⟨_,[],hlt1,by(exact mrg),hz1,sm⟩
 ·obtain rfl:i1=a0.length:=ot
  rw[yi (Nat.le_refl _)]at hz1;subst hz1;dsimp only at hR
  refine AWP.exit ?_;refine yd ?_
  refine rS ?_
  refine AWP.ret ?_
  subst hR
  exact es
end N37
def D_zwc : DF
 | [x0,x1]=>some (.int .i64 (zwc (rdL dAid x0) (rdI x1)),false,[wL 16 eAid dAid x0,wI .i64 x1,(rdI x1)≤9223372036854775807])
 | _=>none
theorem y3z:OkD Tryz.prog 37 D_zwc:=by unfold D_zwc;exact dk N37.den
end Go.Ab
