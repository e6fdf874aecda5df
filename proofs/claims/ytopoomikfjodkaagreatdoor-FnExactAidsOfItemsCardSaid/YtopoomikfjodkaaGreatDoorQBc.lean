/- A part of a proof: walks of functions and lemmas of our own. No conditions. -/
import Derived.Test.YtopoomikfjodkaaGreatDoorQAl
import Derived.Test.YtopoomikfjodkaaGreatDoorQBb
import Derived.Test.YtopoomikfjodkaaGreatDoorQAo
import Derived.Test.YtopoomikfjodkaaGreatDoorQAi
import Derived.Test.YtopoomikfjodkaaGreatDoorQBa
import Derived.Test.YtopoomikfjodkaaGreatDoorQAz
import Derived.Test.YtopoomikfjodkaaGreatDoorQAw
import Derived.Test.YtopoomikfjodkaaGreatDoorQAt
import Derived.Test.YtopoomikfjodkaaGreatDoorQAr
import Derived.Test.YtopoomikfjodkaaGreatDoorQAu
import Derived.Test.YtopoomikfjodkaaGreatDoorQAx
import Derived.Test.YtopoomikfjodkaaGreatDoorQAy
import Derived.Test.YtopoomikfjodkaaGreatDoorQAs
import Derived.Test.YtopoomikfjodkaaGreatDoorQAv
import Derived.Test.YtopoomikfjodkaaGreatDoorQAq
set_option linter.unusedSectionVars false
set_option linter.unusedVariables false
set_option linter.unusedSimpArgs false
set_option maxHeartbeats 1000000
namespace Go.Ab
open Go Go.Proofs
def y1l (a0:(List Int)) (a1:(List Int)) (i1:Nat) (s1:Unit):Except (Bool) (Unit):=
 (bif ((a0.getD i1 default) != (a1.getD i1 default))then .error false else .ok ())
def znd (a0:(List Int)) (a1:(List Int)):Bool:=
 (bif ((a0.length:Int) != (a1.length:Int))then false else(match yd (y1l a0 a1) (a0.length-0) 0 ()with|.error e=>e|.ok s1=>true))
namespace N220
theorem DD:DOk Tryz.prog (Go.Ab.DD []):=ye _
theorem den (a0:(List Int)) (a1:(List Int))  : Den Tryz.prog 220 [encL 1 yt a0,encL 1 yt a1] (.bool (znd a0 a1)):=by
 generalize hR:znd a0 a1=r
 unfold znd at hR
 refine di Tryz.func220 Tryz.ntmps220 Tryz.results220 ?_
 intro c hL hc hk
 obtain⟨hL0,hL1,_⟩:=hL
 have hw0:a0.length<9223372036854775808:=Nat.lt_succ_of_le (yf hL0).1
 have hw1:a1.length<9223372036854775808:=Nat.lt_succ_of_le (yf hL1).1
 clear hL0 hL1
 simp only[pars,Nat.zero_add]
 iterate 2 refine rS ?_
 refine AWP.cond rfl (fun hb => ?_) (fun hb => ?_)
 ·replace hR:=ct hR
  refine rS ?_
  refine AWP.ret ?_
  subst hR
  exact es
 ·replace hR:=cf hR
  refine rS ?_
  refine AWP.block ?_
  generalize hz1:yd (y1l a0 a1) (a0.length-0) 0 ()=z1 at hR
  refine AWP.range (y1l a0 a1) (fun i1 s1=>⟨[(0,encL 1 yt a0),(1,encL 1 yt a1),(5,.int .i64 (i1:Int))],[]⟩) (fun i1 s1=>True) (a0.length) 0 () [] hz1 ot wt sm ?_
  clear hz1
  intro i1 s1 hi1 hW1 hz1
  refine rS ?_
  refine AWP.cond rfl (fun hb => ?_) (fun hb => ?_)
  ·have hlt1:i1<a0.length:=ot
   rw[yh hlt1]at hz1;simp only[y1l]at hz1
   refine rD 8 ?_
   refine AWP.cond rfl (fun hb => ?_) (fun hb => ?_)
   ·simp only[hb,cond_true]at hz1
    refine rS ?_
    refine AWP.ret ?_
    subst hz1
    dsimp only at hR
    subst hR
    exact es
   ·simp only[hb,cond_false]at hz1
    refine rS ?_
    exact⟨_,[],hlt1,wt,hz1,sm⟩
  ·obtain rfl:i1=a0.length:=ot
   rw[yg (Nat.le_refl _)]at hz1;subst hz1;dsimp only at hR
   refine AWP.exit ?_;refine yb ?_
   refine rS ?_
   refine AWP.ret ?_
   subst hR
   exact es
end N220
def D_znd : DF
 | [x0,x1]=>some (.bool (znd (rdL y0b x0) (rdL y0b x1)),false,[wL 1 yt y0b x0,wL 1 yt y0b x1])
 | _=>none
theorem yo0:OkD Tryz.prog 220 D_znd:=by unfold D_znd;exact dk N220.den
end Go.Ab

namespace Go.Ab
open Go Go.Proofs
def zcf (a0:Character) (a1:Character):Bool:=
 (bif (a0.Kind != a1.Kind)then false else(bif (!(znd a0.Group a1.Group))then false else(bif (a0.Letter != a1.Letter)then false else(bif (a0.Colors != a1.Colors)then false else(bif (a0.Period != a1.Period)then false else true)))))
namespace N112
theorem DD:DOk Tryz.prog (Go.Ab.DD [(220,dP D_znd)]):=ya yo0.e <| ye _
theorem dn:type_of% (@D_znd.eq_1):=by and_intros<;>intros<;>rfl
theorem den (a0:Character) (a1:Character)  : Den Tryz.prog 112 [.agg (yi a0),.agg (yi a1)] (.bool (zcf a0 a1)):=by
 generalize hR:zcf a0 a1=r
 unfold zcf at hR
 refine di Tryz.func112 Tryz.ntmps112 Tryz.results112 ?_
 intro c hL hc hk
 obtain⟨hL0,hL1,_⟩:=hL
 have hw0:bwCharacter a0:=yp a0 hL0
 have hw1:bwCharacter a1:=yp a1 hL1
 clear hL0 hL1
 simp only[pars,Nat.zero_add]
 iterate 2 refine rS ?_
 refine AWP.cond rfl (fun hb => ?_) (fun hb => ?_)
 ·replace hR:=ct hR
  refine rS ?_
  refine AWP.ret ?_
  subst hR
  exact es
 ·replace hR:=cf hR
  refine rS ?_
  refine AWP.cond rfl (fun hb => ?_) (fun hb => ?_)
  ·replace hR:=ct hR
   refine rS ?_
   refine AWP.ret ?_
   subst hR
   exact es
  ·replace hR:=cf hR
   refine rS ?_
   refine AWP.cond rfl (fun hb => ?_) (fun hb => ?_)
   ·replace hR:=ct hR
    refine rS ?_
    refine AWP.ret ?_
    subst hR
    exact es
   ·replace hR:=cf hR
    refine rS ?_
    refine AWP.cond rfl (fun hb => ?_) (fun hb => ?_)
    ·replace hR:=ct hR
     refine rS ?_
     refine AWP.ret ?_
     subst hR
     exact es
    ·replace hR:=cf hR
     refine rS ?_
     refine AWP.cond rfl (fun hb => ?_) (fun hb => ?_)
     ·replace hR:=ct hR
      refine rS ?_
      refine AWP.ret ?_
      subst hR
      exact es
     ·replace hR:=cf hR
      refine rS ?_
      refine AWP.ret ?_
      subst hR
      exact es
end N112
def D_zcf : DF
 | [x0,x1]=>some (.bool (zcf (rdG yc x0) (rdG yc x1)),false,[wG yi yc x0,wG yi yc x1])
 | _=>none
theorem yt1:OkD Tryz.prog 112 D_zcf:=by unfold D_zcf;exact dk N112.den
end Go.Ab


namespace Go.Ab
open Go Go.Proofs
def yk2 (a0:Int) (s1:Int×List UInt8):Except (Sum ((List UInt8)) (Int×List UInt8)) (Int×List UInt8):=
 (bif decide (0<s1.1)then .ok (IntKind.wrap .i64 (s1.1.tdiv 10),(([IntKind.wrap .u8 (IntKind.wrap .i64 (48+(s1.1.tmod 10)))]:List Int).map fun z=>UInt8.ofNat z.toNat)++s1.2)else .error (.inr (s1.1,s1.2)))
def zq (a0:Int):(List UInt8):=
 (bif decide (a0≤0)then[109,48]else(match y7 (yk2 a0) (((a0).toNat)+1) (a0,[])with|.error (.inl e)=>e|.error (.inr s1)=>[109]++s1.2|.ok _=>default))
namespace N120
theorem DD:DOk Tryz.prog (Go.Ab.DD []):=ye _
theorem den (a0:Int) (hp0:a0≤9223372036854775807):Den Tryz.prog 120 [.int .i64 a0] (.str (zq a0)):=by
 generalize hR:zq a0=r
 unfold zq at hR
 refine di Tryz.func120 Tryz.ntmps120 Tryz.results120 ?_
 intro c hL hc hk
 clear hL
 simp only[pars,Nat.zero_add]
 iterate 2 refine rS ?_
 refine AWP.cond rfl (fun hb => ?_) (fun hb => ?_)
 ·replace hR:=ct hR
  refine rS ?_
  refine AWP.ret ?_
  subst hR
  exact es
 ·replace hR:=cf hR
  refine rS ?_
  refine AWP.seq ?_
  refine AWP.block ?_
  generalize hz1:y7 (yk2 a0) (((a0).toNat)+1) (a0,[])=z1 at hR
  refine AWP.whileW (yk2 a0) (fun s1=>⟨[(0,.int .i64 s1.1),(3,.str s1.2)],[]⟩) (fun s1=>0≤s1.1∧s1.2.length≤19∧s1.1 * 10 ^ s1.2.length≤a0) (fun s1=>(s1.1).toNat) (((a0).toNat)+1) (a0,[]) [] hz1 m0 (by(refine⟨by have:=of_decide_eq_false hb;simp only;omega,by simp,by simp⟩)) sm ?_
  clear hz1
  intro s1 k1 hW1 hm1 hz1
  simp only[yk2]at hz1
  refine rS ?_
  refine AWP.cond rfl (fun hb => ?_) (fun hb => ?_)
  ·simp only[hb,cond_true]at hz1
   iterate 2 refine rS ?_
   exact⟨_,[],by(exact Nat.lt_of_lt_of_le (digd hW1 hb hp0) (Nat.le_of_lt_succ hm1)),by(exact digw rfl hW1 hb hp0),hz1,sm⟩
  ·simp only[hb,cond_false]at hz1
   refine AWP.exit ?_
   refine yb ?_
   subst hz1;dsimp only at hR
   refine rS ?_
   refine AWP.ret ?_
   subst hR
   exact es
end N120
def D_zq : DF
 | [x0]=>some (.str (zq (rdI x0)),false,[wI .i64 x0,(rdI x0)≤9223372036854775807])
 | _=>none
theorem yfk:OkD Tryz.prog 120 D_zq:=by unfold D_zq;exact dk N120.den
end Go.Ab

namespace Go.Ab
open Go Go.Proofs
def ykk (a0:(List Sector)) (a1:Int) (i1:Nat) (s1:Int×List Sector):Except (Int×(List Sector)) (Int×List Sector):=
 .ok (IntKind.wrap .i64 ((IntKind.wrap .i64 ((IntKind.wrap .i64 (s1.1+1))+1))+1),s1.2.set i1 ({ From:=s1.1,To:=IntKind.wrap .i64 (s1.1+1),Color:=(zq (IntKind.wrap .i64 ((IntKind.wrap .i64 (s1.1+1))+1))):Sector }))
def zeb (a0:(List Sector)) (a1:Int):Int×(List Sector):=
 (match yd (ykk a0 a1) (a0.length-0) 0 (a1,a0)with|.error e=>e|.ok s1=>(s1.1,s1.2))
namespace N122
theorem DD:DOk Tryz.prog (Go.Ab.DD [(120,dP D_zq)]):=ya yfk.e <| ye _
theorem dn:type_of% (@D_zq.eq_1):=by and_intros<;>intros<;>rfl
theorem den (a0:(List Sector)) (a1:Int) (hp0:a1≤9223372036854775807):DenM Tryz.prog 122 [ownL 188 3 ym a0,.int .i64 a1] (.int .i64 ((zeb a0 a1).1)) [(ownL 188 3 ym ((zeb a0 a1).2)),.any]:=by
 generalize hR:zeb a0 a1=r
 unfold zeb at hR
 refine dj (gb:=[true,false]) Tryz.func122 Tryz.ntmps122 Tryz.results122 ?_
 intro c hL hc hk
 obtain⟨hL0,hL1,_⟩:=hL
 have hw0:a0.length<9223372036854775808:=Nat.lt_succ_of_le (yac hL0).1
 have hw1:∀ v∈a0,bwSector v:=fun v hv=>yw v ((yac hL0).2 v hv)
 clear hL0 hL1
 simp only[adEL,adE,adRL,adR,ownL,encL,sv,List.nil_append,List.append_nil,List.cons_append,List.length_cons,List.length_nil,pars,Nat.zero_add,Nat.reduceAdd]at hk ⊢
 iterate 2 refine rS ?_
 refine AWP.block ?_
 generalize hz1:yd (ykk a0 a1) (a0.length-0) 0 (a1,a0)=z1 at hR
 refine AWP.range (ykk a0 a1) (fun i1 s1=>⟨[(0,.ref 0 3 0 s1.2.length),(1,.int .i64 s1.1),(5,.int .i64 (i1:Int))],[.arr 188 3 s1.2.length (fun j=>ym (s1.2.getD j default))]⟩) (fun i1 s1=>s1.2.length=a0.length∧s1.1≤9223372036854775807) (a0.length) 0 (a1,a0) [0] hz1 ot wt sm ?_
 clear hz1
 intro i1 s1 hi1 hW1 hz1
 refine rS ?_
 refine AWP.cond rfl (fun hb => ?_) (fun hb => ?_)
 ·have hlt1:i1<a0.length:=ot
  rw[yh hlt1]at hz1;simp only[ykk]at hz1
  iterate 7 refine rS ?_
  exact⟨_,[0],hlt1,by(exact mrg),hz1,sm⟩
 ·obtain rfl:i1=a0.length:=ot
  rw[yg (Nat.le_refl _)]at hz1;subst hz1;dsimp only at hR
  refine AWP.exit ?_;refine yb ?_
  refine rS ?_
  refine AWP.ret ?_
  subst hR
  exact es
end N122
def D_zeb : List AV → Option (AV × List AV × List Prop)
 | [x0,x1]=>some (.int .i64 ((zeb (rdL yq x0) (rdI x1)).1),[(ownL 188 3 ym ((zeb (rdL yq x0) (rdI x1)).2)),.any],[wO 188 3 ym yq x0,wI .i64 x1,(rdI x1)≤9223372036854775807])
 | _=>none
theorem yo2:OkM Tryz.prog 122 D_zeb:=by unfold D_zeb;exact dm N122.den
end Go.Ab

namespace Go.Ab
open Go Go.Proofs
theorem ypg (a:List Int) (k:Int) (h:k≤9223372036854775807):(zn a k).1≤9223372036854775807:=by
 unfold zn
 obtain⟨t,h1,h2⟩:=yu (b:=y3r a k) (fun _ s=>s.1≤9223372036854775807) (k:=a.length-0) (i:=0) (s:=(k,a)) h (by
  intro j u _ _ h
  exact⟨_,rfl,yxd _⟩)
 rw[h1]
 exact h2
theorem yvc (a:List Sector) (k:Int) (h:k≤9223372036854775807):(zeb a k).1≤9223372036854775807:=by
 unfold zeb
 obtain⟨t,h1,h2⟩:=yu (b:=ykk a k) (fun _ s=>s.1≤9223372036854775807) (k:=a.length-0) (i:=0) (s:=(k,a)) h (by
  intro j u _ _ h
  exact⟨_,rfl,yxd _⟩)
 rw[h1]
 exact h2
theorem y2b (a:List Sector) (k:Int):(zeb a k).2.length=a.length:=by
 unfold zeb
 obtain⟨t,h1,h2⟩:=yu (b:=ykk a k) (fun _ s=>s.2.length=a.length) (k:=a.length-0) (i:=0) (s:=(k,a)) rfl (by
  intro j u _ _ h
  exact⟨_,rfl,by simpa using h⟩)
 rw[h1]
 exact h2
theorem ymc (a:List Sector) (k:Int):subL (zeb a k).2 0 a.length=(zeb a k).2:=by
 rw[← y2b a k];exact yyf _
end Go.Ab

namespace Go.Ab
open Go Go.Proofs
def yok (a0:(List Sector)) (a1:Int) (i1:Nat) (s1:Int):Except (Int) (Int):=
 (bif (((a0.getD i1 default).From) != s1)then .error (-1)else(bif (((a0.getD i1 default).To) != (IntKind.wrap .i64 (s1+1)))then .error (-1)else(bif (((a0.getD i1 default).Color) != (zq (IntKind.wrap .i64 ((IntKind.wrap .i64 (s1+1))+1))))then .error (-1)else .ok (IntKind.wrap .i64 ((IntKind.wrap .i64 ((IntKind.wrap .i64 (s1+1))+1))+1)))))
def znc (a0:(List Sector)) (a1:Int):Int:=
 (match yd (yok a0 a1) (a0.length-0) 0 a1 with|.error e=>e|.ok s1=>s1)
namespace N141
theorem DD:DOk Tryz.prog (Go.Ab.DD [(120,dP D_zq)]):=ya yfk.e <| ye _
theorem dn:type_of% (@D_zq.eq_1):=by and_intros<;>intros<;>rfl
theorem den (a0:(List Sector)) (a1:Int) (hp0:a1≤9223372036854775807):Den Tryz.prog 141 [encL 3 ym a0,.int .i64 a1] (.int .i64 (znc a0 a1)):=by
 generalize hR:znc a0 a1=r
 unfold znc at hR
 refine di Tryz.func141 Tryz.ntmps141 Tryz.results141 ?_
 intro c hL hc hk
 obtain⟨hL0,hL1,_⟩:=hL
 have hw0:a0.length<9223372036854775808:=Nat.lt_succ_of_le (yf hL0).1
 have hw1:∀ v∈a0,bwSector v:=fun v hv=>yw v ((yf hL0).2 v hv)
 clear hL0 hL1
 simp only[pars,Nat.zero_add]
 iterate 2 refine rS ?_
 refine AWP.block ?_
 generalize hz1:yd (yok a0 a1) (a0.length-0) 0 a1=z1 at hR
 refine AWP.range (yok a0 a1) (fun i1 s1=>⟨[(0,encL 3 ym a0),(1,.int .i64 s1),(5,.int .i64 (i1:Int))],[]⟩) (fun i1 s1=>s1≤9223372036854775807) (a0.length) 0 a1 [] hz1 ot wt sm ?_
 clear hz1
 intro i1 s1 hi1 hW1 hz1
 refine rS ?_
 refine AWP.cond rfl (fun hb => ?_) (fun hb => ?_)
 ·have hlt1:i1<a0.length:=ot
  rw[yh hlt1]at hz1;simp only[yok]at hz1
  refine rS ?_
  refine AWP.cond rfl (fun hb => ?_) (fun hb => ?_)
  ·simp only[hb,cond_true]at hz1
   refine rS ?_
   refine AWP.ret ?_
   subst hz1
   dsimp only at hR
   subst hR
   exact es
  ·simp only[hb,cond_false]at hz1
   iterate 2 refine rS ?_
   refine AWP.cond rfl (fun hb => ?_) (fun hb => ?_)
   ·simp only[hb,cond_true]at hz1
    refine rS ?_
    refine AWP.ret ?_
    subst hz1
    dsimp only at hR
    subst hR
    exact es
   ·simp only[hb,cond_false]at hz1
    refine rS ?_
    refine rD 7 ?_
    refine AWP.cond rfl (fun hb => ?_) (fun hb => ?_)
    ·simp only[hb,cond_true]at hz1
     refine rS ?_
     refine AWP.ret ?_
     subst hz1
     dsimp only at hR
     subst hR
     exact es
    ·simp only[hb,cond_false]at hz1
     iterate 2 refine rS ?_
     exact⟨_,[],hlt1,by(exact mrg),hz1,sm⟩
 ·obtain rfl:i1=a0.length:=ot
  rw[yg (Nat.le_refl _)]at hz1;subst hz1;dsimp only at hR
  refine AWP.exit ?_;refine yb ?_
  refine rS ?_
  refine AWP.ret ?_
  subst hR
  exact es
end N141
def D_znc : DF
 | [x0,x1]=>some (.int .i64 (znc (rdL yq x0) (rdI x1)),false,[wL 3 ym yq x0,wI .i64 x1,(rdI x1)≤9223372036854775807])
 | _=>none
theorem yv2:OkD Tryz.prog 141 D_znc:=by unfold D_znc;exact dk N141.den
end Go.Ab

namespace Go.Ab
open Go Go.Proofs
theorem yql {ρ σ : Type} {b : Nat → σ → Except ρ σ} (P : σ → Prop) (Q : ρ → Prop) (h : ∀ j u, P u → (∀ e, b j u = .error e → Q e) ∧ (∀ v, b j u = .ok v → P v)) : ∀ (k i : Nat) (s : σ), P s → (∀ e, yd b k i s = .error e → Q e) ∧ (∀ v, yd b k i s = .ok v → P v)
 | 0,i,s,hs=>⟨fun e he=>by simp[yd]at he,fun v hv=>by simp only[yd,Except.ok.injEq]at hv;subst hv;exact hs⟩
 | k+1,i,s,hs=>by
  have h0:=h i s hs
  simp only[yd]
  cases hb:b i s with
  | error r=>exact⟨fun e he=>by cases he;exact h0.1 _ hb,fun v hv=>by cases hv⟩
  | ok t=>exact yql P Q h k (i+1) t (h0.2 _ hb)
theorem y7x {b:Nat→Int→Except Int Int} (h:∀ j u,u≤9223372036854775807→(∀ e,b j u=.error e→e≤9223372036854775807)∧(∀ v,b j u=.ok v→v≤9223372036854775807)) (k i:Nat) (s:Int) (hs:s≤9223372036854775807) :
  (match yd b k i s with|.error e=>e|.ok v=>v)≤9223372036854775807:=by
 have:=yql (fun x=>x≤9223372036854775807) (fun x=>x≤9223372036854775807) h k i s hs
 cases hl:yd b k i s with
 | error e=>exact this.1 _ hl
 | ok v=>exact this.2 _ hl
theorem yxm (a:List Int) (k:Int) (h:k≤9223372036854775807):zpb a k≤9223372036854775807:=by
 unfold zpb
 refine y7x (fun j u hu => ?_) _ _ _ h
 simp only[ypk,Bool.cond_eq_ite]
 (repeat' split)<;>refine⟨fun e he => ?_,fun v hv => ?_⟩<;>first|(cases he<;>first|exact yxd _|decide)|(cases hv<;>first|exact yxd _|decide)
theorem ygl (a:List Sector) (k:Int) (h:k≤9223372036854775807):znc a k≤9223372036854775807:=by
 unfold znc
 refine y7x (fun j u hu => ?_) _ _ _ h
 simp only[yok,Bool.cond_eq_ite]
 (repeat' split)<;>refine⟨fun e he => ?_,fun v hv => ?_⟩<;>first|(cases he<;>first|exact yxd _|decide)|(cases hv<;>first|exact yxd _|decide)
end Go.Ab

namespace Go.Ab
open Go Go.Proofs
theorem wr1 {k:Int} (h0:0≤k) (h1:k<4611686018427387904):IntKind.wrap .i64 (k+1)=k+1:=by rw[IntKind.wrap_i64];omega
def yub (x:Sector) (k:Int):Int×Sector:=
 (IntKind.wrap .i64 ((IntKind.wrap .i64 ((IntKind.wrap .i64 (k+1))+1))+1),{ From:=k,To:=IntKind.wrap .i64 (k+1),Color:=(zq (IntKind.wrap .i64 ((IntKind.wrap .i64 (k+1))+1))):Sector })
theorem yhi (x:Sector) (k:Int) (h0:0≤k) (h1:k≤2305843009213693952):(yub x k).1=k+3:=by
 unfold yub
 simp(disch:=omega) only[wr1]
 omega
theorem y6g (a:List Sector) (k:Int):zeb a k=yrc yub a k:=by
 unfold zeb
 have:=ybi yub (ykk a k) (fun i s=>rfl) a [] k
 simp only[List.length_nil,List.nil_append,Nat.sub_zero]at this ⊢
 rw[this]
theorem yxs : ∀ (a : List Sector) (k : Int), 0 ≤ k → k + 3 * a.length ≤ 2305843009213693952 → (yrc yub a k).1 = k + 3 * a.length
 | [],k,_,_=>by simp[yrc]
 | x::a,k,h0,h1=>by
  simp only[List.length_cons]at h1 ⊢
  simp only[yrc]
  have hk:=yhi x k h0 (by omega)
  rw[yxs a _ (by omega) (by omega),hk]
  omega
theorem yke (a:List Sector) (k:Int) (h0:0≤k) (h1:k≤1152921504606846976) (hl:a.length≤1099511627776):(zeb a k).1=k+3 * a.length:=by
 rw[y6g,yxs a k h0 (by omega)]
theorem ywi (a:List Sector) (k:Int) (h0:0≤k) (h1:k≤1152921504606846976) (hl:a.length≤1099511627776):znc (zeb a k).2 k=(zeb a k).1∧¬ (zeb a k).1<0:=by
 refine⟨?_,by rw[yke a k h0 h1 hl];omega⟩
 rw[y6g]
 unfold znc
 rw[yyj,Nat.sub_zero]
 rw[yvh yub (yok (yrc yub a k).2 k) (fun _=>True) 3 2305843009213693952 (by omega) (fun x k _ g0 g1=>by rw[yhi x k g0 g1];omega) a 0 k (fun _ _=>trivial) h0 (by omega) (fun j x s _ g0 g1 g2=>by
  have e:(yrc yub a k).2.getD (0+j) default=(yub x s).2:=by rw[Nat.zero_add,List.getD_eq_getElem?_getD,g2];rfl
  simp only[yok,e]
  simp only[yub,bne_self_eq_false,cond_false])]
end Go.Ab






namespace Go.Ab
open Go Go.Proofs
theorem yp6 (w:List UInt8) (hw:w.length≤1048576):bdMark (zmc w).1:=by
 cases e:(zmc w).2 with
 | true=>
  have h:=ytg (m:=(zmc w).1) (yx5.r2 w hw e).1
  exact⟨Nat.lt_of_le_of_lt h.2.2.1 (by decide),Nat.lt_of_le_of_lt h.2.2.2.1 (by decide),Nat.lt_of_le_of_lt h.2.2.2.2 (by decide)⟩
 | false=>rw[yx5.r3 w hw e];decide
theorem yx7 {l:List Sector} (h:zr l=true):l.length<1099511627776∧∀ v∈l,bdSector v:=by
 have hr:=yog h
 refine⟨Nat.lt_of_le_of_lt hr.1 (by decide),fun v hv => ?_⟩
 obtain⟨i,hi,e⟩:=List.getElem_of_mem hv
 have h9:=(hr.2 i).2.2.2.2
 rw[List.getD_eq_getElem?_getD,List.getElem?_eq_getElem hi,Option.getD_some,e]at h9
 exact Nat.lt_of_le_of_lt h9 (by decide)
theorem y06 (w:List UInt8) (hw:w.length≤1048576):(zib w).1.length<1099511627776∧∀ v∈(zib w).1,bdSector v:=by
 cases e:(zib w).2 with
 | true=>exact yx7 (yq5.r2 w hw e).1
 | false=>rw[yq5.r3 w hw e];exact⟨by decide,by simp⟩
theorem y36 {c:Character} (h:zw c=true):bdCharacter c:=by
 have hf:=y6b c h
 have hg:=(y0c c h).1
 have hc:=y2l h
 have hl:c.Letter.length≤1:=by
  by_cases h8:c.Kind=8
  ·rw[(yam c hf h8).2.1];exact Nat.le_refl _
  ·by_cases hL:c.Letter=[]
   ·rw[hL];simp
   ·rw[(ytx c hf h8 hL).1];simp
 exact⟨Nat.lt_of_le_of_lt hg (by decide),Nat.lt_of_le_of_lt hl (by decide),Nat.lt_of_le_of_lt hc (by decide)⟩
theorem y47 (w:List UInt8):bdCharacter (zsc w).1:=by
 rcases y3g w with h|⟨c,h1,_,h3⟩
 ·rw[h];decide
 ·rw[h3];exact y36 h1
end Go.Ab

namespace Go.Ab
open Go Go.Proofs
def zke (a0:(List UInt8)):(Aid×Bool):=
 (bif (((zd a0 [47]).length:Int) != 8)then({ Number:=0,Name:=[],At:={ X:=0,Y:=0:Point },Height:=0,Mark:={ Kind:=0,Colors:=[],Shape:=[],Topmark:=[]:Mark },Light:={ Kind:=0,Group:=[],Letter:=[],Colors:=[],Period:=0:Character },Sectors:=[],Intensity:=0:Aid },false)else(bif (((zd a0 [47]).getD 5 default) == [45])then(bif ((!(((zk ((zd a0 [47]).getD 0 default)).2) == true && (((zud ((zd a0 [47]).getD 2 default)).2) == true && (((zk ((zd a0 [47]).getD 3 default)).2) == true && (((zmc ((zd a0 [47]).getD 4 default)).2) == true && (true == true && (((zib ((zd a0 [47]).getD 6 default)).2) == true && ((zk ((zd a0 [47]).getD 7 default)).2) == true))))))) || ((zre ({ Number:=(zk ((zd a0 [47]).getD 0 default)).1,Name:=((zd a0 [47]).getD 1 default),At:=(zud ((zd a0 [47]).getD 2 default)).1,Height:=(zk ((zd a0 [47]).getD 3 default)).1,Mark:=(zmc ((zd a0 [47]).getD 4 default)).1,Light:=(zsc ((zd a0 [47]).getD 5 default)).1,Sectors:=(zib ((zd a0 [47]).getD 6 default)).1,Intensity:=(zk ((zd a0 [47]).getD 7 default)).1:Aid })) != a0))then({ Number:=0,Name:=[],At:={ X:=0,Y:=0:Point },Height:=0,Mark:={ Kind:=0,Colors:=[],Shape:=[],Topmark:=[]:Mark },Light:={ Kind:=0,Group:=[],Letter:=[],Colors:=[],Period:=0:Character },Sectors:=[],Intensity:=0:Aid },false)else({ Number:=(zk ((zd a0 [47]).getD 0 default)).1,Name:=((zd a0 [47]).getD 1 default),At:=(zud ((zd a0 [47]).getD 2 default)).1,Height:=(zk ((zd a0 [47]).getD 3 default)).1,Mark:=(zmc ((zd a0 [47]).getD 4 default)).1,Light:=(zsc ((zd a0 [47]).getD 5 default)).1,Sectors:=(zib ((zd a0 [47]).getD 6 default)).1,Intensity:=(zk ((zd a0 [47]).getD 7 default)).1:Aid },true))else(bif ((!(((zk ((zd a0 [47]).getD 0 default)).2) == true && (((zud ((zd a0 [47]).getD 2 default)).2) == true && (((zk ((zd a0 [47]).getD 3 default)).2) == true && (((zmc ((zd a0 [47]).getD 4 default)).2) == true && (((zsc ((zd a0 [47]).getD 5 default)).2) == true && (((zib ((zd a0 [47]).getD 6 default)).2) == true && ((zk ((zd a0 [47]).getD 7 default)).2) == true))))))) || ((zre ({ Number:=(zk ((zd a0 [47]).getD 0 default)).1,Name:=((zd a0 [47]).getD 1 default),At:=(zud ((zd a0 [47]).getD 2 default)).1,Height:=(zk ((zd a0 [47]).getD 3 default)).1,Mark:=(zmc ((zd a0 [47]).getD 4 default)).1,Light:=(zsc ((zd a0 [47]).getD 5 default)).1,Sectors:=(zib ((zd a0 [47]).getD 6 default)).1,Intensity:=(zk ((zd a0 [47]).getD 7 default)).1:Aid })) != a0))then({ Number:=0,Name:=[],At:={ X:=0,Y:=0:Point },Height:=0,Mark:={ Kind:=0,Colors:=[],Shape:=[],Topmark:=[]:Mark },Light:={ Kind:=0,Group:=[],Letter:=[],Colors:=[],Period:=0:Character },Sectors:=[],Intensity:=0:Aid },false)else({ Number:=(zk ((zd a0 [47]).getD 0 default)).1,Name:=((zd a0 [47]).getD 1 default),At:=(zud ((zd a0 [47]).getD 2 default)).1,Height:=(zk ((zd a0 [47]).getD 3 default)).1,Mark:=(zmc ((zd a0 [47]).getD 4 default)).1,Light:=(zsc ((zd a0 [47]).getD 5 default)).1,Sectors:=(zib ((zd a0 [47]).getD 6 default)).1,Intensity:=(zk ((zd a0 [47]).getD 7 default)).1:Aid },true))))
namespace N54
theorem DD:DOk Tryz.prog (Go.Ab.DD [(135,dP D_zd),(136,dP D_zk),(137,dP D_zud),(138,dP D_zib),(15,dP D_zmc),(32,dP D_zre),(89,dP D_zsc)]):=ya yun.e <| ya yfj.e <| ya yj0.e <| ya yqz.e <| ya y4z.e <| ya yj2.e <| ya y12.e <| ye _
theorem dn:type_of% (And.intro @D_zd.eq_1 <| And.intro @D_zk.eq_1 <| And.intro @D_zud.eq_1 <| And.intro @D_zib.eq_1 <| And.intro @D_zmc.eq_1 <| And.intro @D_zre.eq_1 <| @D_zsc.eq_1):=by and_intros<;>intros<;>rfl
set_option maxHeartbeats 4000000 in
set_option maxRecDepth 20000 in
theorem den (a0:(List UInt8)) (hb0:a0.length<1099511627776) (hp0:a0.length≤1048576):Den Tryz.prog 54 [.str a0] (.tup [.agg (y0e ((zke a0).1)),.bool ((zke a0).2)]):=by
 generalize hR:zke a0=r
 unfold zke at hR
 refine di Tryz.func54 Tryz.ntmps54 Tryz.results54 ?_
 intro c hL hc hk
 obtain⟨hL0,_⟩:=hL
 have hw0:a0.length<9223372036854775808:=Nat.lt_succ_of_le hL0
 clear hL0
 simp only[pars,Nat.zero_add]
 have e1:=fun i=>ylu a0 47 i
 have s0_:=e1 0
 have s1_:=e1 1
 have s2_:=e1 2
 have s3_:=e1 3
 have s4_:=e1 4
 have s5_:=e1 5
 have s6_:=e1 6
 have s7_:=e1 7
 have b4:=yp6 ((zd a0 [47]).getD 4 default) (by omega)
 have b5:=y47 ((zd a0 [47]).getD 5 default)
 have b6:=y06 ((zd a0 [47]).getD 6 default) (by omega)
 have b61:=b6.1
 have b62:=b6.2
 iterate 3 refine rS ?_
 refine AWP.cond rfl (fun hb => ?_) (fun hb => ?_)
 ·replace hR:=ct hR
  refine rS ?_
  refine AWP.ret ?_
  subst hR
  exact es
 ·replace hR:=cf hR
  iterate 10 refine rS ?_
  refine AWP.cond rfl (fun hb => ?_) (fun hb => ?_)
  ·replace hR:=ct hR
   iterate 2 refine rS ?_
   refine AWP.cond rfl (fun hb => ?_) (fun hb => ?_)
   ·replace hR:=ct hR
    refine rS ?_
    refine AWP.ret ?_
    subst hR
    exact es
   ·replace hR:=cf hR
    refine rS ?_
    refine AWP.ret ?_
    subst hR
    exact es
  ·replace hR:=cf hR
   refine rS ?_
   refine AWP.cond rfl (fun hb => ?_) (fun hb => ?_)
   ·replace hR:=ct hR
    refine rS ?_
    refine AWP.ret ?_
    subst hR
    exact es
   ·replace hR:=cf hR
    refine rS ?_
    refine AWP.ret ?_
    subst hR
    exact es
end N54
def D_zke : DF
 | [x0]=>some (.tup [.agg (y0e ((zke (rdS x0)).1)),.bool ((zke (rdS x0)).2)],false,[wS x0,(rdS x0).length<1099511627776,(rdS x0).length≤1048576])
 | _=>none
theorem yo3:OkD Tryz.prog 54 D_zke:=by unfold D_zke;exact dk N54.den
end Go.Ab

namespace Go.Ab
open Go Go.Proofs
theorem yp4 (w:List UInt8) (hw:w.length≤1048576):bdMark (zec w).1:=by rw[← yoo w hw];exact yp6 w hw
theorem y93 (w:List UInt8) (hw:w.length≤1048576):(zab w).1.length<1099511627776∧∀ v∈(zab w).1,bdSector v:=by rw[← yzq w hw];exact y06 w hw
theorem yt4 (w:List UInt8) (hw:w.length≤1048576):bdCharacter (zyc w).1:=by rw[← yns w hw];exact y47 w
end Go.Ab

namespace Go.Ab
open Go Go.Proofs
def zzc (a0:(List UInt8)):(Aid×Bool):=
 (bif (((za a0 47).length:Int) != 8)then({ Number:=0,Name:=[],At:={ X:=0,Y:=0:Point },Height:=0,Mark:={ Kind:=0,Colors:=[],Shape:=[],Topmark:=[]:Mark },Light:={ Kind:=0,Group:=[],Letter:=[],Colors:=[],Period:=0:Character },Sectors:=[],Intensity:=0:Aid },false)else(bif ((((((!((zg ((za a0 47).getD 0 default)).2)) || (!((zsb ((za a0 47).getD 2 default)).2))) || (!((zg ((za a0 47).getD 3 default)).2))) || (!((zec ((za a0 47).getD 4 default)).2))) || (!((zab ((za a0 47).getD 6 default)).2))) || (!((zg ((za a0 47).getD 7 default)).2)))then({ Number:=0,Name:=[],At:={ X:=0,Y:=0:Point },Height:=0,Mark:={ Kind:=0,Colors:=[],Shape:=[],Topmark:=[]:Mark },Light:={ Kind:=0,Group:=[],Letter:=[],Colors:=[],Period:=0:Character },Sectors:=[],Intensity:=0:Aid },false)else(bif (((za a0 47).getD 5 default) != [45])then(bif (!((zyc ((za a0 47).getD 5 default)).2))then({ Number:=0,Name:=[],At:={ X:=0,Y:=0:Point },Height:=0,Mark:={ Kind:=0,Colors:=[],Shape:=[],Topmark:=[]:Mark },Light:={ Kind:=0,Group:=[],Letter:=[],Colors:=[],Period:=0:Character },Sectors:=[],Intensity:=0:Aid },false)else(bif (!(zdc ({ Number:=(zg ((za a0 47).getD 0 default)).1,Name:=((za a0 47).getD 1 default),At:=(zsb ((za a0 47).getD 2 default)).1,Height:=(zg ((za a0 47).getD 3 default)).1,Mark:=(zec ((za a0 47).getD 4 default)).1,Light:=(zyc ((za a0 47).getD 5 default)).1,Sectors:=(zab ((za a0 47).getD 6 default)).1,Intensity:=(zg ((za a0 47).getD 7 default)).1:Aid })))then({ Number:=0,Name:=[],At:={ X:=0,Y:=0:Point },Height:=0,Mark:={ Kind:=0,Colors:=[],Shape:=[],Topmark:=[]:Mark },Light:={ Kind:=0,Group:=[],Letter:=[],Colors:=[],Period:=0:Character },Sectors:=[],Intensity:=0:Aid },false)else({ Number:=(zg ((za a0 47).getD 0 default)).1,Name:=((za a0 47).getD 1 default),At:=(zsb ((za a0 47).getD 2 default)).1,Height:=(zg ((za a0 47).getD 3 default)).1,Mark:=(zec ((za a0 47).getD 4 default)).1,Light:=(zyc ((za a0 47).getD 5 default)).1,Sectors:=(zab ((za a0 47).getD 6 default)).1,Intensity:=(zg ((za a0 47).getD 7 default)).1:Aid },true)))else(bif (!(zdc ({ Number:=(zg ((za a0 47).getD 0 default)).1,Name:=((za a0 47).getD 1 default),At:=(zsb ((za a0 47).getD 2 default)).1,Height:=(zg ((za a0 47).getD 3 default)).1,Mark:=(zec ((za a0 47).getD 4 default)).1,Light:={ Kind:=0,Group:=[],Letter:=[],Colors:=[],Period:=0:Character },Sectors:=(zab ((za a0 47).getD 6 default)).1,Intensity:=(zg ((za a0 47).getD 7 default)).1:Aid })))then({ Number:=0,Name:=[],At:={ X:=0,Y:=0:Point },Height:=0,Mark:={ Kind:=0,Colors:=[],Shape:=[],Topmark:=[]:Mark },Light:={ Kind:=0,Group:=[],Letter:=[],Colors:=[],Period:=0:Character },Sectors:=[],Intensity:=0:Aid },false)else({ Number:=(zg ((za a0 47).getD 0 default)).1,Name:=((za a0 47).getD 1 default),At:=(zsb ((za a0 47).getD 2 default)).1,Height:=(zg ((za a0 47).getD 3 default)).1,Mark:=(zec ((za a0 47).getD 4 default)).1,Light:={ Kind:=0,Group:=[],Letter:=[],Colors:=[],Period:=0:Character },Sectors:=(zab ((za a0 47).getD 6 default)).1,Intensity:=(zg ((za a0 47).getD 7 default)).1:Aid },true)))))
namespace N134
theorem DD:DOk Tryz.prog (Go.Ab.DD [(165,dP D_za),(168,dP D_zg),(230,dP D_zsb),(231,dP D_zec),(232,dP D_zab),(233,dP D_zyc),(98,dP D_zdc)]):=ya yxh.e <| ya y0m.e <| ya yu0.e <| ya ytz.e <| ya y01.e <| ya yu1.e <| ya yn0.e <| ye _
theorem dn:type_of% (And.intro @D_za.eq_1 <| And.intro @D_zg.eq_1 <| And.intro @D_zsb.eq_1 <| And.intro @D_zec.eq_1 <| And.intro @D_zab.eq_1 <| And.intro @D_zyc.eq_1 <| @D_zdc.eq_1):=by and_intros<;>intros<;>rfl
theorem gr {p:Prop} (h:p:=by(grind [y3,yec]);first|done|fail):p:=h
set_option maxHeartbeats 4000000 in
set_option maxRecDepth 20000 in
theorem den (a0:(List UInt8)) (hb0:a0.length<1099511627776) (hp0:a0.length≤1048576):Den Tryz.prog 134 [.str a0] (.tup [.agg (y0e ((zzc a0).1)),.bool ((zzc a0).2)]):=by
 generalize hR:zzc a0=r
 unfold zzc at hR
 refine di Tryz.func134 Tryz.ntmps134 Tryz.results134 ?_
 intro c hL hc hk
 obtain⟨hL0,_⟩:=hL
 have hw0:a0.length<9223372036854775808:=Nat.lt_succ_of_le hL0
 clear hL0
 simp only[pars,Nat.zero_add]
 have e1:=fun i=>yud a0 47 47 rfl (by omega) i
 have s0_:=e1 0
 have s1_:=e1 1
 have s2_:=e1 2
 have s3_:=e1 3
 have s4_:=e1 4
 have s5_:=e1 5
 have s6_:=e1 6
 have s7_:=e1 7
 have b4:=yp4 ((za a0 47).getD 4 default) (by omega)
 have b5:=yt4 ((za a0 47).getD 5 default) (by omega)
 have b6:=y93 ((za a0 47).getD 6 default) (by omega)
 have b61:=b6.1
 have b62:=b6.2
 iterate 3 refine rS ?_
 refine AWP.cond rfl (fun hb => ?_) (fun hb => ?_)
 ·replace hR:=ct hR
  refine rS ?_
  refine AWP.ret ?_
  subst hR
  exact es
 ·replace hR:=cf hR
  iterate 8 refine rS ?_
  refine AWP.cond rfl (fun hb => ?_) (fun hb => ?_)
  ·replace hR:=ct hR
   refine rS ?_
   refine AWP.ret ?_
   subst hR
   exact es
  ·replace hR:=cf hR
   iterate 7 refine rS ?_
   refine AWP.cond rfl (fun hb => ?_) (fun hb => ?_)
   ·replace hR:=ct hR
    iterate 2 refine rS ?_
    refine AWP.cond rfl (fun hb => ?_) (fun hb => ?_)
    ·replace hR:=ct hR
     refine rS ?_
     refine AWP.ret ?_
     subst hR
     exact es
    ·replace hR:=cf hR
     iterate 2 refine rS ?_
     refine AWP.cond rfl (fun hb => ?_) (fun hb => ?_)
     ·replace hR:=ct hR
      refine rS ?_
      refine AWP.ret ?_
      subst hR
      exact es
     ·replace hR:=cf hR
      refine rS ?_
      refine AWP.ret ?_
      subst hR
      exact es
   ·replace hR:=cf hR
    refine rS ?_
    refine AWP.cond rfl (fun hb => ?_) (fun hb => ?_)
    ·replace hR:=ct hR
     refine rS ?_
     refine AWP.ret ?_
     subst hR
     exact es
    ·replace hR:=cf hR
     refine rS ?_
     refine AWP.ret ?_
     subst hR
     exact es
end N134
def D_zzc : DF
 | [x0]=>some (.tup [.agg (y0e ((zzc (rdS x0)).1)),.bool ((zzc (rdS x0)).2)],false,[wS x0,(rdS x0).length<1099511627776,(rdS x0).length≤1048576])
 | _=>none
theorem yuz:OkD Tryz.prog 134 D_zzc:=by unfold D_zzc;exact dk N134.den
end Go.Ab

namespace Go.Ab
open Go Go.Proofs
abbrev zAid:Aid:={ Number:=0,Name:=[],At:={ X:=0,Y:=0:Point },Height:=0,Mark:={ Kind:=0,Colors:=[],Shape:=[],Topmark:=[]:Mark },Light:={ Kind:=0,Group:=[],Letter:=[],Colors:=[],Period:=0:Character },Sectors:=[],Intensity:=0 }
abbrev zChr:Character:={ Kind:=0,Group:=[],Letter:=[],Colors:=[],Period:=0 }
theorem ya1:zsc [45]=(zChr,false):=by decide +kernel
theorem yd8 {α:Type} (l:List α) (h:l.length=8):∃ a b c d e f g k,l=[a,b,c,d,e,f,g,k]:=by
 match l,h with
 | [a,b,c,d,e,f,g,k],_=>exact⟨a,b,c,d,e,f,g,k,rfl⟩
theorem y22 {s w0 w1 w2 w3 w4 w5 w6 w7 : List UInt8} (hs : s.length ≤ 1048576) (hw : yn 47 s = [w0, w1, w2, w3, w4, w5, w6, w7]) (c : Character) (f0 : (zg w0).2 = true) (f2 : (zsb w2).2 = true) (f3 : (zg w3).2 = true)
  (f4:(zec w4).2=true) (f6:(zab w6).2=true) (f7:(zg w7).2=true) (hc:(w5=[45]∧c=zChr)∨(zob c=true∧zfb c=w5∧c.Colors.length<9223372036854775808)) :
  (zre ({ Number:=(zg w0).1,Name:=w1,At:=(zsb w2).1,Height:=(zg w3).1,Mark:=(zec w4).1,Light:=c,Sectors:=(zab w6).1,Intensity:=(zg w7).1:Aid }) != s) = !(zdc ({ Number:=(zg w0).1,Name:=w1,At:=(zsb w2).1,Height:=(zg w3).1,Mark:=(zec w4).1,Light:=c,Sectors:=(zab w6).1,Intensity:=(zg w7).1:Aid })):=by
 have hj:=y8d 47 s
 have hl:=(y5 47 s).2
 rw[hw]at hj hl
 have hx:∀ x∈[w0,w1,w2,w3,w4,w5,w6,w7],x.length≤1048576:=fun x h=>by have:=hl x h;omega
 have q2:=y7r w2 (hx w2 (by simp)) f2
 have q4:=yl7.r2 w4 (hx w4 (by simp)) f4
 have q6:=yq6.r2 w6 (hx w6 (by simp)) f6
 have hcol:c.Colors.length<9223372036854775808:=by
  rcases hc with⟨_,e⟩|⟨_,_,e⟩
  ·rw[e];decide
  ·exact e
 generalize ha:({ Number:=(zg w0).1,Name:=w1,At:=(zsb w2).1,Height:=(zg w3).1,Mark:=(zec w4).1,Light:=c,Sectors:=(zab w6).1,Intensity:=(zg w7).1:Aid })=a
 have e1:a.Number=(zg w0).1:=by rw[← ha]
 have e2:a.Name=w1:=by rw[← ha]
 have e3:a.At=(zsb w2).1:=by rw[← ha]
 have e4:a.Height=(zg w3).1:=by rw[← ha]
 have e5:a.Mark=(zec w4).1:=by rw[← ha]
 have e6:a.Light=c:=by rw[← ha]
 have e7:a.Sectors=(zab w6).1:=by rw[← ha]
 have e8:a.Intensity=(zg w7).1:=by rw[← ha]
 have hsl:a.Sectors.length<9223372036854775807:=by rw[e7];have:=(yse q6.1).1;omega
 have hcl:a.Light.Colors.length<9223372036854775808:=by rw[e6];exact hcol
 cases h:zdc a with
 | false=>
  have:zre a=[]:=by unfold zre;rw[yjg a hcl hsl,h];rfl
  rw[this,Bool.not_false,bne_iff_ne]
  intro e
  rw[← e]at hw
  cases hw
 | true=>
  rw[(ye1 h hcl).1,Bool.not_true,bne_eq_false_iff_eq]
  obtain⟨n1,n2,_,_,h1,h2,_,_,_,i1,i2⟩:=ybf h
  have t1:zi a.Number=w0:=by rw[y1f _ (by omega) (by omega),e1];exact(yxe (hx w0 (by simp)) f0).1.symm
  have t4:zi a.Height=w3:=by rw[y1f _ (by omega) (by omega),e4];exact(yxe (hx w3 (by simp)) f3).1.symm
  have t8:zi a.Intensity=w7:=by rw[y1f _ (by omega) (by omega),e8];exact(yxe (hx w7 (by simp)) f7).1.symm
  have t3:zig a.At=w2:=by rw[e3];exact q2.2.symm
  have t5:zhg a.Mark=w4:=by
   rw[e5]
   have hm:zz (zec w4).1=true:=q4.1
   unfold zhg
   rw[hm]
   exact q4.2.symm
  have t7:zof a.Sectors=w6:=by rw[e7];exact q6.2.symm
  have t6:(zdg a=true∧zfb a.Light=w5)∨(zdg a=false∧[45]=w5):=by
   unfold zdg
   rw[e6]
   rcases hc with⟨g1,g2⟩|⟨g1,g2,g3⟩
   ·right;rw[g2];exact⟨rfl,g1.symm⟩
   ·left
    have:=(yvx c g3 g1).2.2.1
    exact⟨by rw[bne_iff_ne];omega,g2⟩
  rw[← hj]
  unfold zng
  rcases t6 with⟨g1,g2⟩|⟨g1,g2⟩
  ·rw[g1,cond_true,t1,e2,t3,t4,t5,g2,t7,t8]
   simp[yyi]
  ·rw[g1,cond_false,t1,e2,t3,t4,t5,g2,t7,t8]
   simp[yyi]
theorem y8l (s:List UInt8) (hs:s.length≤1048576):zke s=zzc s:=by
 unfold zke zzc
 rw[yhz,yxj s 47 47 rfl hs]
 cases hl:(((yn 47 s).length:Int) != 8)with
 | true=>rfl
 | false=>
  have hl:(yn 47 s).length=8:=by have h:=hl;simp at h;omega
  obtain⟨w0,w1,w2,w3,w4,w5,w6,w7,hw⟩:=yd8 _ hl
  have hx:=(y5 47 s).2
  rw[hw]at hx ⊢
  have hx:∀ x∈[w0,w1,w2,w3,w4,w5,w6,w7],x.length≤1048576:=fun x h=>by have:=hx x h;omega
  simp only[cond_false,List.getD_cons_zero,List.getD_cons_succ]
  rw[yei w0 (hx w0 (by simp)),yei w3 (hx w3 (by simp)),yei w7 (hx w7 (by simp)),y3x w2 (hx w2 (by simp)),yoo w4 (hx w4 (by simp)),yzq w6 (hx w6 (by simp)),yns w5 (hx w5 (by simp))]
  have core:=fun c f0 f2 f3 f4 f6 f7 hc=>y22 hs hw c f0 f2 f3 f4 f6 f7 hc
  cases f0:(zg w0).2 with
  | false=>simp
  | true=>
  cases f2:(zsb w2).2 with
  | false=>simp
  | true=>
  cases f3:(zg w3).2 with
  | false=>simp
  | true=>
  cases f4:(zec w4).2 with
  | false=>simp
  | true=>
  cases f6:(zab w6).2 with
  | false=>simp
  | true=>
  cases f7:(zg w7).2 with
  | false=>simp
  | true=>
  have core:=fun c hc=>core c f0 f2 f3 f4 f6 f7 hc
  by_cases h5:w5=[45]
  ·have hd:zyc w5=(zChr,false):=by rw[← yns w5 (hx w5 (by simp)),h5];exact ya1
   have:=core zChr (.inl ⟨h5,rfl⟩)
   rw[hd,show(w5 == [45])=true by simp[h5],show(w5 != [45])=false by simp[h5]]
   simp only[beq_self_eq_true,Bool.and_true,Bool.not_true,Bool.false_or,Bool.or_self,cond_true,cond_false]
   rw[this]
  ·rw[show(w5 == [45])=false by simp[h5],show(w5 != [45])=true by simp[h5]]
   rcases yzg w5 with hd|⟨c,g1,g2,⟨i,g3⟩,hd⟩
   ·rw[hd];simp
   ·have hg:c.Colors.length<9223372036854775808:=by
     rw[g3]
     have:=ywf (y56 w5 (hx w5 (by simp))) i
     omega
    have:=core c (.inr ⟨g1,g2,hg⟩)
    rw[hd]
    simp only[beq_self_eq_true,Bool.and_true,Bool.not_true,Bool.false_or,Bool.or_self,cond_true,cond_false]
    rw[this]
end Go.Ab

namespace Go.Ab
open Go Go.Proofs
theorem ycw (s:List UInt8) (hs:s.length≤1048576):bdAid (zzc s).1:=by
 have e:=fun i=>yud s 47 47 rfl hs i
 have hz:bdAid zAid:=by decide
 have key:∀ c:Character,bdCharacter c→bdAid ({ Number:=(zg ((za s 47).getD 0 default)).1,Name:=((za s 47).getD 1 default),At:=(zsb ((za s 47).getD 2 default)).1,Height:=(zg ((za s 47).getD 3 default)).1,Mark:=(zec ((za s 47).getD 4 default)).1,Light:=c,Sectors:=(zab ((za s 47).getD 6 default)).1,Intensity:=(zg ((za s 47).getD 7 default)).1:Aid }):=fun c hc=>
  ⟨Nat.lt_of_le_of_lt (Nat.le_trans (e 1) hs) (by decide),yp4 _ (Nat.le_trans (e 4) hs),hc,y93 _ (Nat.le_trans (e 6) hs)⟩
 unfold zzc
 simp only[Bool.cond_eq_ite]
 (repeat' split)<;>first|exact hz|exact key _ (yt4 _ (Nat.le_trans (e 5) hs))|exact key _ (by decide)
theorem yjv (s:List UInt8) (hs:s.length≤1048576):bdAid (zke s).1:=by rw[y8l s hs];exact ycw s hs
end Go.Ab

namespace Go.Ab
open Go Go.Proofs
theorem fin2 {α:Type} {V:α→Prop} {z:α} (m:α) (c:Bool) (hc:c=false→V m):(bif c then(z,false)else(m,true))=(z,false)∨∃ p,(bif c then(z,false)else(m,true))=(p,true)∧V p:=by
 cases c with
 | true=>exact .inl rfl
 | false=>exact .inr ⟨m,rfl,hc rfl⟩
theorem yer (s:List UInt8):zzc s=(zAid,false)∨∃ a,zzc s=(a,true)∧zdc a=true:=by
 unfold zzc
 cases(((za s 47).length:Int) != 8)with
 | true=>exact .inl rfl
 | false=>
  rw[cond_false]
  cases((((((!((zg ((za s 47).getD 0 default)).2)) || (!((zsb ((za s 47).getD 2 default)).2))) || (!((zg ((za s 47).getD 3 default)).2))) || (!((zec ((za s 47).getD 4 default)).2))) || (!((zab ((za s 47).getD 6 default)).2))) || (!((zg ((za s 47).getD 7 default)).2)))with
  | true=>exact .inl rfl
  | false=>
   rw[cond_false]
   cases(((za s 47).getD 5 default) != [45])with
   | true=>
    rw[cond_true]
    cases(!((zyc ((za s 47).getD 5 default)).2))with
    | true=>exact .inl rfl
    | false=>rw[cond_false];exact fin2 (V:=fun a=>zdc a=true) _ _ (fun h=>by simpa using h)
   | false=>rw[cond_false];exact fin2 (V:=fun a=>zdc a=true) _ _ (fun h=>by simpa using h)
theorem yz4 {a:Aid} (h:zdc a=true):a.Light.Group.length≤4∧a.Sectors.length≤12:=by
 refine⟨?_,(yse (ybf h).2.2.2.2.2.2.2.2.1).1⟩
 cases ht:zdg a with
 | true=>
  have hk:=(ybf h).2.2.2.2.2.2.2.1 ht
  unfold zob at hk
  cases hs:zie a.Light with
  | true=>exact(yyk _ hs).1
  | false=>rw[hs]at hk;cases hk
 | false=>
  unfold zdc at h
  cases hc:(((((!(zl a.Number 1 9999)) || (!(zvb a.Name))) || (!(zcc a.At))) || (!(zl a.Height 0 3000))) || (!(zvc a.Mark)))with
  | true=>rw[hc]at h;cases h
  | false=>
   rw[hc,cond_false]at h
   cases hp:zmd a.Light with
   | true=>
    unfold zmd at hp
    simp only[Bool.and_eq_true,beq_iff_eq]at hp
    have:=hp.1.1.1.2
    omega
   | false=>
    rw[hp,cond_false]at h
    cases hd:(((!(zob a.Light)) || (!(zl a.Intensity 1 100000000))) || (!(zr a.Sectors)))with
    | true=>rw[hd]at h;cases h
    | false=>
     simp only[Bool.or_eq_false_iff,Bool.not_eq_false']at hd
     have hk:=hd.1.1
     unfold zob at hk
     cases hs:zie a.Light with
     | true=>exact(yyk _ hs).1
     | false=>rw[hs]at hk;cases hk
theorem ydx (s:List UInt8):(zzc s).1.Light.Group.length≤4∧(zzc s).1.Sectors.length≤12:=by
 rcases yer s with h|⟨a,h,h1⟩
 ·rw[h];exact⟨by simp,by simp⟩
 ·rw[h];exact yz4 h1
end Go.Ab

namespace Go.Ab
open Go Go.Proofs
theorem ylm {ρ1 ρ2 σ τ:Type} {b1:Nat→σ→Except ρ1 σ} {b2:Nat→τ→Except ρ2 τ} (R:Nat→σ→τ→Prop) (E:ρ1→ρ2→Prop) (d:Nat):∀ {k i:Nat} {s:σ} {t:τ},R i s t →
  (∀ j u v,i≤j→j<i+k→R j u v→(∃ e f,b1 j u=.error e∧b2 (j+d) v=.error f∧E e f)∨∃ u' v',b1 j u=.ok u'∧b2 (j+d) v=.ok v'∧R (j+1) u' v') →
  (∃ e f,yd b1 k i s=.error e∧yd b2 k (i+d) t=.error f∧E e f)∨∃ u v,yd b1 k i s=.ok u∧yd b2 k (i+d) t=.ok v∧R (i+k) u v
 | 0,i,s,t,h,_=>.inr ⟨s,t,rfl,rfl,h⟩
 | k+1,i,s,t,h,hb=>by
  simp only[yd]
  rcases hb i s t (Nat.le_refl _) (by omega) h with⟨e,f,h1,h2,h3⟩|⟨u,v,h1,h2,h3⟩
  ·rw[h1,h2];exact .inl ⟨e,f,rfl,rfl,h3⟩
  ·rw[h1,h2]
   have:=ylm R E d (k:=k) (i:=i+1) h3 (fun j u v q1 q2 q3=>hb j u v (by omega) (by omega) q3)
   rwa [show i+1+k=i+(k+1)by omega,show i+1+d=i+d+1 by omega]at this
theorem yw5 (k:List UInt8) (hk:k.length<4611686018427387904):((zee k).2=true∧(zee k).1=zwc k∧zwc k≠0)∨((zee k).2=false∧zwc k=0):=by
 have hcp:zzd k [110]=if 0<k.length∧k.getD 0 0=110 then(k.drop 1,true)else(k,false):=by
  unfold zzd zue zif
  cases k with
  | nil=>rfl
  | cons a r=>
   have:decide ((([110]:List UInt8).length:Int)≤((a::r).length:Int))=true:=decide_eq_true (by simp only[List.length_cons,List.length_nil];omega)
   rw[this]
   simp only[Bool.true_and,List.length_cons,List.length_nil,List.take_succ_cons,List.take_zero,List.getD_cons_zero,List.drop_succ_cons,List.drop_zero]
   by_cases ha:a=110
   ·subst ha;simp
   ·have h2:([a] == [110])=false:=by simpa using ha
    rw[h2]
    simp[ha]
 unfold zee zwc
 rw[hcp]
 by_cases h0:0<k.length∧k.getD 0 0=110
 ·rw[if_pos h0]
  simp only[Bool.true_and]
  have e110:(((k.getD 0 0).toNat:Int) != 110)=false:=by rw[h0.2];rfl
  rw[e110,Bool.or_false]
  by_cases h5:k.length=5
  ·rw[show((k.length:Int) != 5)=false by rw[h5];rfl,cond_false]
   have hd4:(k.drop 1).length=4:=by simp[h5]
   unfold zdd
   rw[hd4]
   have hsim:=ylm (b1:=ypl (k.drop 1)) (b2:=yim k) (fun j u v=>u=v∧0≤u∧u<((10 ^ j:Nat):Int)) (fun e f=>e=(0,false)∧f=0) 1 (k:=4) (i:=0) (s:=0) (t:=0) ⟨rfl,by omega,by decide⟩ (fun j u v _ hj hR=>by
    obtain⟨rfl,r1,r2⟩:=hR
    have hg:(k.drop 1).getD j 0=k.getD (j+1) 0:=by simp[List.getD_eq_getElem?_getD,Nat.add_comm]
    unfold ypl yim
    rw[hg,yz2]
    generalize k.getD (j+1) 0=x
    by_cases hd:48≤x.toNat∧x.toNat≤57
    ·right
     have e:(!(decide (48≤(x.toNat:Int)) && decide ((x.toNat:Int)≤57)))=false:=by simp;omega
     rw[e]
     refine⟨_,_,rfl,rfl,rfl,?_⟩
     have h10:10 ^ j≤1000:=Nat.le_trans (Nat.pow_le_pow_right (by decide) (show j≤3 by omega)) (by decide)
     have hw:IntKind.wrap .i64 ((IntKind.wrap .i64 (10 * u))+(IntKind.wrap .i64 (IntKind.wrap .u8 ((x.toNat:Int)-48))))=10 * u+((x.toNat:Int)-48):=by
      rw[wid (n:=10 * u) (by omega) (by omega),IntKind.wrap_u8,Int.emod_eq_of_lt (by omega) (by omega),wid (n:=(x.toNat:Int)-48) (by omega) (by omega),wid (by omega) (by omega)]
     rw[hw,Nat.pow_succ]
     omega
    ·left
     have e:(!(decide (48≤(x.toNat:Int)) && decide ((x.toNat:Int)≤57)))=true:=by simp;omega
     rw[e]
     exact⟨_,_,rfl,rfl,rfl,rfl⟩)
   rcases hsim with⟨e,f,q1,q2,q3,q4⟩|⟨u,v,q1,q2,q3,q4,q5⟩
   ·rw[Nat.sub_zero,q1,q2,q3,q4]
    exact .inr ⟨by simp,by simp⟩
   ·rw[Nat.sub_zero,q1,q2, ← q3]
    simp only
    have hw:zf ((4:Nat):Int) 1 18=true:=by decide
    rw[hw]
    by_cases hu:u=0
    ·subst hu;exact .inr ⟨by simp,by simp⟩
    ·refine .inl ⟨?_,by simp,hu⟩
     rw[decide_eq_true (show(0:Int)<u by omega)]
     rfl
  ·right
   rw[show((k.length:Int) != 5)=true by rw[bne_iff_ne];omega,cond_true]
   refine⟨?_,by simp⟩
   have:(((k.drop 1).length:Int) == 4)=false:=by rw[beq_eq_false_iff_ne,List.length_drop];omega
   rw[this]
   simp
 ·rw[if_neg h0]
  right
  refine⟨by simp,?_⟩
  have:(((k.length:Int) != 5) || (((k.getD 0 0).toNat:Int) != 110))=true:=by
   rw[Bool.or_eq_true,bne_iff_ne,bne_iff_ne]
   by_cases h5:k.length=5
   ·right
    intro h
    exact h0 ⟨by omega,UInt8.toNat_inj.1 (by show _=110;omega)⟩
   ·left;omega
  rw[this]
  rfl
end Go.Ab
