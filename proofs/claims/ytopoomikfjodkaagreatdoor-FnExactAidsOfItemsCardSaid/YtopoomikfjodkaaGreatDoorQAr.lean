/- A part of a proof: walks of functions and lemmas of our own. No conditions. -/
import Derived.Test.YtopoomikfjodkaaGreatDoorQAl
import Derived.Test.YtopoomikfjodkaaGreatDoorQAq
import Derived.Test.YtopoomikfjodkaaGreatDoorQAo
import Derived.Test.YtopoomikfjodkaaGreatDoorQAm
import Derived.Test.YtopoomikfjodkaaGreatDoorQAn
set_option linter.unusedSectionVars false
set_option linter.unusedVariables false
set_option linter.unusedSimpArgs false
set_option maxHeartbeats 1000000
namespace Go.Ab
open Go Go.Proofs
def zuc (a0:Int):(List UInt8):=
 (zkb a0 ([[110,111,110,101],[108,101,102,116],[114,105,103,104,116],[110,111,114,116,104],[101,97,115,116],[115,111,117,116,104],[119,101,115,116],[100,97,110,103,101,114],[115,97,102,101],[115,112,101,99,105,97,108]]:List (List UInt8)))
namespace N22
theorem DD:DOk Tryz.prog (Go.Ab.DD [(90,dP D_zkb)]):=ya yvg.e <| ye _
theorem dn:type_of% (@D_zkb.eq_1):=by and_intros<;>intros<;>rfl
theorem lx {p:Prop} (h:p:=by(exact lxx);first|done|fail):p:=h
theorem den (a0:Int)  : Den Tryz.prog 22 [.int .i64 a0] (.str (zuc a0)):=by
 generalize hR:zuc a0=r
 unfold zuc at hR
 refine di Tryz.func22 Tryz.ntmps22 Tryz.results22 ?_
 intro c hL hc hk
 clear hL
 simp only[pars,Nat.zero_add]
 iterate 2 refine rS ?_
 refine AWP.ret ?_
 subst hR
 exact es
end N22
def D_zuc : DF
 | [x0]=>some (.str (zuc (rdI x0)),false,[wI .i64 x0])
 | _=>none
theorem yvm:OkD Tryz.prog 22 D_zuc:=by unfold D_zuc;exact dk N22.den
end Go.Ab

namespace Go.Ab
open Go Go.Proofs
theorem yhk (l:List (List UInt8)) (h:∀ x∈l,x.length≤100) (n:Nat):(l.getD n default).length≤100:=by
 rw[List.getD_eq_getElem?_getD]
 cases hg:l[n]? with
 | none=>show(0:Nat)≤100;omega
 | some x=>exact h x (List.mem_of_getElem? hg)
theorem yb1 (k:Int) (l:List (List UInt8)) (h:∀ x∈l,x.length≤100):(zkb k l).length≤100:=by
 unfold zkb
 simp only[Bool.cond_eq_ite]
 split
 ·simp
 ·exact yhk l h _
end Go.Ab

namespace Go.Ab
open Go Go.Proofs
def zog (a0:Int):Bool:=
 (zf a0 2000 2273)
end Go.Ab

namespace Go.Ab
open Go Go.Proofs
def zjg (a0:Int):Bool:=
 ((zog a0) && ((((a0.tmod 4) == 0) && ((a0.tmod 100) != 0)) || ((a0.tmod 400) == 0)))
end Go.Ab

namespace Go.Ab
open Go Go.Proofs
def zmf (a0:Int):Int:=
 (bif (zjg a0)then 366 else 365)
end Go.Ab

namespace Go.Ab
open Go Go.Proofs
def zld (a0:Int) (a1:Int):Int:=
 (bif ((a1 == 2) && (zjg a0))then 29 else([31,28,31,30,31,30,31,31,30,31,30,31]:List Int).getD ((IntKind.wrap .i64 (a1-1)).toNat) 0)
end Go.Ab

namespace Go.Ab
open Go Go.Proofs
theorem yj4 (y:Int):zmf y=365∨zmf y=366:=by
 unfold zmf
 cases zjg y<;>simp
end Go.Ab

namespace Go.Ab
open Go Go.Proofs
def yyv (y m:Int):Int:=(bif zjg y && decide (m≤2)then 1 else 0)+([365,334,306,275,245,214,184,153,122,92,61,31]:List Int).getD (m-1).toNat 0
theorem yti (y : Int) : zld y 1 = 31 ∧ zld y 2 = (bif zjg y then 29 else 28) ∧ zld y 3 = 31 ∧ zld y 4 = 30 ∧ zld y 5 = 31 ∧ zld y 6 = 30
  ∧ zld y 7=31∧zld y 8=31∧zld y 9=30∧zld y 10=31∧zld y 11=30∧zld y 12=31:=by
 simp[zld,IntKind.wrap_i64]
theorem y3w (y:Int):yyv y 1=zmf y:=by
 unfold zmf yyv
 cases zjg y<;>rfl
theorem y2v (y m d:Int) (h1:1≤m) (h2:m≤12) (h3:d<yyv y m) (h4:zld y m≤d):m≤11∧d-zld y m<yyv y (m+1)∧28≤zld y m∧zld y m≤31:=by
 obtain⟨e1,e2,e3,e4,e5,e6,e7,e8,e9,e10,e11,e12⟩:=yti y
 rcases y6k h1 h2 with rfl|rfl|rfl|rfl|rfl|rfl|rfl|rfl|rfl|rfl|rfl|rfl<;>
  simp only[*]at h4 ⊢ <;> simp[yyv]at h3 ⊢ <;> cases hl:zjg y<;>simp_all<;>omega
end Go.Ab

namespace Go.Ab
open Go Go.Proofs
def y1w (a0:Int) (s1:Int×Int):Except (Sum ((Int×Int×Int)) (Int×Int)) (Int×Int):=
 (bif decide ((zmf s1.2)≤s1.1)then .ok (IntKind.wrap .i64 (s1.1-(zmf s1.2)),IntKind.wrap .i64 (s1.2+1))else .error (.inr (s1.1,s1.2)))
def ycy (a0:Int) (s1:Int×Int) (s2:Int×Int):Except (Sum ((Int×Int×Int)) (Int×Int)) (Int×Int):=
 (bif decide ((zld s1.2 s2.2)≤s2.1)then .ok (IntKind.wrap .i64 (s2.1-(zld s1.2 s2.2)),IntKind.wrap .i64 (s2.2+1))else .error (.inr (s2.1,s2.2)))
def zxe (a0:Int):(Int×Int×Int):=
 (match y7 (y1w a0) (((a0).toNat)+1) (a0,2000)with|.error (.inl e)=>e|.error (.inr s1)=>(match y7 (ycy a0 s1) (((s1.1).toNat)+1) (s1.1,1)with|.error (.inl e)=>e|.error (.inr s2)=>(s1.2,s2.2,IntKind.wrap .i64 (s2.1+1))|.ok _=>default)|.ok _=>default)
end Go.Ab

namespace Go.Ab
open Go Go.Proofs
theorem ypy {y:Int} (h1:2000≤y) (h2:y≤2273):zjg y=y4b y:=by
 unfold zjg y4b zog zf
 simp[h1,h2]
theorem yat {y m:Int} (hy1:2000≤y) (hy2:y≤2273) (h1:1≤m) (h2:m≤12):zld y m=mdD (y4b y) m.toNat:=by
 obtain⟨e1,e2,e3,e4,e5,e6,e7,e8,e9,e10,e11,e12⟩:=yti y
 rw[ypy hy1 hy2]at e2
 rcases y6k h1 h2 with rfl|rfl|rfl|rfl|rfl|rfl|rfl|rfl|rfl|rfl|rfl|rfl<;>simp only[*]<;>cases y4b y<;>rfl
theorem y76 (a:Int) (h1:0≤a) (h2:a≤99999):∃ y m d,zxe a=(y,m,d)∧y≤2273∧ynp a y m d:=by
 have L1 := yej (body := y1w a) (I := fun s => 0 ≤ s.1 ∧ 2000 ≤ s.2 ∧ ybD s.2 + s.1 = a)
  (Q:=fun r=>∃ s:Int×Int,r=.inr s∧0≤s.1∧2000≤s.2∧ybD s.2+s.1=a∧s.1<zmf s.2) (M:=fun s=>s.1.toNat) (by
   rintro⟨d,y⟩ ⟨i1,i2,i3⟩
   simp only[y1w]at i1 i2 i3 ⊢
   have hy:=yj4 y
   have hle:=yuy (y:=y) (by omega)
   have hnn:=yzp i2
   by_cases hc:zmf y≤d
   ·have hyd:zmf y=365+(bif y4b y then 1 else 0):=by
     unfold zmf;rw[ypy i2 hle];cases y4b y<;>rfl
    have hn:=yks y i2
    simp only[hc,decide_true,cond_true]
    rw[ybk (by omega) (by omega),ybk (by omega) (by omega)]
    refine⟨⟨by omega,by omega,by omega⟩,by omega⟩
   ·simp only[hc,decide_false,cond_false]
    exact⟨_,rfl,i1,i2,i3,by show d<zmf y;omega⟩) (a.toNat+1) (a,2000) ⟨h1,by show(2000:Int)≤2000;omega,by simp[ybD]⟩ (by show a.toNat<a.toNat+1;omega)
 obtain⟨r,e1,s,rfl,q1,q2,q3,q4⟩:=L1
 have hle:=yuy (y:=s.2) (by omega)
 have hnn:=yzp q2
 have hyd:=yj4 s.2
 have L2 := yej (body := ycy a s) (I := fun t => 0 ≤ t.1 ∧ 1 ≤ t.2 ∧ t.2 ≤ 12 ∧ t.1 < yyv s.2 t.2 ∧ (mbD (y4b s.2) t.2.toNat : Int) + t.1 = s.1)
  (Q:=fun r=>∃ t:Int×Int,r=.inr t∧0≤t.1∧1≤t.2∧t.2≤12∧t.1<zld s.2 t.2∧(mbD (y4b s.2) t.2.toNat:Int)+t.1=s.1) (M:=fun t=>t.1.toNat) (by
   rintro⟨d,m⟩ ⟨i1,i2,i3,i4,i5⟩
   simp only[ycy]at i1 i2 i3 i4 i5 ⊢
   by_cases hc:zld s.2 m≤d
   ·have hs:=y2v s.2 m d i2 i3 i4 hc
    have hm:=yat q2 hle i2 i3
    have hn:=y65 (l:=y4b s.2) i2 hs.1
    simp only[hc,decide_true,cond_true]
    rw[ybk (by omega) (by omega),ybk (by omega) (by omega)]
    refine⟨⟨by omega,by omega,by omega,hs.2.1,by omega⟩,by omega⟩
   ·simp only[hc,decide_false,cond_false]
    exact⟨_,rfl,i1,i2,i3,by show d<zld s.2 m;omega,i5⟩) (s.1.toNat+1) (s.1,1) ⟨q1,by show(1:Int)≤1;omega,by show(1:Int)≤12;omega,by rw[y3w];exact q4,by show(mbD (y4b s.2) 1:Int)+s.1=s.1;rw[yl0];simp⟩ (by show s.1.toNat<s.1.toNat+1;omega)
 obtain⟨r2,e2,t,rfl,p1,p2,p3,p4,p5⟩:=L2
 have hm:=yat q2 hle p2 p3
 have hw:IntKind.wrap .i64 (t.1+1)=t.1+1:=by
  have:=(y7w (l:=y4b s.2) p2 p3)
  refine ybk (by omega) ?_
  cases hl:y4b s.2<;>simp only[hl,cond_true,cond_false]at * <;> omega
 refine⟨s.2,t.2,t.1+1,?_,hle,q2,p2,p3,by omega,by omega,by omega⟩
 unfold zxe
 rw[e1]
 simp only
 rw[e2]
 simp only[hw]
end Go.Ab

namespace Go.Ab
open Go Go.Proofs
def zmg (a0:Int) (a1:Int):(List UInt8):=
 (zqg [48] (if 0<IntKind.wrap .i64 (a1-((zo a0).length:Int))then IntKind.wrap .i64 (a1-((zo a0).length:Int))else 0))++(zo a0)
end Go.Ab


namespace Go.Ab
open Go Go.Proofs
def zpg (a0:Int):Bool:=
 (zf a0 0 99999)
end Go.Ab

namespace Go.Ab
open Go Go.Proofs
def zkg (a0:Int):(List UInt8):=
 (bif (!(zpg a0))then[]else((((zo ((zxe a0).1))++[45])++(zmg ((zxe a0).2.1) 2))++[45])++(zmg ((zxe a0).2.2) 2))
end Go.Ab

namespace Go.Ab
open Go Go.Proofs
def ypl (a0:(List UInt8)) (i1:Nat) (s1:Int):Except ((Int×Bool)) (Int):=
 (bif (decide (((a0.getD i1 0).toNat:Int)<48) || decide (57<((a0.getD i1 0).toNat:Int)))then .error (0,false)else .ok (IntKind.wrap .i64 ((IntKind.wrap .i64 (10 * s1))+(IntKind.wrap .i64 (IntKind.wrap .u8 (((a0.getD i1 0).toNat:Int)-48))))))
def zdd (a0:(List UInt8)):(Int×Bool):=
 (match yd (ypl a0) (a0.length-0) 0 0 with|.error e=>e|.ok s1=>(s1,(zf (a0.length:Int) 1 18)))
namespace N250
theorem DD:DOk Tryz.prog (Go.Ab.DD [(181,dP D_zf)]):=ya y2c.e <| ye _
theorem dn:type_of% (@D_zf.eq_1):=by and_intros<;>intros<;>rfl
theorem ol:type_of% (@zf.eq_1):=@zf.eq_1
theorem den (a0:(List UInt8))  : Den Tryz.prog 250 [.str a0] (.tup [.int .i64 ((zdd a0).1),.bool ((zdd a0).2)]):=by
 generalize hR:zdd a0=r
 unfold zdd at hR
 refine di Tryz.func250 Tryz.ntmps250 Tryz.results250 ?_
 intro c hL hc hk
 obtain⟨hL0,_⟩:=hL
 have hw0:a0.length<9223372036854775808:=Nat.lt_succ_of_le hL0
 clear hL0
 simp only[pars,Nat.zero_add]
 iterate 3 refine rS ?_
 refine AWP.block ?_
 generalize hz1:yd (ypl a0) (a0.length-0) 0 0=z1 at hR
 refine AWP.range (ypl a0) (fun i1 s1=>⟨[(0,.str a0),(4,.int .i64 s1),(5,.int .i64 (i1:Int))],[]⟩) (fun i1 s1=>True) (a0.length) 0 0 [] hz1 ot wt sm ?_
 clear hz1
 intro i1 s1 hi1 hW1 hz1
 refine rS ?_
 refine AWP.cond rfl (fun hb => ?_) (fun hb => ?_)
 ·have hlt1:i1<a0.length:=ot
  rw[yh hlt1]at hz1;simp only[ypl]at hz1
  refine rS ?_
  refine AWP.cond rfl (fun hb => ?_) (fun hb => ?_)
  ·simp only[hb,cond_true]at hz1
   refine rS ?_
   refine AWP.ret ?_
   subst hz1
   dsimp only at hR
   subst hR
   exact es
  ·simp only[hb,cond_false]at hz1
   iterate 2 refine rS ?_
   exact⟨_,[],hlt1,wt,hz1,sm⟩
 ·obtain rfl:i1=a0.length:=ot
  rw[yg (Nat.le_refl _)]at hz1;subst hz1;dsimp only at hR
  refine AWP.exit ?_;refine yb ?_
  refine rS ?_
  refine AWP.ret ?_
  subst hR
  exact es
end N250
def D_zdd : DF
 | [x0]=>some (.tup [.int .i64 ((zdd (rdS x0)).1),.bool ((zdd (rdS x0)).2)],false,[wS x0])
 | _=>none
theorem yyz:OkD Tryz.prog 250 D_zdd:=by unfold D_zdd;exact dk N250.den
end Go.Ab








namespace Go.Ab
open Go Go.Proofs
def y6w (a0:(List UInt8)) (i1:Nat) (s1:List (List UInt8)):Except ((List (List UInt8))) (List (List UInt8)):=
 (bif (((zd a0 [32]).getD i1 default) != [])then .ok (s1++[((zd a0 [32]).getD i1 default)])else .ok s1)
def zt (a0:(List UInt8)):(List (List UInt8)):=
 (match yd (y6w a0) (((zd a0 [32]).length)-0) 0 ([]:List (List UInt8))with|.error e=>e|.ok s1=>s1)
namespace N82
theorem DD:DOk Tryz.prog (Go.Ab.DD [(135,dP D_zd)]):=ya yun.e <| ye _
theorem dn:type_of% (@D_zd.eq_1):=by and_intros<;>intros<;>rfl
theorem den (a0:(List UInt8)) (hb0:a0.length<1099511627776) (hp0:a0.length≤1048576):Den Tryz.prog 82 [.str a0] (ownL 9 1 eS (zt a0)):=by
 generalize hR:zt a0=r
 unfold zt at hR
 refine di Tryz.func82 Tryz.ntmps82 Tryz.results82 ?_
 intro c hL hc hk
 obtain⟨hL0,_⟩:=hL
 have hw0:a0.length<9223372036854775808:=Nat.lt_succ_of_le hL0
 clear hL0
 simp only[pars,Nat.zero_add]
 have hs9:=y3t a0 [32] (by omega)
 iterate 3 refine rS ?_
 refine AWP.block ?_
 generalize hz1:yd (y6w a0) (((zd a0 [32]).length)-0) 0 ([]:List (List UInt8))=z1 at hR
 refine AWP.range (y6w a0) (fun i1 s1=>⟨[(3,.ref 0 1 0 s1.length),(8,.ref 1 1 0 ((zd a0 [32]).length)),(9,.int .i64 ((zd a0 [32]).length:Int)),(10,.int .i64 (i1:Int))],[.arr 9 1 s1.length (fun j=>eS (s1.getD j default)),.arr 9 1 (zd a0 [32]).length (fun j=>eS ((zd a0 [32]).getD j default))]⟩) (fun i1 s1=>s1.length≤([]:List (List UInt8)).length+1 * i1∧s1.length≤i1) (((zd a0 [32]).length)) 0 ([]:List (List UInt8)) [0,1] hz1 ot wt sm ?_
 clear hz1
 intro i1 s1 hi1 hW1 hz1
 refine rS ?_
 refine AWP.seq ?_
 refine AWP.cond rfl (fun hb => ?_) (fun hb => ?_)
 ·have hlt1:i1<((zd a0 [32]).length):=ot
  rw[yh hlt1]at hz1;simp only[y6w]at hz1
  iterate 2 refine rS ?_
  refine AWP.cond rfl (fun hb => ?_) (fun hb => ?_)
  ·simp only[hb,cond_true]at hz1
   iterate 2 refine rS ?_
   exact⟨_,[3,1],hlt1,wt,hz1,sm⟩
  ·simp only[hb,cond_false]at hz1
   refine rS ?_
   exact⟨_,[0,1],hlt1,wt,hz1,sm⟩
 ·obtain rfl:i1=((zd a0 [32]).length):=ot
  rw[yg (Nat.le_refl _)]at hz1;subst hz1;dsimp only at hR
  refine AWP.exit ?_;refine yb ?_
  refine rS ?_
  refine AWP.ret ?_
  subst hR
  exact es
end N82
def D_zt : DF
 | [x0]=>some (ownL 9 1 eS (zt (rdS x0)),false,[wS x0,(rdS x0).length<1099511627776,(rdS x0).length≤1048576])
 | _=>none
theorem yc6:OkD Tryz.prog 82 D_zt:=by unfold D_zt;exact dk N82.den
end Go.Ab

namespace Go.Ab
open Go Go.Proofs
theorem yid (l:List (List UInt8)) (b:Nat→List (List UInt8)→Except (List (List UInt8)) (List (List UInt8))) (hb:∀ i s,b i s=(bif (l.getD i default) != []then .ok (s++[l.getD i default])else .ok s)) :
  ∀ (k i:Nat) (s:List (List UInt8)),i+k=l.length→yd b k i s=.ok (s++(l.drop i).filter (· != []))
 | 0,i,s,h=>by
  rw[List.drop_eq_nil_of_le (by omega)]
  simp[yd]
 | k+1,i,s,h=>by
  have hlt:i<l.length:=by omega
  have hg:l.getD i default=l[i]:=by simp[List.getD,List.getElem?_eq_getElem hlt]
  simp only[yd,hb,hg]
  rw[List.drop_eq_getElem_cons hlt,List.filter_cons]
  cases hc:(l[i] != [])with
  | true=>
   simp only[cond_true]
   rw[yid l b hb k (i+1) _ (by omega)]
   simp
  | false=>
   simp only[cond_false]
   rw[yid l b hb k (i+1) _ (by omega)]
   simp
theorem ya8 (a:List UInt8):zt a=(yn 32 a).filter (· != []):=by
 unfold zt
 rw[yid (zd a [32]) (y6w a) (fun i s=>rfl) _ 0 [] (by omega)]
 rfl
theorem y07 (a:List UInt8) (ha:a.length≤1048576):∀ x∈zt a,x.length≤1048576:=by
 intro x hx
 rw[ya8]at hx
 have:=(y5 32 a).2 x (List.mem_filter.1 hx).1
 omega
theorem ywf {l:List (List UInt8)} (h:∀ x∈l,x.length≤1048576) (i:Nat):(l.getD i default).length≤1048576:=by
 by_cases hi:i<l.length
 ·rw[List.getD_eq_getElem?_getD,List.getElem?_eq_getElem hi]
  exact h _ (List.getElem_mem hi)
 ·rw[List.getD_eq_getElem?_getD,List.getElem?_eq_none (by omega)]
  show([]:List UInt8).length≤_
  simp
end Go.Ab

namespace Go.Ab
open Go Go.Proofs
def zk (a0:(List UInt8)):(Int×Bool):=yyb a0
theorem yt6 (a0:(List UInt8)) (hp0:a0.length≤1048576):Den Tryz.prog 136 [.str a0] (.tup [.int .i64 ((zk a0).1),.bool ((zk a0).2)]):=by
 exact yir a0 hp0
def D_zk : DF
 | [x0]=>some (.tup [.int .i64 ((zk (rdS x0)).1),.bool ((zk (rdS x0)).2)],false,[wS x0,(rdS x0).length≤1048576])
 | _=>none
theorem yfj:OkD Tryz.prog 136 D_zk:=by
 intro xs r z ob h ho
 unfold D_zk at h
 split at h
 ·simp only[Option.some.injEq,Prod.mk.injEq]at h
  obtain⟨rfl,rfl,rfl⟩:=h
  obtain⟨h0,hp0,_⟩:=ho
  exact Den.sim (yt6 _ hp0) (yy (yfb h0).1 <| trivial) (y4 (yfb h0).2 <| rfl) rfl
 ·cases h
end Go.Ab

namespace Go.Ab
open Go Go.Proofs
def yzr (a0:(List UInt8)) (s1:Int×Int):Except (Sum ((Character×Bool)) (Int×Int)) (Int×Int):=
 (bif decide (s1.1≤8)then(bif ((zac s1.1) == ((zb ((ze a0 [43,76,70,108]).1) [40]).1))then .ok (IntKind.wrap .i64 (s1.1+1),s1.1)else .ok (IntKind.wrap .i64 (s1.1+1),s1.2))else .error (.inr (s1.1,s1.2)))
def yfr (a0:(List UInt8)) (s1:Int×Int) (i2:Nat) (s2:List Int):Except ((Character×Bool)) (List Int):=
 (bif (!((zk ((zd ((ze ((zb ((ze a0 [43,76,70,108]).1) [40]).2.1) [41]).1) [43]).getD i2 default)).2))then .error ({ Kind:=0,Group:=[],Letter:=[],Colors:=[],Period:=0:Character },false)else .ok (s2++([(zk ((zd ((ze ((zb ((ze a0 [43,76,70,108]).1) [40]).2.1) [41]).1) [43]).getD i2 default)).1]:List Int)))
def ypj (a0:(List UInt8)) (s3:Int×Int):Except (Sum ((Character×Bool)) (Int×Int)) (Int×Int):=
 (bif decide (s3.1≤8)then(bif ((zac s3.1) == ((zb ((ze a0 [43,76,70,108]).1) [40]).1))then .ok (IntKind.wrap .i64 (s3.1+1),s3.1)else .ok (IntKind.wrap .i64 (s3.1+1),s3.2))else .error (.inr (s3.1,s3.2)))
def y9q (a0:(List UInt8)) (s3:Int×Int) (i4:Nat) (s4:List Int):Except ((Character×Bool)) (List Int):=
 (bif (!((zk ((zd ((ze ((zb ((ze a0 [43,76,70,108]).1) [40]).2.1) [41]).1) [43]).getD i4 default)).2))then .error ({ Kind:=0,Group:=[],Letter:=[],Colors:=[],Period:=0:Character },false)else .ok (s4++([(zk ((zd ((ze ((zb ((ze a0 [43,76,70,108]).1) [40]).2.1) [41]).1) [43]).getD i4 default)).1]:List Int)))
def zj (a0:(List UInt8)):(Character×Bool):=
 (bif (ze a0 [43,76,70,108]).2 then(match y7 (yzr a0) (((9-(1:Int)).toNat)+1) (1,0)with|.error (.inl e)=>e|.error (.inr s1)=>(bif (!((zb ((ze a0 [43,76,70,108]).1) [40]).2.2))then({ Kind:=s1.2,Group:=[],Letter:=[76],Colors:=[],Period:=0:Character },true)else(bif (s1.2 == 8)then({ Kind:=s1.2,Group:=[],Letter:=(ze ((zb ((ze a0 [43,76,70,108]).1) [40]).2.1) [41]).1,Colors:=[],Period:=0:Character },((ze ((zb ((ze a0 [43,76,70,108]).1) [40]).2.1) [41]).2 && (!((ze a0 [43,76,70,108]).2))))else(match yd (yfr a0 s1) (((zd ((ze ((zb ((ze a0 [43,76,70,108]).1) [40]).2.1) [41]).1) [43]).length)-0) 0 ([]:List Int)with|.error e=>e|.ok s2=>({ Kind:=s1.2,Group:=s2,Letter:=[76],Colors:=[],Period:=0:Character },(ze ((zb ((ze a0 [43,76,70,108]).1) [40]).2.1) [41]).2))))|.ok _=>default)else(match y7 (ypj a0) (((9-(1:Int)).toNat)+1) (1,0)with|.error (.inl e)=>e|.error (.inr s3)=>(bif (!((zb ((ze a0 [43,76,70,108]).1) [40]).2.2))then({ Kind:=s3.2,Group:=[],Letter:=[],Colors:=[],Period:=0:Character },true)else(bif (s3.2 == 8)then({ Kind:=s3.2,Group:=[],Letter:=(ze ((zb ((ze a0 [43,76,70,108]).1) [40]).2.1) [41]).1,Colors:=[],Period:=0:Character },((ze ((zb ((ze a0 [43,76,70,108]).1) [40]).2.1) [41]).2 && (!((ze a0 [43,76,70,108]).2))))else(match yd (y9q a0 s3) (((zd ((ze ((zb ((ze a0 [43,76,70,108]).1) [40]).2.1) [41]).1) [43]).length)-0) 0 ([]:List Int)with|.error e=>e|.ok s4=>({ Kind:=s3.2,Group:=s4,Letter:=[],Colors:=[],Period:=0:Character },(ze ((zb ((ze a0 [43,76,70,108]).1) [40]).2.1) [41]).2))))|.ok _=>default))
namespace N185
theorem DD:DOk Tryz.prog (Go.Ab.DD [(135,dP D_zd),(136,dP D_zk),(184,dP D_zb),(262,dP D_ze),(263,dP D_zac)]):=ya yun.e <| ya yfj.e <| ya y1j.e <| ya yo5.e <| ya ypt.e <| ye _
theorem dn:type_of% (And.intro @D_zd.eq_1 <| And.intro @D_zk.eq_1 <| And.intro @D_zb.eq_1 <| And.intro @D_ze.eq_1 <| @D_zac.eq_1):=by and_intros<;>intros<;>rfl
theorem gr {p:Prop} (h:p:=by(grind [y3e,y2q]);first|done|fail):p:=h
theorem o0 {p:Prop} (h:p:=by(first|(and_intros<;>(first|omega|rfl|exact ywf c4 _)));first|done|fail):p:=h
theorem o2 {p:Prop} (h:p:=by(first|(and_intros<;>first|omega|(rw[IntKind.wrap_i64];omega)|(simp;(first|done|fail))|(intro i hi;exact yle _ _ i hi)|(intro i hi;rw[yle _ _ i hi];exact y8 _)|decide));first|done|fail):p:=h
set_option maxHeartbeats 2000000 in
set_option maxRecDepth 20000 in
theorem den (a0:(List UInt8)) (hb0:a0.length<1099511627776) (hp0:a0.length≤1048576):Den Tryz.prog 185 [.str a0] (.tup [.agg (ylb ((zj a0).1)),.bool ((zj a0).2)]):=by
 generalize hR:zj a0=r
 unfold zj at hR
 refine di Tryz.func185 Tryz.ntmps185 Tryz.results185 ?_
 intro c hL hc hk
 obtain⟨hL0,_⟩:=hL
 have hw0:a0.length<9223372036854775808:=Nat.lt_succ_of_le hL0
 clear hL0
 simp only[pars,Nat.zero_add]
 have c1:=y2q a0 [43,76,70,108]
 have c2:=y3e (ze a0 [43,76,70,108]).1 [40]
 have c3:=y2q (zb (ze a0 [43,76,70,108]).1 [40]).2.1 [41]
 have c4:=(y3t (ze (zb (ze a0 [43,76,70,108]).1 [40]).2.1 [41]).1 [43] (by omega)).2
 have c5:=(y3t (ze (zb (ze a0 [43,76,70,108]).1 [40]).2.1 [41]).1 [43] (by omega)).1
 iterate 4 refine rS ?_
 refine AWP.cond rfl (fun hb => ?_) (fun hb => ?_)
 ·replace hR:=ct hR
  iterate 3 refine rS ?_
  refine AWP.block ?_
  generalize hz1:y7 (yzr a0) (((9-(1:Int)).toNat)+1) (1,0)=z1 at hR
  refine AWP.whileW (yzr a0) (fun s1=>⟨[(2,.ptr 0 0),(4,.ptr 1 0),(6,.bool ((ze a0 [43,76,70,108]).2)),(7,.str ((zb ((ze a0 [43,76,70,108]).1) [40]).1)),(8,.str ((zb ((ze a0 [43,76,70,108]).1) [40]).2.1)),(9,.bool ((zb ((ze a0 [43,76,70,108]).1) [40]).2.2)),(10,.int .i64 s1.1)],[.box [.int .i64 0,.nils,.str [],.str [],.int .i64 0],.box [.int .i64 s1.2,.nils,.str [76],.str [],.int .i64 0]]⟩) (fun s1=>1≤s1.1∧s1.1≤9) (fun s1=>(9-s1.1).toNat) (((9-(1:Int)).toNat)+1) (1,0) [0,1] hz1 m0 wt sm ?_
  clear hz1
  intro s1 k1 hW1 hm1 hz1
  simp only[yzr]at hz1
  refine rS ?_
  refine AWP.cond rfl (fun hb => ?_) (fun hb => ?_)
  ·simp only[hb,cond_true]at hz1
   refine rS ?_
   refine AWP.cond rfl (fun hb => ?_) (fun hb => ?_)
   ·simp only[hb,cond_true]at hz1
    iterate 2 refine rS ?_
    exact⟨_,[0,1],ms,wt,hz1,sm⟩
   ·simp only[hb,cond_false]at hz1
    refine rS ?_
    exact⟨_,[0,1],ms,wt,hz1,sm⟩
  ·simp only[hb,cond_false]at hz1
   refine AWP.exit ?_
   refine yb ?_
   subst hz1;dsimp only at hR
   refine rS ?_
   refine AWP.cond rfl (fun hb => ?_) (fun hb => ?_)
   ·replace hR:=ct hR
    refine rS ?_
    refine AWP.ret ?_
    subst hR
    exact es
   ·replace hR:=cf hR
    iterate 2 refine rS ?_
    refine AWP.cond rfl (fun hb => ?_) (fun hb => ?_)
    ·replace hR:=ct hR
     iterate 2 refine rS ?_
     refine AWP.ret ?_
     subst hR
     exact es
    ·replace hR:=cf hR
     refine rS ?_
     refine AWP.block ?_
     refine AWP.nilB 1 1 2 1 (fun _=>[]) rfl rfl ?_;try simp only[ea,absV,absVL,cput,gv,sv,dn,reduceCtorEq,reduceIte,Nat.reduceBEq,Nat.reduceAdd,Nat.reduceEqDiff,Nat.reduceLT,Nat.reduceLeDiff,Nat.reduceMul,Nat.reduceSub,BEq.rfl,beq_self_eq_true,Int.reduceToNat]
     generalize hz2:yd (yfr a0 (s1.1,s1.2)) (((zd ((ze ((zb ((ze a0 [43,76,70,108]).1) [40]).2.1) [41]).1) [43]).length)-0) 0 ([]:List Int)=z2 at hR
     refine AWP.range (yfr a0 (s1.1,s1.2)) (fun i2 s2=>⟨[(2,.ptr 0 0),(4,.ptr 1 0),(12,.bool ((ze ((zb ((ze a0 [43,76,70,108]).1) [40]).2.1) [41]).2)),(61,.ref 3 1 0 ((zd ((ze ((zb ((ze a0 [43,76,70,108]).1) [40]).2.1) [41]).1) [43]).length)),(62,.int .i64 ((zd ((ze ((zb ((ze a0 [43,76,70,108]).1) [40]).2.1) [41]).1) [43]).length:Int)),(63,.int .i64 (i2:Int))],[.box [.int .i64 0,.nils,.str [],.str [],.int .i64 0],.box [.int .i64 s1.2,.ref 2 1 0 s2.length,.str [76],.str [],.int .i64 0],.arr 2 1 s2.length (fun j=>yt (s2.getD j default)),.arr 9 1 (zd ((ze ((zb ((ze a0 [43,76,70,108]).1) [40]).2.1) [41]).1) [43]).length (fun j=>eS ((zd ((ze ((zb ((ze a0 [43,76,70,108]).1) [40]).2.1) [41]).1) [43]).getD j default))]⟩) (fun i2 s2=>s2.length≤i2) (((zd ((ze ((zb ((ze a0 [43,76,70,108]).1) [40]).2.1) [41]).1) [43]).length)) 0 ([]:List Int) [0,1,3,2] hz2 ot wt sm ?_
     clear hz2
     intro i2 s2 hi2 hW2 hz2
     refine rS ?_
     refine AWP.seq ?_
     refine AWP.cond rfl (fun hb => ?_) (fun hb => ?_)
     ·have hlt2:i2<((zd ((ze ((zb ((ze a0 [43,76,70,108]).1) [40]).2.1) [41]).1) [43]).length):=ot
      rw[yh hlt2]at hz2;simp only[yfr]at hz2
      iterate 3 refine rS ?_
      refine AWP.cond rfl (fun hb => ?_) (fun hb => ?_)
      ·simp only[hb,cond_true]at hz2
       refine rS ?_
       refine AWP.ret ?_
       subst hz2
       dsimp only at hR
       subst hR
       exact es
      ·simp only[hb,cond_false]at hz2
       iterate 2 refine rS ?_
       exact⟨_,[0,1,5,3],hlt2,wt,hz2,sm⟩
     ·obtain rfl:i2=((zd ((ze ((zb ((ze a0 [43,76,70,108]).1) [40]).2.1) [41]).1) [43]).length):=ot
      rw[yg (Nat.le_refl _)]at hz2;subst hz2;dsimp only at hR
      refine AWP.exit ?_;refine yb ?_
      refine rS ?_
      refine AWP.ret ?_
      subst hR
      exact es
 ·replace hR:=cf hR
  iterate 2 refine rS ?_
  refine AWP.block ?_
  generalize hz3:y7 (ypj a0) (((9-(1:Int)).toNat)+1) (1,0)=z3 at hR
  refine AWP.whileW (ypj a0) (fun s3=>⟨[(2,.ptr 0 0),(4,.ptr 1 0),(6,.bool ((ze a0 [43,76,70,108]).2)),(7,.str ((zb ((ze a0 [43,76,70,108]).1) [40]).1)),(8,.str ((zb ((ze a0 [43,76,70,108]).1) [40]).2.1)),(9,.bool ((zb ((ze a0 [43,76,70,108]).1) [40]).2.2)),(10,.int .i64 s3.1)],[.box [.int .i64 0,.nils,.str [],.str [],.int .i64 0],.box [.int .i64 s3.2,.nils,.str [],.str [],.int .i64 0]]⟩) (fun s3=>1≤s3.1∧s3.1≤9) (fun s3=>(9-s3.1).toNat) (((9-(1:Int)).toNat)+1) (1,0) [0,1] hz3 m0 wt sm ?_
  clear hz3
  intro s3 k3 hW3 hm3 hz3
  simp only[ypj]at hz3
  refine rS ?_
  refine AWP.cond rfl (fun hb => ?_) (fun hb => ?_)
  ·simp only[hb,cond_true]at hz3
   refine rS ?_
   refine AWP.cond rfl (fun hb => ?_) (fun hb => ?_)
   ·simp only[hb,cond_true]at hz3
    iterate 2 refine rS ?_
    exact⟨_,[0,1],ms,wt,hz3,sm⟩
   ·simp only[hb,cond_false]at hz3
    refine rS ?_
    exact⟨_,[0,1],ms,wt,hz3,sm⟩
  ·simp only[hb,cond_false]at hz3
   refine AWP.exit ?_
   refine yb ?_
   subst hz3;dsimp only at hR
   refine rS ?_
   refine AWP.cond rfl (fun hb => ?_) (fun hb => ?_)
   ·replace hR:=ct hR
    refine rS ?_
    refine AWP.ret ?_
    subst hR
    exact es
   ·replace hR:=cf hR
    iterate 2 refine rS ?_
    refine AWP.cond rfl (fun hb => ?_) (fun hb => ?_)
    ·replace hR:=ct hR
     iterate 2 refine rS ?_
     refine AWP.ret ?_
     subst hR
     exact es
    ·replace hR:=cf hR
     refine rS ?_
     refine AWP.block ?_
     refine AWP.nilB 1 1 2 1 (fun _=>[]) rfl rfl ?_;try simp only[ea,absV,absVL,cput,gv,sv,dn,reduceCtorEq,reduceIte,Nat.reduceBEq,Nat.reduceAdd,Nat.reduceEqDiff,Nat.reduceLT,Nat.reduceLeDiff,Nat.reduceMul,Nat.reduceSub,BEq.rfl,beq_self_eq_true,Int.reduceToNat]
     generalize hz4:yd (y9q a0 (s3.1,s3.2)) (((zd ((ze ((zb ((ze a0 [43,76,70,108]).1) [40]).2.1) [41]).1) [43]).length)-0) 0 ([]:List Int)=z4 at hR
     refine AWP.range (y9q a0 (s3.1,s3.2)) (fun i4 s4=>⟨[(2,.ptr 0 0),(4,.ptr 1 0),(12,.bool ((ze ((zb ((ze a0 [43,76,70,108]).1) [40]).2.1) [41]).2)),(61,.ref 3 1 0 ((zd ((ze ((zb ((ze a0 [43,76,70,108]).1) [40]).2.1) [41]).1) [43]).length)),(62,.int .i64 ((zd ((ze ((zb ((ze a0 [43,76,70,108]).1) [40]).2.1) [41]).1) [43]).length:Int)),(63,.int .i64 (i4:Int))],[.box [.int .i64 0,.nils,.str [],.str [],.int .i64 0],.box [.int .i64 s3.2,.ref 2 1 0 s4.length,.str [],.str [],.int .i64 0],.arr 2 1 s4.length (fun j=>yt (s4.getD j default)),.arr 9 1 (zd ((ze ((zb ((ze a0 [43,76,70,108]).1) [40]).2.1) [41]).1) [43]).length (fun j=>eS ((zd ((ze ((zb ((ze a0 [43,76,70,108]).1) [40]).2.1) [41]).1) [43]).getD j default))]⟩) (fun i4 s4=>s4.length≤i4) (((zd ((ze ((zb ((ze a0 [43,76,70,108]).1) [40]).2.1) [41]).1) [43]).length)) 0 ([]:List Int) [0,1,3,2] hz4 ot wt sm ?_
     clear hz4
     intro i4 s4 hi4 hW4 hz4
     refine rS ?_
     refine AWP.seq ?_
     refine AWP.cond rfl (fun hb => ?_) (fun hb => ?_)
     ·have hlt4:i4<((zd ((ze ((zb ((ze a0 [43,76,70,108]).1) [40]).2.1) [41]).1) [43]).length):=ot
      rw[yh hlt4]at hz4;simp only[y9q]at hz4
      iterate 3 refine rS ?_
      refine AWP.cond rfl (fun hb => ?_) (fun hb => ?_)
      ·simp only[hb,cond_true]at hz4
       refine rS ?_
       refine AWP.ret ?_
       subst hz4
       dsimp only at hR
       subst hR
       exact es
      ·simp only[hb,cond_false]at hz4
       iterate 2 refine rS ?_
       exact⟨_,[0,1,5,3],hlt4,wt,hz4,sm⟩
     ·obtain rfl:i4=((zd ((ze ((zb ((ze a0 [43,76,70,108]).1) [40]).2.1) [41]).1) [43]).length):=ot
      rw[yg (Nat.le_refl _)]at hz4;subst hz4;dsimp only at hR
      refine AWP.exit ?_;refine yb ?_
      refine rS ?_
      refine AWP.ret ?_
      subst hR
      exact es
end N185
def D_zj : DF
 | [x0]=>some (.tup [.agg (ylb ((zj (rdS x0)).1)),.bool ((zj (rdS x0)).2)],false,[wS x0,(rdS x0).length<1099511627776,(rdS x0).length≤1048576])
 | _=>none
theorem yd6:OkD Tryz.prog 185 D_zj:=by unfold D_zj;exact dk N185.den
end Go.Ab

namespace Go.Ab
open Go Go.Proofs
theorem yh1 (k:Int) (l:List (List UInt8)) (h:0≤k) (h2:k<(l.length:Int)):zkb k l=l.getD k.toNat default:=by
 unfold zkb zwe
 rw[decide_eq_true h,decide_eq_true h2]
 rfl
end Go.Ab

namespace Go.Ab
open Go Go.Proofs
def zud (a0:(List UInt8)):(Point×Bool):=
 (bif (((!((zk ((zb a0 [44]).1)).2)) || (!((zk ((zb a0 [44]).2.1)).2))) || (!(zcd ({ X:=(zk ((zb a0 [44]).1)).1,Y:=(zk ((zb a0 [44]).2.1)).1:Point }))))then({ X:=0,Y:=0:Point },false)else({ X:=(zk ((zb a0 [44]).1)).1,Y:=(zk ((zb a0 [44]).2.1)).1:Point },true))
namespace N137
theorem DD:DOk Tryz.prog (Go.Ab.DD [(136,dP D_zk),(184,dP D_zb),(211,dP D_zcd)]):=ya yfj.e <| ya y1j.e <| ya ynn.e <| ye _
theorem dn:type_of% (And.intro @D_zk.eq_1 <| And.intro @D_zb.eq_1 <| @D_zcd.eq_1):=by and_intros<;>intros<;>rfl
theorem gr {p:Prop} (h:p:=by(grind [y3e]);first|done|fail):p:=h
set_option maxHeartbeats 1000000 in
set_option maxRecDepth 20000 in
theorem den (a0:(List UInt8)) (hb0:a0.length<1099511627776) (hp0:a0.length≤1048576):Den Tryz.prog 137 [.str a0] (.tup [.agg (y3c ((zud a0).1)),.bool ((zud a0).2)]):=by
 generalize hR:zud a0=r
 unfold zud at hR
 refine di Tryz.func137 Tryz.ntmps137 Tryz.results137 ?_
 intro c hL hc hk
 obtain⟨hL0,_⟩:=hL
 have hw0:a0.length<9223372036854775808:=Nat.lt_succ_of_le hL0
 clear hL0
 simp only[pars,Nat.zero_add]
 have c1:=y3e a0 [44]
 iterate 6 refine rS ?_
 refine AWP.cond rfl (fun hb => ?_) (fun hb => ?_)
 ·replace hR:=ct hR
  refine rS ?_
  refine AWP.ret ?_
  subst hR
  exact es
 ·replace hR:=cf hR
  refine rS ?_
  refine AWP.ret ?_
  subst hR
  exact es
end N137
def D_zud : DF
 | [x0]=>some (.tup [.agg (y3c ((zud (rdS x0)).1)),.bool ((zud (rdS x0)).2)],false,[wS x0,(rdS x0).length<1099511627776,(rdS x0).length≤1048576])
 | _=>none
theorem yj0:OkD Tryz.prog 137 D_zud:=by unfold D_zud;exact dk N137.den
end Go.Ab
