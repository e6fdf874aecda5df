/- A part of a proof: walks of functions and lemmas of our own. No conditions. -/
import Derived.Test.YtopoomikfjodkaaGreatDoorQAy
import Derived.Test.YtopoomikfjodkaaGreatDoorQAr
import Derived.Test.YtopoomikfjodkaaGreatDoorQAo
import Derived.Test.YtopoomikfjodkaaGreatDoorQAq
import Derived.Test.YtopoomikfjodkaaGreatDoorQAt
import Derived.Test.YtopoomikfjodkaaGreatDoorQAu
import Derived.Test.YtopoomikfjodkaaGreatDoorQAw
import Derived.Test.YtopoomikfjodkaaGreatDoorQAl
import Derived.Test.YtopoomikfjodkaaGreatDoorQAx
import Derived.Test.YtopoomikfjodkaaGreatDoorQAk
set_option linter.unusedSectionVars false
set_option linter.unusedVariables false
set_option linter.unusedSimpArgs false
set_option maxHeartbeats 1000000
namespace Go.Ab
open Go Go.Proofs
def ydh (w:List UInt8) (r:Int×Bool):Prop:=
 (∃ a:Int,0≤a∧a≤99999∧w=zkg a∧r=(a,true))∨((∀ a:Int,0≤a→a≤99999→w≠zkg a)∧r=(0,false))
theorem yk5 {y m d y' m' d':Nat} (h1:y<10000) (h2:m<100) (h3:d<100) (h1':y'<10000) (h2':m'<100) (h3':d'<100) (h:D10 y m d=D10 y' m' d'):y=y'∧m=m'∧d=d':=by
 have t1:∀ y m d,(D10 y m d).take 4=pad4 y:=fun _ _ _=>rfl
 have t2:∀ y m d,((D10 y m d).take 7).drop 5=pad2 m:=fun _ _ _=>rfl
 have t3:∀ y m d,(D10 y m d).drop 8=pad2 d:=fun _ _ _=>rfl
 have e1:=congrArg (fun l=>digV 0 (List.take 4 l)) h
 have e2:=congrArg (fun l=>digV 0 ((List.take 7 l).drop 5)) h
 have e3:=congrArg (fun l=>digV 0 (List.drop 8 l)) h
 simp only[t1,t2,t3]at e1 e2 e3
 rw[(ynu h1).2,(ynu h1').2]at e1
 rw[(y5i h2).2,(y5i h2').2]at e2
 rw[(y5i h3).2,(y5i h3').2]at e3
 exact⟨e1,e2,e3⟩
theorem yfp {a a':Int} (h1:0≤a) (h2:a≤99999) (h1':0≤a') (h2':a'≤99999) (h:zkg a=zkg a'):a=a':=by
 obtain⟨y,m,d,_,_,_,_,_,_,_,hd,e⟩:=ymi h1 h2
 obtain⟨y',m',d',_,_,_,_,_,_,_,hd',e'⟩:=ymi h1' h2'
 rw[e,e']at h
 obtain⟨rfl,rfl,rfl⟩:=yk5 (by omega) (by omega) (by omega) (by omega) (by omega) (by omega) h
 have q:=hd.2.2.2.2.2
 have q':=hd'.2.2.2.2.2
 omega
theorem ydh.unique {w:List UInt8} {r r':Int×Bool} (h:ydh w r) (h':ydh w r'):r=r':=by
 rcases h with⟨n,h0,h1,h2,rfl⟩|⟨h1,rfl⟩<;>rcases h' with⟨n',h0',h1',h2',rfl⟩|⟨h1',rfl⟩
 ·rw[yfp h0 h1 h0' h1' (h2.symm.trans h2')]
 ·exact absurd h2 (h1' n h0 h1)
 ·exact absurd h2' (h1 n' h0' h1')
 ·rfl
theorem ydh.of {w:List UInt8} {r:Int×Bool} (h1:r=(0,false)∨∃ a:Int,0≤a∧a≤99999∧w=zkg a) (h2:∀ a:Int,0≤a→a≤99999→w=zkg a→r=(a,true)):ydh w r:=by
 by_cases h:∃ a:Int,0≤a∧a≤99999∧w=zkg a
 ·obtain⟨a,q1,q2,q3⟩:=h
  exact .inl ⟨a,q1,q2,q3,h2 a q1 q2 q3⟩
 ·refine .inr ⟨fun a q1 q2 q3=>h ⟨a,q1,q2,q3⟩,?_⟩
  rcases h1 with h1|h1
  ·exact h1
  ·exact absurd h1 h
end Go.Ab

namespace Go.Ab
open Go Go.Proofs
def yyi (c : UInt8) : List (List UInt8) → List UInt8
 | []=>[]
 | [x]=>x
 | x::y::r=>x++c::yyi c (y::r)
theorem y8d (c : UInt8) : ∀ l, yyi c (yn c l) = l
 | []=>rfl
 | b::l=>by
  have ih:=y8d c l
  simp only[yn]
  split
  ·rename_i h
   obtain⟨x,r,e⟩:=List.exists_cons_of_ne_nil (yjf c l)
   rw[e]at ih ⊢
   simp only[yyi,List.nil_append]
   rw[ih,h]
  ·obtain⟨x,r,e⟩:=List.exists_cons_of_ne_nil (yjf c l)
   rw[e]at ih ⊢
   simp only
   cases r with
   | nil=>simp only[yyi]at ih ⊢;rw[ih]
   | cons y r=>simp only[yyi,List.cons_append]at ih ⊢;rw[ih]
theorem yal (n:Int):(32:UInt8)∉Lib.itoa n∧Lib.itoa n≠[]:=by
 obtain⟨d1,_,d3,_⟩:=y6 n.natAbs
 by_cases h:n<0
 ·rw[ysb h]
  refine⟨fun hm => ?_,by simp⟩
  rcases List.mem_cons.1 hm with hm|hm
  ·simp at hm
  ·have:=d1 32 hm;simp at this
 ·rw[ywd h]
  exact⟨fun hm=>by have:=d1 32 hm;simp at this,d3⟩
theorem y2w {n:Int} (h:n.natAbs<E18) (hl:(Lib.itoa n).length≤1048576):zg (Lib.itoa n)=(n,true):=by
 rcases y8b (Lib.itoa n) hl with⟨n',h',e,hr⟩|⟨hn,_⟩
 ·rw[hr,yin e]
 ·exact absurd rfl (hn n h)
end Go.Ab

namespace Go.Ab
open Go Go.Proofs
def zxd (a0:(List UInt8)):(Int×Bool):=
 (bif (!((zb a0 [46]).2.2))then(IntKind.wrap .i64 ((IntKind.wrap .i64 (10 * ((zk ((zb a0 [46]).1)).1)))+((zk [48]).1)),(((((zk ((zb a0 [46]).1)).2 && (zk [48]).2) && (zf ((zk ((zb a0 [46]).1)).1) 0 1200)) && (zf ((zk [48]).1) 0 9)) && ((zwd (IntKind.wrap .i64 ((IntKind.wrap .i64 (10 * ((zk ((zb a0 [46]).1)).1)))+((zk [48]).1)))) == a0)))else(IntKind.wrap .i64 ((IntKind.wrap .i64 (10 * ((zk ((zb a0 [46]).1)).1)))+((zk ((zb a0 [46]).2.1)).1)),(((((zk ((zb a0 [46]).1)).2 && (zk ((zb a0 [46]).2.1)).2) && (zf ((zk ((zb a0 [46]).1)).1) 0 1200)) && (zf ((zk ((zb a0 [46]).2.1)).1) 0 9)) && ((zwd (IntKind.wrap .i64 ((IntKind.wrap .i64 (10 * ((zk ((zb a0 [46]).1)).1)))+((zk ((zb a0 [46]).2.1)).1)))) == a0))))
namespace N186
theorem DD:DOk Tryz.prog (Go.Ab.DD [(136,dP D_zk),(181,dP D_zf),(184,dP D_zb),(218,dP D_zwd)]):=ya yfj.e <| ya y2c.e <| ya y1j.e <| ya yvu.e <| ye _
theorem dn:type_of% (And.intro @D_zk.eq_1 <| And.intro @D_zf.eq_1 <| And.intro @D_zb.eq_1 <| @D_zwd.eq_1):=by and_intros<;>intros<;>rfl
theorem ol:type_of% (@zf.eq_1):=@zf.eq_1
theorem gr {p:Prop} (h:p:=by(grind [y3e]);first|done|fail):p:=h
set_option maxHeartbeats 400000 in
set_option maxRecDepth 20000 in
theorem den (a0:(List UInt8)) (hb0:a0.length<1099511627776) (hp0:a0.length≤1048576):Den Tryz.prog 186 [.str a0] (.tup [.int .i64 ((zxd a0).1),.bool ((zxd a0).2)]):=by
 generalize hR:zxd a0=r
 unfold zxd at hR
 refine di Tryz.func186 Tryz.ntmps186 Tryz.results186 ?_
 intro c hL hc hk
 obtain⟨hL0,_⟩:=hL
 have hw0:a0.length<9223372036854775808:=Nat.lt_succ_of_le hL0
 clear hL0
 simp only[pars,Nat.zero_add]
 iterate 3 refine rS ?_
 refine AWP.cond rfl (fun hb => ?_) (fun hb => ?_)
 ·replace hR:=ct hR
  iterate 5 refine rS ?_
  refine AWP.ret ?_
  subst hR
  exact es
 ·replace hR:=cf hR
  iterate 4 refine rS ?_
  refine AWP.ret ?_
  subst hR
  exact es
end N186
def D_zxd : DF
 | [x0]=>some (.tup [.int .i64 ((zxd (rdS x0)).1),.bool ((zxd (rdS x0)).2)],false,[wS x0,(rdS x0).length<1099511627776,(rdS x0).length≤1048576])
 | _=>none
theorem y61:OkD Tryz.prog 186 D_zxd:=by unfold D_zxd;exact dk N186.den
end Go.Ab

namespace Go.Ab
open Go Go.Proofs
theorem yne {n:Int} (h:0≤n) (b:UInt8) (hb:b.toNat<48∨57<b.toNat):b∉Lib.itoa n:=by
 obtain⟨d1,_,_,_⟩:=y6 n.natAbs
 rw[ywd (by omega)]
 intro hm
 have:=d1 b hm
 omega
theorem yyc {n:Int} (h1:0≤n) (h2:n≤1000000):yyb (Lib.itoa n)=(n,true):=by
 rcases ysi (Lib.itoa n)with⟨m,hm,he,hr⟩|⟨hn,_⟩
 ·rw[hr,yin he]
 ·exact absurd rfl (hn n (by unfold E18;omega))
theorem y34 (b : UInt8) (hb : b ≠ 43) : ∀ (xs : List (List UInt8)), (∀ x ∈ xs, b ∉ x) → b ∉ Lib.join xs [43]
 | [],_=>by simp[Lib.join_nil]
 | x::r,h=>by
  rw[Lib.join_cons]
  intro hm
  rcases List.mem_append.1 hm with hm|hm
  ·exact h x (by simp) hm
  ·unfold Lib.joinTail at hm
   rw[List.mem_flatten]at hm
   obtain⟨l,hl,hbl⟩:=hm
   obtain⟨y,hy,rfl⟩:=List.mem_map.1 hl
   rcases List.mem_append.1 hbl with h9|h9
   ·rw[List.mem_singleton]at h9;exact hb h9
   ·exact h y (by simp[hy]) h9
theorem yai (b : UInt8) : ∀ (x : List UInt8) (r : List (List UInt8)), b ∉ x → (∀ y ∈ r, b ∉ y) → yn b (x ++ Lib.joinTail [b] r) = x :: r
 | x,[],hx,_=>by simp[Lib.joinTail,yqb b x hx]
 | x,y::r,hx,hr=>by
  have e:Lib.joinTail [b] (y::r)=b::(y++Lib.joinTail [b] r):=by simp[Lib.joinTail]
  rw[e,yrb b x _ hx,yai b y r (hr y (by simp)) (fun z hz=>hr z (by simp[hz]))]
theorem ybe (g:List Int) (hg:g≠[]) (h2:∀ v∈g,1≤v∧v≤9):yn 43 (Lib.join (g.map Lib.itoa) [43])=g.map Lib.itoa:=by
 cases g with
 | nil=>exact absurd rfl hg
 | cons x r=>
  rw[List.map_cons,Lib.join_cons]
  refine yai 43 _ _ (yne (by have:=h2 x (by simp);omega) 43 (by decide)) ?_
  intro y hy
  obtain⟨z,hz,rfl⟩:=List.mem_map.1 hy
  exact yne (by have:=h2 z (by simp[hz]);omega) 43 (by decide)
theorem yf6 (k:Int) (h:1≤k∧k≤8):(40:UInt8)∉kt k∧(32:UInt8)∉kt k:=by
 rcases(show k=1∨k=2∨k=3∨k=4∨k=5∨k=6∨k=7∨k=8 by omega)with h|h|h|h|h|h|h|h<;>subst h<;>decide
theorem y3m (n:Int) (h1:0<n) (h2:n≤600):zxd (secT n)=(n,true):=by
 have hm:n.tmod 10=n % 10:=Int.tmod_eq_emod_of_nonneg (by omega)
 have z0:Lib.itoa 0=[48]:=by
  rw[ywd (by omega)]
  first|rfl|decide|(rw[show(0:Int).natAbs=0 from rfl,Lib.decDigits];rfl)
 have e0:zk [48]=(0,true):=by
  have:=yyc (n:=0) (by omega) (by omega)
  rw[z0]at this
  exact this
 have e1:zk (Lib.itoa (n / 10))=(n / 10,true):=yyc (by omega) (by omega)
 have hst:=yts n (by omega) h2
 have hcut:∀ s,zb s [46]=Lib.cut s [46]:=fun s=>rfl
 unfold zxd
 simp only[hcut]
 have hw:∀ m:Int,0≤m→m≤100000→IntKind.wrap .i64 m=m:=fun m _ _=>by rw[IntKind.wrap_i64];omega
 by_cases h:n.tmod 10=0
 ·have hs:secT n=Lib.itoa (n / 10):=by unfold secT;rw[if_pos h]
  rw[hs]at hst ⊢
  rw[ybj _ 46 (yne (by omega) 46 (by decide))]
  simp only[Bool.not_false,cond_true]
  rw[e0,e1]
  simp only
  rw[hw (10 * (n / 10)) (by omega) (by omega),hw (10 * (n / 10)+0) (by omega) (by omega),show 10 * (n / 10)+0=n by omega,hst]
  have w1:zf (n / 10) 0 1200=true:=by unfold zf;rw[decide_eq_true (by omega),decide_eq_true (by omega)];rfl
  rw[w1]
  simp[zf]
 ·have hs:secT n=Lib.itoa (n / 10)++(46::Lib.itoa (n % 10)):=by unfold secT;rw[if_neg h]
  have e2:zk (Lib.itoa (n % 10))=(n % 10,true):=yyc (by omega) (by omega)
  rw[hs]at hst ⊢
  rw[yef _ _ 46 (yne (by omega) 46 (by decide))]
  simp only[Bool.not_true,cond_false]
  rw[e1,e2]
  simp only
  rw[hw (10 * (n / 10)) (by omega) (by omega),hw (10 * (n / 10)+n % 10) (by omega) (by omega),show 10 * (n / 10)+n % 10=n by omega,hst]
  have w1:zf (n / 10) 0 1200=true:=by unfold zf;rw[decide_eq_true (by omega),decide_eq_true (by omega)];rfl
  have w2:zf (n % 10) 0 9=true:=by unfold zf;rw[decide_eq_true (by omega),decide_eq_true (by omega)];rfl
  rw[w1,w2]
  simp
end Go.Ab

namespace Go.Ab
open Go Go.Proofs
theorem yor (a b:List UInt8):ze a b=(Lib.trimSuffix a b,Lib.hasSuffix a b):=rfl
theorem ymr (a b:List UInt8):zb a b=Lib.cut a b:=rfl
theorem yxn (k : Int) (hk : 1 ≤ k ∧ k ≤ 8) (b : Int × Int → Except (Sum (Character × Bool) (Int × Int)) (Int × Int))
  (hb:∀ s,b s=(bif decide (s.1≤8)then(bif ((zac s.1) == kt k)then .ok (IntKind.wrap .i64 (s.1+1),s.1)else .ok (IntKind.wrap .i64 (s.1+1),s.2))else .error (.inr (s.1,s.2)))) :
  y7 b (((9-(1:Int)).toNat)+1) (1,0)=.error (.inr (9,k)):=by
 have e:b=fun s=>(bif decide (s.1≤8)then(bif ((zac s.1) == kt k)then .ok (IntKind.wrap .i64 (s.1+1),s.1)else .ok (IntKind.wrap .i64 (s.1+1),s.2))else .error (.inr (s.1,s.2))):=funext hb
 rw[e]
 rcases(show k=1∨k=2∨k=3∨k=4∨k=5∨k=6∨k=7∨k=8 by omega)with h|h|h|h|h|h|h|h<;>subst h<;>rfl
theorem yg6 {ρ : Type} (g : List Int) (h2 : ∀ v ∈ g, 1 ≤ v ∧ v ≤ 9) (r : Nat → List Int → ρ) (b : Nat → List Int → Except ρ (List Int))
  (hb:∀ i s,b i s=(bif (!(zk ((g.map Lib.itoa).getD i default)).2)then .error (r i s)else .ok (s++([(zk ((g.map Lib.itoa).getD i default)).1]:List Int)))) :
  yd b ((g.map Lib.itoa).length-0) 0 []=.ok g:=by
 rw[List.length_map,Nat.sub_zero]
 rw[yxc b (fun j=>[id (g.getD j default)]) g.length 0 [] (fun j s _ hj=>by
  have hj2:j<g.length:=by omega
  have e:(g.map Lib.itoa).getD j default=Lib.itoa (g.getD j default):=by
   rw[List.getD_eq_getElem?_getD,List.getD_eq_getElem?_getD,List.getElem?_map,List.getElem?_eq_getElem hj2];rfl
  have hr:=yuf h2 j
  have e2:zk (Lib.itoa (g.getD j default))=(g.getD j default,true):=yyc (by omega) (by omega)
  rw[hb,e,e2];rfl),yhf g default id]
 simp
theorem ytx (c:Character) (h:zbb c=true) (h8:c.Kind≠8) (hL:c.Letter≠[]):c.Letter=[76]∧c.Group=[6]:=by
 unfold zbb at h
 simp only[Bool.cond_eq_ite]at h
 repeat' split at h
 all_goals (try simp only[Bool.and_eq_true,Bool.or_eq_true,beq_iff_eq,ydf,decide_eq_true_eq]at *)
 all_goals first
  | (exact absurd h.2 hL;done)
  | (exact absurd h.1 hL;done)
  | (exact h)
  | (rename_i q;exact absurd q hL)
  | (rename_i q;exact absurd q h8)
  | (cases h;done)
theorem yam (c:Character) (h:zbb c=true) (h8:c.Kind=8):c.Group=[]∧c.Letter.length=1∧65≤(c.Letter.getD 0 0).toNat∧(c.Letter.getD 0 0).toNat≤90:=by
 unfold zbb at h
 rw[h8]at h
 have h:(((znb c.Letter) != []) && ((c.Group.length:Int) == 0))=true:=h
 rw[Bool.and_eq_true,beq_iff_eq,ykn,decide_eq_true_eq]at h
 exact⟨List.length_eq_zero_iff.1 (by omega),h.1⟩
theorem yrp (k:Int) (h:1≤k∧k≤8):Lib.hasSuffix (kt k) [43,76,70,108]=false:=by
 rcases(show k=1∨k=2∨k=3∨k=4∨k=5∨k=6∨k=7∨k=8 by omega)with h|h|h|h|h|h|h|h<;>subst h<;>decide
theorem y0i (x:List UInt8):Lib.hasSuffix (x++[41]) [43,76,70,108]=false:=yhl x [43,76,70] 41 108 (by decide)
theorem ybz (c:Character) (h:zbb c=true):zj (yvd c)=({ Kind:=c.Kind,Group:=c.Group,Letter:=c.Letter,Colors:=[],Period:=0:Character },true):=by
 have hk:=yld c h
 obtain⟨g1,g2⟩:=ytd c h
 have h40:=(yf6 c.Kind hk).1
 unfold yvd
 by_cases h8:c.Kind=8
 ·obtain⟨f1,f2⟩:=yam c h h8
  rw[if_pos h8,f1,h8]
  have eH:kt 8++40::(c.Letter++[41])=(kt 8++40::c.Letter)++[41]:=by simp
  have c1:ze (kt 8++40::(c.Letter++[41])) [43,76,70,108]=(kt 8++40::(c.Letter++[41]),false):=by
   rw[yor,eH,y0i,yje _ _ (y0i _)]
  have c2:zb (kt 8++40::(c.Letter++[41])) [40]=(kt 8,c.Letter++[41],true):=by rw[ymr,yef _ _ 40 (by decide)]
  have c3:ze (c.Letter++[41]) [41]=(c.Letter,true):=by rw[yor,y7b,ylc]
  have hw:=yxn 8 (by omega) (ypj (kt 8++40::(c.Letter++[41]))) (fun s=>by unfold ypj;rw[c1];simp only;rw[c2])
  unfold zj
  rw[c1]
  simp only
  rw[c2]
  simp only
  rw[c3,hw]
  rfl
 ·rw[if_neg h8]
  have e8:(c.Kind == 8)=false:=by rw[beq_eq_false_iff_ne];exact h8
  by_cases hL:c.Letter=[]
  ·rw[if_pos hL,List.append_nil,hL]
   by_cases hg:c.Group=[]
   ·have eg:grpT c.Group=[]:=by rw[hg];rfl
    rw[eg,List.append_nil,hg]
    have c1:ze (kt c.Kind) [43,76,70,108]=(kt c.Kind,false):=by
     rw[yor,yrp _ hk,yje _ _ (yrp _ hk)]
    have c2:zb (kt c.Kind) [40]=(kt c.Kind,[],false):=by rw[ymr,ybj _ 40 h40]
    have hw:=yxn c.Kind hk (ypj (kt c.Kind)) (fun s=>by unfold ypj;rw[c1];simp only;rw[c2])
    unfold zj
    rw[c1]
    simp only
    rw[c2,hw]
    rfl
   ·have eg:grpT c.Group=40::(Lib.join (c.Group.map Lib.itoa) [43]++[41]):=by unfold grpT;rw[if_neg hg]
    rw[eg]
    generalize hJ:Lib.join (c.Group.map Lib.itoa) [43]=J
    have eH:kt c.Kind++40::(J++[41])=(kt c.Kind++40::J)++[41]:=by simp
    have c1:ze (kt c.Kind++40::(J++[41])) [43,76,70,108]=(kt c.Kind++40::(J++[41]),false):=by
     rw[yor,eH,y0i,yje _ _ (y0i _)]
    have c2:zb (kt c.Kind++40::(J++[41])) [40]=(kt c.Kind,J++[41],true):=by rw[ymr,yef _ _ 40 h40]
    have c3:ze (J++[41]) [41]=(J,true):=by rw[yor,y7b,ylc]
    have c4:zd J [43]=c.Group.map Lib.itoa:=by
     show yn 43 J=_
     rw[← hJ];exact ybe _ hg g2
    have hw:=yxn c.Kind hk (ypj (kt c.Kind++40::(J++[41]))) (fun s=>by unfold ypj;rw[c1];simp only;rw[c2])
    have hg4:∀ s,yd (y9q (kt c.Kind++40::(J++[41])) s) ((c.Group.map Lib.itoa).length-0) 0 []=.ok c.Group:=fun s=>yg6 c.Group g2 (fun _ _=>({ Kind:=0,Group:=[],Letter:=[],Colors:=[],Period:=0:Character },false)) _ (fun i t=>by unfold y9q;rw[c1];simp only;rw[c2];simp only;rw[c3];simp only;rw[c4])
    unfold zj
    rw[c1]
    simp only
    rw[c2]
    simp only
    rw[c3]
    simp only
    rw[c4,hw]
    simp only[hg4,e8,cond_false,Bool.not_true]
  ·obtain⟨l1,l2⟩:=ytx c h h8 hL
   rw[if_neg hL]
   have hg:c.Group≠[]:=by rw[l2];simp
   have eg:grpT c.Group=40::(Lib.join (c.Group.map Lib.itoa) [43]++[41]):=by unfold grpT;rw[if_neg hg]
   rw[eg]
   generalize hJ:Lib.join (c.Group.map Lib.itoa) [43]=J
   have eH:kt c.Kind++(40::(J++[41])++[43,76,70,108])=(kt c.Kind++40::(J++[41]))++[43,76,70,108]:=by simp
   rw[eH,l1]
   have c1:ze ((kt c.Kind++40::(J++[41]))++[43,76,70,108]) [43,76,70,108]=(kt c.Kind++40::(J++[41]),true):=by
    rw[yor,y7b,ylc]
   have c2:zb (kt c.Kind++40::(J++[41])) [40]=(kt c.Kind,J++[41],true):=by rw[ymr,yef _ _ 40 h40]
   have c3:ze (J++[41]) [41]=(J,true):=by rw[yor,y7b,ylc]
   have c4:zd J [43]=c.Group.map Lib.itoa:=by
    show yn 43 J=_
    rw[← hJ];exact ybe _ hg g2
   have hw:=yxn c.Kind hk (yzr ((kt c.Kind++40::(J++[41]))++[43,76,70,108])) (fun s=>by unfold yzr;rw[c1];simp only;rw[c2])
   have hg4:∀ s,yd (yfr ((kt c.Kind++40::(J++[41]))++[43,76,70,108]) s) ((c.Group.map Lib.itoa).length-0) 0 []=.ok c.Group:=fun s=>yg6 c.Group g2 (fun _ _=>({ Kind:=0,Group:=[],Letter:=[],Colors:=[],Period:=0:Character },false)) _ (fun i t=>by unfold yfr;rw[c1];simp only;rw[c2];simp only;rw[c3];simp only;rw[c4])
   unfold zj
   rw[c1]
   simp only
   rw[c2]
   simp only
   rw[c3]
   simp only
   rw[c4,hw]
   simp only[hg4,e8,cond_false,cond_true,Bool.not_true]
end Go.Ab

namespace Go.Ab
open Go Go.Proofs
def zbf (a0:Point):(List UInt8):=
 (bif (!(zcd a0))then[]else((zo a0.X)++[44])++(zo a0.Y))
namespace N108
theorem DD:DOk Tryz.prog (Go.Ab.DD [(107,dP D_zo),(211,dP D_zcd)]):=ya yjk.e <| ya ynn.e <| ye _
theorem dn:type_of% (And.intro @D_zo.eq_1 <| @D_zcd.eq_1):=by and_intros<;>intros<;>rfl
theorem gr {p:Prop} (h:p:=by(grind [y7e]);first|done|fail):p:=h
theorem o0 {p:Prop} (h:p:=by(first|(have h9:=yv5 (p:=a0) (by assumption);have l1:=y7e a0.X;have l2:=y7e a0.Y;(repeat' with_reducible apply And.intro)<;>(first|omega|assumption|(simp only[List.length_append,List.length_cons,List.length_nil,List.length_singleton];omega)|(refine Nat.le_trans (y3h _ _) ?_;simp only[jl,List.length_cons,List.length_nil];omega))));first|done|fail):p:=h
set_option maxHeartbeats 1000000 in
set_option maxRecDepth 20000 in
theorem den (a0:Point)  : Den Tryz.prog 108 [.agg (y3c a0)] (.str (zbf a0)):=by
 generalize hR:zbf a0=r
 unfold zbf at hR
 refine di Tryz.func108 Tryz.ntmps108 Tryz.results108 ?_
 intro c hL hc hk
 clear hL
 simp only[pars,Nat.zero_add]
 iterate 2 refine rS ?_
 refine AWP.cond rfl (fun hb => ?_) (fun hb => ?_)
 ·replace hR:=ct hR
  refine rS ?_
  refine AWP.ret ?_
  subst hR
  exact es
 ·replace hR:=cf hR
  refine rD 7 ?_
  refine AWP.ret ?_
  subst hR
  exact es
end N108
def D_zbf : DF
 | [x0]=>some (.str (zbf (rdG yye x0)),false,[wG y3c yye x0])
 | _=>none
theorem yk1:OkD Tryz.prog 108 D_zbf:=by unfold D_zbf;exact dk N108.den
end Go.Ab

namespace Go.Ab
open Go Go.Proofs
def zig (a0:Point):(List UInt8):=
 ((zi a0.X)++[44])++(zi a0.Y)
end Go.Ab

namespace Go.Ab
open Go Go.Proofs
def zrd (a0:Mark):(List UInt8):=
 (bif (!(zoc a0))then[]else(bif (a0.Kind == 0)then(zuc 0)else(bif (a0.Topmark == [])then(zub [(zuc a0.Kind),a0.Colors,a0.Shape,[45]] [32])else(zub [(zuc a0.Kind),a0.Colors,a0.Shape,a0.Topmark] [32]))))
namespace N16
theorem DD:DOk Tryz.prog (Go.Ab.DD [(17,dP D_zoc),(22,dP D_zuc),(83,dP D_zub)]):=ya y2m.e <| ya yvm.e <| ya ycj.e <| ye _
theorem dn:type_of% (And.intro @D_zoc.eq_1 <| And.intro @D_zuc.eq_1 <| @D_zub.eq_1):=by and_intros<;>intros<;>rfl
theorem o0 {p:Prop} (h:p:=by(first|(have h9:=yny (m:=a0) (by assumption);have l1:=y2x a0.Kind;(repeat' with_reducible apply And.intro)<;>(first|omega|assumption|(simp only[List.length_append,List.length_cons,List.length_nil,List.length_singleton];omega)|(refine Nat.le_trans (y3h _ _) ?_;simp only[jl,List.length_cons,List.length_nil];omega))));first|done|fail):p:=h
theorem lx {p:Prop} (h:p:=by(exact lxx);first|done|fail):p:=h
set_option maxHeartbeats 1000000 in
set_option maxRecDepth 20000 in
theorem den (a0:Mark) (hb0:bdMark a0):Den Tryz.prog 16 [.agg (y6c a0)] (.str (zrd a0)):=by
 generalize hR:zrd a0=r
 unfold zrd at hR
 refine di Tryz.func16 Tryz.ntmps16 Tryz.results16 ?_
 intro c hL hc hk
 obtain⟨hL0,_⟩:=hL
 have hw0:bwMark a0:=ycd a0 hL0
 clear hL0
 simp only[pars,Nat.zero_add]
 iterate 2 refine rS ?_
 refine AWP.cond rfl (fun hb => ?_) (fun hb => ?_)
 ·replace hR:=ct hR
  refine rS ?_
  refine AWP.ret ?_
  subst hR
  exact es
 ·replace hR:=cf hR
  refine rS ?_
  refine AWP.cond rfl (fun hb => ?_) (fun hb => ?_)
  ·replace hR:=ct hR
   refine rS ?_
   refine AWP.ret ?_
   subst hR
   exact es
  ·replace hR:=cf hR
   iterate 2 refine rS ?_
   refine AWP.cond rfl (fun hb => ?_) (fun hb => ?_)
   ·replace hR:=ct hR
    refine rS ?_
    refine rD 8 ?_
    refine AWP.ret ?_
    subst hR
    exact es
   ·replace hR:=cf hR
    refine rD 8 ?_
    refine AWP.ret ?_
    subst hR
    exact es
end N16
def D_zrd : DF
 | [x0]=>some (.str (zrd (rdG y4d x0)),false,[wG y6c y4d x0,bdMark (rdG y4d x0)])
 | _=>none
theorem y1u:OkD Tryz.prog 16 D_zrd:=by unfold D_zrd;exact dk N16.den
end Go.Ab

namespace Go.Ab
open Go Go.Proofs
def zxc (a0:Mark):(List UInt8):=
 (bif (a0.Kind == 0)then[110,111,110,101]else(bif (a0.Topmark == [])then(((((((zhb ).getD ((a0.Kind).toNat) default)++[32])++a0.Colors)++[32])++a0.Shape)++[32])++[45]else(((((((zhb ).getD ((a0.Kind).toNat) default)++[32])++a0.Colors)++[32])++a0.Shape)++[32])++a0.Topmark))
namespace N281
theorem DD:DOk Tryz.prog (Go.Ab.DD [(333,dP D_zhb)]):=ya yzu.e <| ye _
theorem DZ:DOk Tryz.prog (Go.Ab.DD [(333,dP Dz_zhb)]):=ya y3y.e <| ye _
theorem dn:type_of% (And.intro @D_zhb.eq_1 <| @Dz_zhb.eq_1):=by and_intros<;>intros<;>rfl
theorem o0 {p:Prop} (h:p:=by(first|((repeat' with_reducible apply And.intro)<;>(first|omega|assumption|(simp only[List.length_append,List.length_cons,List.length_nil,List.length_singleton];omega)|(refine Nat.le_trans (y3h _ _) ?_;simp only[jl,List.length_cons,List.length_nil];omega))));first|done|fail):p:=h
set_option maxHeartbeats 1000000 in
set_option maxRecDepth 20000 in
theorem den (a0:Mark) (hb0:bdMark a0) (hp0:zz a0=true):Den Tryz.prog 281 [.ep (y6c a0)] (.str (zxc a0)):=by
 generalize hR:zxc a0=r
 unfold zxc at hR
 refine di Tryz.func281 Tryz.ntmps281 Tryz.results281 ?_
 intro c hL hc hk
 obtain⟨hL0,_⟩:=hL
 have hw0:bwMark a0:=ycd a0 hL0
 clear hL0
 simp only[pars,Nat.zero_add]
 have h9:=ytg (m:=a0) hp0
 have hn:=yq3 a0.Kind.toNat
 have hn2:zhb.length=10:=rfl
 iterate 2 refine rS ?_
 refine AWP.cond rfl (fun hb => ?_) (fun hb => ?_)
 ·replace hR:=ct hR
  refine rS ?_
  refine AWP.ret ?_
  subst hR
  exact es
 ·replace hR:=cf hR
  iterate 2 refine rS ?_
  refine AWP.cond rfl (fun hb => ?_) (fun hb => ?_)
  ·replace hR:=ct hR
   refine rS ?_
   refine rZ 22 ?_
   refine AWP.ret ?_
   subst hR
   exact es
  ·replace hR:=cf hR
   refine rZ 22 ?_
   refine AWP.ret ?_
   subst hR
   exact es
end N281
def D_zxc : DF
 | [x0]=>some (.str (zxc (rdP y4d x0)),false,[wP y6c y4d x0,bdMark (rdP y4d x0),zz (rdP y4d x0)=true])
 | _=>none
theorem yjz:OkD Tryz.prog 281 D_zxc:=by unfold D_zxc;exact dk N281.den
end Go.Ab

namespace Go.Ab
open Go Go.Proofs
def zhg (a0:Mark):(List UInt8):=
 (bif (!(zz a0))then[]else(zxc a0))
end Go.Ab

namespace Go.Ab
open Go Go.Proofs
def y6l (a0:(List Sector)) (i1:Nat) (s1:List (List UInt8)):Except ((List UInt8)) (List (List UInt8)):=
 .ok (s1++[(((zo ((a0.getD i1 default).From))++[45])++(zo ((a0.getD i1 default).To)))++((a0.getD i1 default).Color)])
def zlc (a0:(List Sector)):(List UInt8):=
 (bif (!(zy a0))then[]else(bif ((a0.length:Int) == 0)then[45]else(match yd (y6l a0) (a0.length-0) 0 ([]:List (List UInt8))with|.error e=>e|.ok s1=>(zub s1 [44]))))
namespace N109
theorem DD:DOk Tryz.prog (Go.Ab.DD [(107,dP D_zo),(215,dP D_zy),(83,dP D_zub)]):=ya yjk.e <| ya yms.e <| ya ycj.e <| ye _
theorem dn:type_of% (And.intro @D_zo.eq_1 <| And.intro @D_zy.eq_1 <| @D_zub.eq_1):=by and_intros<;>intros<;>rfl
theorem gr {p:Prop} (h:p:=by(grind [y7e]);first|done|fail):p:=h
theorem o0 {p:Prop} (h:p:=by(first|((have h8:=hsr (by assumption);have h9:=h8.2 i1;have l1:=y7e (a0.getD i1 default).From;have l2:=y7e (a0.getD i1 default).To;(repeat' with_reducible apply And.intro)<;>(first|omega|assumption|(simp only[List.length_append,List.length_cons,List.length_nil,List.length_singleton];omega)|(refine Nat.le_trans (y3h _ _) ?_;simp only[jl,List.length_cons,List.length_nil];omega))))|(have h8:=hsr (by assumption);obtain⟨w1,w2⟩:=hW1;have h9:=yoh [44] s1 1000 w2;simp only[List.length_singleton]at h9;(repeat' with_reducible apply And.intro)<;>omega));first|done|fail):p:=h
set_option maxHeartbeats 1000000 in
set_option maxRecDepth 20000 in
theorem den (a0:(List Sector)) (hb0:a0.length<1099511627776) (hb1:∀ v∈a0,bdSector v):Den Tryz.prog 109 [encL 3 ym a0] (.str (zlc a0)):=by
 generalize hR:zlc a0=r
 unfold zlc at hR
 refine di Tryz.func109 Tryz.ntmps109 Tryz.results109 ?_
 intro c hL hc hk
 obtain⟨hL0,_⟩:=hL
 have hw0:a0.length<9223372036854775808:=Nat.lt_succ_of_le (yf hL0).1
 have hw1:∀ v∈a0,bwSector v:=fun v hv=>yw v ((yf hL0).2 v hv)
 clear hL0
 simp only[pars,Nat.zero_add]
 have hsr:=fun h=>y60 (a:=a0) hb0 h
 iterate 2 refine rS ?_
 refine AWP.cond rfl (fun hb => ?_) (fun hb => ?_)
 ·replace hR:=ct hR
  refine rS ?_
  refine AWP.ret ?_
  subst hR
  exact es
 ·replace hR:=cf hR
  refine rS ?_
  refine AWP.cond rfl (fun hb => ?_) (fun hb => ?_)
  ·replace hR:=ct hR
   refine rS ?_
   refine AWP.ret ?_
   subst hR
   exact es
  ·replace hR:=cf hR
   iterate 2 refine rS ?_
   refine AWP.block ?_
   generalize hz1:yd (y6l a0) (a0.length-0) 0 ([]:List (List UInt8))=z1 at hR
   refine AWP.range (y6l a0) (fun i1 s1=>⟨[(3,.ref 0 1 0 s1.length),(13,encL 3 ym a0),(14,.int .i64 (a0.length:Int)),(15,.int .i64 (i1:Int))],[.arr 9 1 s1.length (fun j=>eS (s1.getD j default))]⟩) (fun i1 s1=>s1.length≤i1∧∀ v∈s1,v.length≤1000) (a0.length) 0 ([]:List (List UInt8)) [0] hz1 ot wt sm ?_
   clear hz1
   intro i1 s1 hi1 hW1 hz1
   refine rS ?_
   refine AWP.seq ?_
   refine AWP.cond rfl (fun hb => ?_) (fun hb => ?_)
   ·have hlt1:i1<a0.length:=ot
    rw[yh hlt1]at hz1;simp only[y6l]at hz1
    refine rS ?_
    refine AWP.regP mixed G_ok DD hc 13 [0,1,2,3,4,5,6,7,8,9,10,11] (.alt 12 [] [0,1,2,5] .leaf .stop) (by kernel_rfl) (by kernel_rfl) (by kernel_rfl) (fun K hK => ?_);simp only[yeg,runN,runP,ywb,nthO,ea,absV,absVL,cput,gv,sv,dn,reduceCtorEq,reduceIte,Nat.reduceBEq,Nat.reduceAdd,Nat.reduceEqDiff,Nat.reduceLT,Nat.reduceLeDiff,Nat.reduceMul,Nat.reduceSub,BEq.rfl,beq_self_eq_true,Int.reduceToNat]
    repeat' apply And.intro
    all_goals first|refine hK _ ?_|exact ot
    all_goals clear hK K
    refine rS ?_
    exact⟨_,[3],hlt1,by(have h8:=hsr (by assumption);have h9:=h8.2 i1;have l1:=y7e (a0.getD i1 default).From;have l2:=y7e (a0.getD i1 default).To;obtain⟨w1,w2⟩:=hW1;(repeat' with_reducible apply And.intro)<;>first|(simp only[List.length_append,List.length_cons,List.length_nil,List.length_singleton];omega)|(intro v hv;exact(List.mem_append.1 hv).elim (fun h=>w2 v h) (fun h=>by rw[List.mem_singleton]at h;subst h;simp only[List.length_append,List.length_cons,List.length_nil,List.length_singleton];omega))),hz1,sm⟩
   ·obtain rfl:i1=a0.length:=ot
    rw[yg (Nat.le_refl _)]at hz1;subst hz1;dsimp only at hR
    refine AWP.exit ?_;refine yb ?_
    refine rS ?_
    refine AWP.ret ?_
    subst hR
    exact es
end N109
def D_zlc : DF
 | [x0]=>some (.str (zlc (rdL yq x0)),false,[wL 3 ym yq x0,(rdL yq x0).length<1099511627776,∀ v∈(rdL yq x0),bdSector v])
 | _=>none
theorem ylt:OkD Tryz.prog 109 D_zlc:=by unfold D_zlc;exact dk N109.den
end Go.Ab

namespace Go.Ab
open Go Go.Proofs
def y6y (a0:(List Sector)) (i1:Nat) (s1:List UInt8):Except ((List UInt8)) (List UInt8):=
 (bif decide (0<(i1:Int))then .ok ((s1++[44])++((((zi ((a0.getD i1 default).From))++[45])++(zi ((a0.getD i1 default).To)))++((a0.getD i1 default).Color)))else .ok (s1++((((zi ((a0.getD i1 default).From))++[45])++(zi ((a0.getD i1 default).To)))++((a0.getD i1 default).Color))))
def zof (a0:(List Sector)):(List UInt8):=
 (bif ((a0.length:Int) == 0)then[45]else(match yd (y6y a0) (a0.length-0) 0 []with|.error e=>e|.ok s1=>s1))
end Go.Ab

namespace Go.Ab
open Go Go.Proofs
theorem y77 {p:Point} (h:zcc p=true):zbf p=zig p∧(zig p).length≤13:=by
 have hr:=yay h
 unfold zbf zig
 rw[show zcd p=zcc p from rfl,h,y1f _ (by omega) (by omega),y1f _ (by omega) (by omega)]
 refine⟨rfl,?_⟩
 have h1:=yxg p.X 5 (by omega) (by show p.X<(1000000:Int);omega)
 have h2:=yxg p.Y 5 (by omega) (by show p.Y<(1000000:Int);omega)
 simp only[List.length_append,List.length_cons,List.length_nil]
 omega
theorem y97 (a b c d:List UInt8) (s:List UInt8):Lib.join [a,b,c,d] s=a++(s++(b++(s++(c++(s++d))))):=by
 simp[Lib.join_cons,Lib.joinTail]
theorem ycz {k:Int} (h:0≤k∧k≤9):zuc k=zhb.getD k.toNat default:=yh1 _ _ (by omega) (by show k<10;omega)
theorem yg7 (m:Mark):zrd m=zhg m:=by
 unfold zrd zhg zxc
 rw[yqd,show zvc m=zz m from rfl]
 cases h:zz m with
 | false=>rfl
 | true=>
  simp only[Bool.not_true,cond_false]
  by_cases hk:m.Kind=0
  ·rw[show(m.Kind == 0)=true by simp[hk],cond_true,cond_true];rfl
  ·rw[show(m.Kind == 0)=false by simp[hk],cond_false,cond_false]
   have hr:=ytg (m:=m) h
   rw[ycz ⟨hr.1,hr.2.1⟩]
   have e:∀ a b c d:List UInt8,zub [a,b,c,d] [32]=a++([32]++(b++([32]++(c++([32]++d))))):=fun a b c d=>y97 a b c d [32]
   rw[e,e]
   simp only[List.append_assoc]
theorem yf7 (m:Mark):(zhg m).length≤40:=by
 unfold zhg zxc
 cases h:zz m with
 | false=>simp
 | true=>
  have hr:=ytg (m:=m) h
  simp only[Bool.not_true,cond_false]
  have hn:(zhb.getD m.Kind.toNat default).length≤7:=by
   rcases(show m.Kind=0∨m.Kind=1∨m.Kind=2∨m.Kind=3∨m.Kind=4∨m.Kind=5∨m.Kind=6∨m.Kind=7∨m.Kind=8∨m.Kind=9 by omega)with e|e|e|e|e|e|e|e|e|e<;>rw[e]<;>decide
  simp only[Bool.cond_eq_ite]
  repeat' split
  all_goals (try simp only[List.length_append,List.length_cons,List.length_nil])
  all_goals omega
def scT (s:Sector):List UInt8:=Lib.itoa s.From++(45::(Lib.itoa s.To++s.Color))
def scsT (a:List Sector):List UInt8:=if a=[]then[45]else Lib.join (a.map scT) [44]
theorem ynr {a:List Sector} (h:zr a=true):zlc a=scsT a:=by
 have hr:=yog h
 unfold zlc scsT
 rw[ynb a (by omega),h]
 simp only[Bool.not_true,cond_false]
 by_cases ha:a=[]
 ·rw[ha];rfl
 ·have hp:0<a.length:=List.length_pos_iff.2 ha
  rw[if_neg ha,show((a.length:Int) == 0)=false by rw[beq_eq_false_iff_ne];omega,cond_false]
  have hl:=yxc (y6l a) (fun j=>[scT (a.getD j default)]) a.length 0 [] (fun j s _ _=>by
   unfold y6l scT
   simp[y30])
  rw[yhf a default scT,List.nil_append]at hl
  rw[Nat.sub_zero,hl]
  rfl
theorem y0h {a:List Sector} (h:zr a=true):zof a=scsT a:=by
 have hr:=yog h
 unfold zof scsT
 by_cases ha:a=[]
 ·rw[ha];rfl
 ·have hp:0<a.length:=List.length_pos_iff.2 ha
  rw[if_neg ha,show((a.length:Int) == 0)=false by rw[beq_eq_false_iff_ne];omega,cond_false]
  have hl:=yxc (y6y a) (fun j=>(if j=0 then[]else[44])++scT (a.getD j default)) a.length 0 [] (fun j s _ _=>by
   have h9:=hr.2 j
   unfold y6y scT
   rw[y1f _ (by omega) (by omega),y1f _ (by omega) (by omega)]
   by_cases hj:j=0
   ·subst hj;simp
   ·rw[decide_eq_true (show(0:Int)<(j:Int)by omega),if_neg hj];simp)
  rw[Nat.sub_zero,hl,List.nil_append]
  simp only
  cases a with
  | nil=>exact absurd rfl ha
  | cons x r=>
   rw[List.length_cons,List.range'_succ,List.flatMap_cons,List.map_cons,Lib.join_cons, ← ygw 44 default scT x r]
   have:(List.range' (0+1) r.length).flatMap (fun j=>(if j=0 then[]else[44])++scT ((x::r).getD j default))=(List.range' 1 r.length).flatMap (fun j=>(44:UInt8)::scT ((x::r).getD j default)):=by
    rw[List.flatMap_def,List.flatMap_def]
    congr 1
    apply List.map_congr_left
    intro j hj
    rw[List.mem_range'_1]at hj
    rw[if_neg (by omega)];rfl
   rw[this]
   simp
theorem ys4 {a:List Sector} (h:zr a=true):(scsT a).length≤120:=by
 have hr:=yog h
 unfold scsT
 split
 ·simp
 ·have h1:=yoh [44] (a.map scT) 8 (fun x hx=>by
   obtain⟨s,hs,rfl⟩:=List.mem_map.1 hx
   obtain⟨i,hi,e⟩:=List.getElem_of_mem hs
   have h9:=hr.2 i
   have hg:a.getD i default=s:=by rw[List.getD_eq_getElem?_getD,List.getElem?_eq_getElem hi,e];rfl
   rw[hg]at h9
   have h1:=yxg s.From 2 (by omega) (by show s.From<(1000:Int);omega)
   have h2:=yxg s.To 2 (by omega) (by show s.To<(1000:Int);omega)
   unfold scT
   simp only[List.length_append,List.length_cons]
   omega)
  rw[List.length_map]at h1
  simp only[List.length_singleton]at h1
  have:a.length * (8+1)≤12 * 9:=Nat.mul_le_mul hr.1 (by omega)
  omega
theorem yfe {ρ σ : Type} {b : Nat → σ → Except ρ σ} {e0 : ρ} (h : ∀ j s e, b j s = .error e → e = e0) : ∀ (n i : Nat) (s : σ) (e : ρ), yd b n i s = .error e → e = e0
 | 0,i,s,e,he=>by simp[yd]at he
 | n+1,i,s,e,he=>by
  simp only[yd]at he
  cases hb:b i s with
  | error e'=>
   rw[hb]at he
   have he:e'=e:=by simpa using he
   rw[← he];exact h _ _ _ hb
  | ok s'=>rw[hb]at he;exact yfe h n (i+1) s' e he
theorem yth {ρ σ : Type} {b : Nat → σ → Except ρ σ} (E : ρ → Prop) (h : ∀ j s e, b j s = .error e → E e) : ∀ (n i : Nat) (s : σ) (e : ρ), yd b n i s = .error e → E e
 | 0,i,s,e,he=>by simp[yd]at he
 | n+1,i,s,e,he=>by
  simp only[yd]at he
  cases hb:b i s with
  | error e'=>
   rw[hb]at he
   have he:e'=e:=by simpa using he
   rw[← he];exact h _ _ _ hb
  | ok s'=>rw[hb]at he;exact yth E h n (i+1) s' e he
theorem y2l {c:Character} (h:zw c=true):c.Colors.length≤3:=by
 unfold zw at h
 cases h1:((!(zrb c.Colors)) || (!(zbb c)))with
 | true=>rw[h1]at h;cases h
 | false=>
  rw[Bool.or_eq_false_iff]at h1
  have h2:zrb c.Colors=true:=by simpa using h1.1
  unfold zrb at h2
  have he:=yfe (b:=ysh c.Colors) (e0:=false) (fun j s e h=>by
   unfold ysh at h
   rw[Bool.cond_eq_ite]at h
   split at h
   ·simpa using h.symm
   ·cases h) (c.Colors.length-0) 0 (-1)
  generalize yd (ysh c.Colors) (c.Colors.length-0) 0 (-1)=z at h2 he
  cases z with
  | error e=>have:=he e rfl;subst this;cases h2
  | ok s=>simp[zf]at h2;omega
theorem yh7 {c:Character} (h:zw c=true):(chrT c).length≤40:=by
 have hf:=y6b c h
 have hv:=y0c c h
 have hk:=yld c hf
 have hp:=yfd c h
 have hc:=y2l h
 have hK:(kt c.Kind).length≤3:=by
  rcases(show c.Kind=1∨c.Kind=2∨c.Kind=3∨c.Kind=4∨c.Kind=5∨c.Kind=6∨c.Kind=7∨c.Kind=8 by omega)with e|e|e|e|e|e|e|e<;>rw[e]<;>decide
 have hg:(grpT c.Group).length≤10:=by
  unfold grpT
  split
  ·simp
  ·have h1:=yoh [43] (c.Group.map Lib.itoa) 1 (fun x hx=>by
    obtain⟨s,hs,rfl⟩:=List.mem_map.1 hx
    have:=hv.2.1 s hs
    exact yxg s 0 (by omega) (by show s<(10:Int);omega))
   rw[List.length_map,List.length_singleton]at h1
   simp only[List.length_append,List.length_cons,List.length_nil]
   omega
 have hs:(perT c.Period).length≤8:=by
  unfold perT secT
  split
  ·simp
  ·have h1:=yxg (c.Period / 10) 1 (by omega) (by show c.Period / 10<(100:Int);omega)
   have h2:=yxg (c.Period % 10) 0 (by omega) (by show c.Period % 10<(10:Int);omega)
   split<;>simp only[List.length_append,List.length_cons,List.length_nil]<;>omega
 have hh:(yvd c).length≤17:=by
  unfold yvd
  split
  ·rename_i h8
   have h9:=yam c hf h8
   have:(kt 8).length=2:=rfl
   simp only[List.length_append,List.length_cons,List.length_nil]
   omega
  ·split<;>simp only[List.length_append,List.length_cons,List.length_nil]<;>omega
 unfold chrT
 simp only[List.length_append,List.length_cons]
 omega
theorem yf5 {c:Character} (h:zob c=true) (hl:c.Colors.length<9223372036854775808):zrc c=zfb c∧(zfb c).length≤40:=by
 rw[← ypf c hl]at h
 rw[y2j c h,yck c h]
 exact⟨rfl,yh7 h⟩
theorem y95 {a:Aid} (h:zdc a=true) (hl:a.Light.Colors.length<9223372036854775808) :
  (zo a.Number=zi a.Number∧(zi a.Number).length≤4)∧(zbf a.At=zig a.At∧(zig a.At).length≤13)∧(zo a.Height=zi a.Height∧(zi a.Height).length≤4) ∧
  (zrd a.Mark=zhg a.Mark∧(zhg a.Mark).length≤40)∧(zdg a=true→zrc a.Light=zfb a.Light∧(zfb a.Light).length≤40) ∧
  (zlc a.Sectors=zof a.Sectors∧(zof a.Sectors).length≤120)∧(zo a.Intensity=zi a.Intensity∧(zi a.Intensity).length≤9)∧a.Name.length≤10:=by
 obtain⟨n1,n2,nm,at1,h1,h2,mk,lt,sx,i1,i2⟩:=ybf h
 have dq:∀ (n:Int) (k:Nat),0≤n→n≤100000000→n<((10 ^ (k+1):Nat):Int)→zo n=zi n∧(zi n).length≤k+1:=fun n k a b c=>by
  rw[y1f n (by omega) (by omega)]
  exact⟨rfl,yxg n k a c⟩
 refine⟨dq _ 3 (by omega) (by omega) (by show _<(10000:Int);omega),y77 at1,dq _ 3 (by omega) (by omega) (by show _<(10000:Int);omega),⟨yg7 _,yf7 _⟩,fun hq=>yf5 (lt hq) hl,⟨by rw[ynr sx,y0h sx],by rw[y0h sx];exact ys4 sx⟩,dq _ 8 (by omega) (by omega) (by show _<(1000000000:Int);omega),yst nm⟩
end Go.Ab
