/- A part of a proof: walks of functions and lemmas of our own. No conditions. -/
import Derived.Test.YtopoomikfjodkaaGreatDoorRBi
import Derived.Test.YtopoomikfjodkaaGreatDoorRBj
import Derived.Test.YtopoomikfjodkaaGreatDoorRAv
import Derived.Test.YtopoomikfjodkaaGreatDoorRBd
import Derived.Test.YtopoomikfjodkaaGreatDoorRAw
import Derived.Test.YtopoomikfjodkaaGreatDoorRBc
import Derived.Test.YtopoomikfjodkaaGreatDoorRAl
import Derived.Test.YtopoomikfjodkaaGreatDoorRAq
import Derived.Test.YtopoomikfjodkaaGreatDoorRAp
set_option linter.unusedSectionVars false
set_option linter.unusedVariables false
set_option linter.unusedSimpArgs false
set_option maxHeartbeats 1000000
namespace Go.Ab
open Go Go.Proofs
theorem yq1 {p:Point} (h:zgd p=true):0≤p.X∧p.X≤200000∧0≤p.Y∧p.Y≤200000:=by
 simp[zgd,zg]at h;omega
theorem yxf {a:List Sector} (h:zx a=true):a.length≤12∧∀ i,i<a.length→zde (a.getD i default)=true:=by
 unfold zx at h
 cases h12:decide (12<(a.length:Int))with
 | true=>rw[h12]at h;cases h
 | false=>
  rw[h12]at h
  have h12:=of_decide_eq_false h12
  refine⟨by omega,fun i hi => ?_⟩
  rcases yvg (b:=y20 a) (secQ a) (fun _ u=>u) false (k:=a.length-0) (i:=0) (s:=()) (fun j u _ _=>by cases u;rfl)with⟨_,e1⟩|⟨hq,_⟩
  ·rw[e1]at h;cases h
  ·exact((y4y a i (by omega)).1 (hq i (Nat.zero_le _) (by omega))).1
theorem yyu {c:List UInt8} (h:zvg c=true):c=[87]∨c=[82]∨c=[71]∨c=[89]:=by
 unfold zvg at h
 simp only[Bool.or_eq_true,beq_iff_eq]at h
 rcases h with((h|h)|h)|h
 ·exact .inl h
 ·exact .inr (.inl h)
 ·exact .inr (.inr (.inl h))
 ·exact .inr (.inr (.inr h))
theorem yyh {a:List Sector} (h:zx a=true):a.length≤12∧∀ i,0≤(a.getD i default).From∧(a.getD i default).From≤359∧0≤(a.getD i default).To∧(a.getD i default).To≤359∧(a.getD i default).Color.length≤1:=by
 obtain⟨h1,h2⟩:=yxf h
 refine⟨h1,fun i => ?_⟩
 by_cases hi:i<a.length
 ·have h3:=h2 i hi
  have hb:=ybv h3
  unfold zde at h3
  rw[Bool.and_eq_true]at h3
  refine⟨hb.1.1,hb.1.2,hb.2.1,hb.2.2,?_⟩
  rcases yyu h3.2 with h|h|h|h<;>rw[h]<;>decide
 ·rw[List.getD_eq_getElem?_getD,List.getElem?_eq_none (by omega)]
  decide
theorem yzn {m:Mark} (h:zie m=true):(m.Kind=0∧m.Colors=[]∧m.Shape=[]∧m.Topmark=[]) ∨
  (zbc m.Kind=true∧m.Colors=znd m.Kind∧(m.Topmark=[]∨m.Topmark=zne m.Kind)∧m.Shape∈zy m.Kind):=by
 rw[show zie m=zgb m from rfl]at h
 unfold zgb at h
 by_cases hk:m.Kind=0
 ·left
  rw[show(m.Kind == 0)=true by simp[hk]]at h
  simp only[cond_true,Bool.and_eq_true,beq_iff_eq]at h
  exact⟨hk,h.2.1,h.2.2.1,h.2.2.2⟩
 ·right
  rw[show(m.Kind == 0)=false by simp[hk],cond_false]at h
  cases hc:(((!(zbc m.Kind)) || (m.Colors != (znd m.Kind))) || ((m.Topmark != []) && (m.Topmark != (zne m.Kind))))with
  | true=>rw[hc]at h;cases h
  | false=>
   rw[hc,cond_false]at h
   have h:=(y4j m).symm.trans h
   rw[List.any_eq_true]at h
   simp only[Bool.or_eq_false_iff,Bool.not_eq_false',Bool.and_eq_false_iff,bne_eq_false_iff_eq]at hc
   obtain⟨y,hy,he⟩:=h
   exact⟨hc.1.1,hc.1.2,hc.2,by rw[← eq_of_beq he];exact hy⟩
theorem y1g {m:Mark} (h:zie m=true):0≤m.Kind∧m.Kind≤9∧m.Colors.length≤3∧m.Shape.length≤6∧m.Topmark.length≤5:=by
 rcases yzn h with⟨h1,h2,h3,h4⟩|⟨h1,h2,h3,h4⟩
 ·rw[h1,h2,h3,h4];simp
 ·have hk:=h1
  unfold zbc zg at hk
  simp only[Bool.and_eq_true,decide_eq_true_eq]at hk
  refine⟨by omega,by omega,?_,?_,?_⟩
  ·rw[h2];rcases yue h1 with e|e|e|e|e|e|e|e|e<;>rw[e]<;>decide
  ·have hs:∀ y∈zy m.Kind,y.length≤6:=by rcases yue h1 with e|e|e|e|e|e|e|e|e<;>rw[e]<;>decide
   exact hs _ h4
  ·rcases h3 with e|e
   ·rw[e];decide
   ·rw[e];rcases yue h1 with e|e|e|e|e|e|e|e|e<;>rw[e]<;>decide
theorem y4u:zx []=true:=by decide
theorem yfg {a:Aid} (h:zcc a=true):1≤a.Number∧a.Number≤9999∧zvd a.Name=true∧zgd a.At=true∧0≤a.Height∧a.Height≤3000∧zie a.Mark=true ∧
  (zei a=true→znc a.Light=true)∧zx a.Sectors=true∧0≤a.Intensity∧a.Intensity≤100000000:=by
 unfold zcc at h
 cases hc:(((((!(zg a.Number 1 9999)) || (!(zvd a.Name))) || (!(zgd a.At))) || (!(zg a.Height 0 3000))) || (!(zie a.Mark)))with
 | true=>rw[hc]at h;cases h
 | false=>
  rw[hc,cond_false]at h
  simp only[Bool.or_eq_false_iff,Bool.not_eq_false']at hc
  obtain⟨⟨⟨⟨c1,c2⟩,c3⟩,c4⟩,c5⟩:=hc
  simp only[zg,Bool.and_eq_true,decide_eq_true_eq]at c1 c4
  have fin:(zei a=true→znc a.Light=true)∧zx a.Sectors=true∧0≤a.Intensity∧a.Intensity≤100000000:=by
   cases hp:zwe a.Light with
   | true=>
    rw[hp,cond_true,Bool.and_eq_true,beq_iff_eq,beq_iff_eq]at h
    have hs:a.Sectors=[]:=List.length_eq_zero_iff.1 (by omega)
    refine⟨fun hl => ?_,by rw[hs];exact y4u,by omega,by omega⟩
    unfold zwe at hp
    simp only[Bool.and_eq_true,beq_iff_eq]at hp
    unfold zei at hl
    rw[bne_iff_ne]at hl
    exact absurd hp.1.1.1.1 hl
   | false=>
    rw[hp,cond_false]at h
    cases hd:(((!(znc a.Light)) || (!(zg a.Intensity 1 100000000))) || (!(zx a.Sectors)))with
    | true=>rw[hd]at h;cases h
    | false=>
     simp only[Bool.or_eq_false_iff,Bool.not_eq_false',zg,Bool.and_eq_true,decide_eq_true_eq]at hd
     exact⟨fun _=>hd.1.1,hd.2,by omega,by omega⟩
  exact⟨c1.1,c1.2,c2,c3,c4.1,c4.2,c5,fin⟩
theorem yy4 {s:List UInt8} (h:zvd s=true):s.length≤10:=((ytl s).1 h).2.1
theorem yn9 {a:Aid} (h:zcc a=true) (hl:a.Light.Colors.length<9223372036854775808):ztf a=zei a:=by
 have hr:=yfg h
 have hsl:=(yyh hr.2.2.2.2.2.2.2.2.1).1
 unfold zcc at h
 cases hc:(((((!(zg a.Number 1 9999)) || (!(zvd a.Name))) || (!(zgd a.At))) || (!(zg a.Height 0 3000))) || (!(zie a.Mark)))with
 | true=>rw[hc]at h;cases h
 | false=>
  rw[hc,cond_false]at h
  cases hp:zwe a.Light with
  | true=>
   have h1:=y9q _ hp
   unfold ztf zei
   rw[h1]
   unfold zwe at hp
   simp only[Bool.and_eq_true,beq_iff_eq]at hp
   rw[hp.1.1.1.1]
   rfl
  | false=>
   rw[hp,cond_false]at h
   cases hd:(((!(znc a.Light)) || (!(zg a.Intensity 1 100000000))) || (!(zx a.Sectors)))with
   | true=>rw[hd]at h;cases h
   | false=>
    rw[hd,cond_false]at h
    simp only[Bool.or_eq_false_iff,Bool.not_eq_false']at hd
    have hk:=(ye1 a.Light hl hd.1.1).2.2.1
    unfold ztf zei
    have e4:zuh a.Intensity=zg a.Intensity 1 100000000:=rfl
    rw[ywg _ hl,hd.1.1,e4,hd.1.2,yyb _ (by omega),hd.2,y9j]
    simp only[Bool.not_true,Bool.or_self,cond_false]
    rw[h]
    symm
    rw[bne_iff_ne];omega
theorem yaab {p:Point} (h:(!zke p)=false):0≤p.X∧p.X≤200000∧0≤p.Y∧p.Y≤200000:=by
 have h2:zke p=true:=by simpa using h
 exact yq1 (p:=p) h2
theorem yd1 {m:Mark} (h:(!zdc m)=false):0≤m.Kind∧m.Kind≤9∧m.Colors.length≤3∧m.Shape.length≤6∧m.Topmark.length≤5:=y1g (by rw[← yld];simpa using h)
theorem yb6 {a:List Sector} (hl:a.length<1099511627776) (h:(!zjb a)=false):a.length≤12∧∀ i,0≤(a.getD i default).From∧(a.getD i default).From≤359∧0≤(a.getD i default).To∧(a.getD i default).To≤359∧(a.getD i default).Color.length≤1:=yyh (by rw[← yyb a (by omega)];simpa using h)
theorem ydx {a:Aid} (hb:bdAid a) (h:(!zcg a)=false):zcc a=true:=by
 rw[← y3d a (Nat.lt_of_lt_of_le hb.2.2.1.2.2 (by decide)) (Nat.lt_of_lt_of_le hb.2.2.2.1 (by decide))];simpa using h
theorem y31 (k:Int):(zic k).length≤100:=yhl _ _ (by decide)
theorem yh7 (n:Nat):(zwb.getD n default).length≤100:=ynm _ (by decide) n
end Go.Ab

namespace Go.Ab
open Go Go.Proofs
def y5e (m:Nat):List Int:=if h:m=0 then[]else(48+(m % 10:Nat):Int)::y5e (m / 10)
termination_by m
decreasing_by omega
theorem y3h:y5e 0=[]:=by rw[y5e];simp
theorem ymj {m:Nat} (h:m≠0):y5e m=(48+(m % 10:Nat):Int)::y5e (m / 10):=by rw[y5e];simp[h]
theorem ypq:∀ (m:Nat),m≠0→(y5e m).reverse.map (fun z=>UInt8.ofNat z.toNat)=Go.Lib.decDigits m:=by
 intro m
 induction m using Nat.strongRecOn with
 | ind m ih=>
  intro h
  rw[ymj h,Go.Lib.decDigits]
  have e3:UInt8.ofNat (48+((m % 10:Nat):Int)).toNat=UInt8.ofNat (48+m % 10):=by congr 1
  split
  ·rename_i h10
   have e:m / 10=0:=by omega
   have e2:m % 10=m:=Nat.mod_eq_of_lt h10
   rw[e2]at e3 ⊢
   simp only[e,y3h,List.reverse_cons,List.reverse_nil,List.nil_append,List.map_cons,List.map_nil]
   rw[e3]
  ·rw[← ih (m / 10) (by omega) (by omega)]
   simp only[List.reverse_cons,List.map_append,List.map_cons,List.map_nil,e3]
theorem yu4 (x:Int):(x.tdiv 10).natAbs=x.natAbs / 10:=by
 rcases yim x with⟨h,e⟩|⟨h,e⟩<;>rw[e]<;>omega
theorem yhcb (x:Int):x.tmod 10=x-10 * x.tdiv 10:=Int.tmod_def x 10
theorem y4bb (a0:Int) (m:Int) (ds:List Int) (h1 : -1000000000000≤m) (h2:m≤1000000000000) (h:m≠0) :
  y3q a0 (m,ds)=.ok (m.tdiv 10,ds++[48+((m.natAbs % 10:Nat):Int)]):=by
 have e1:=yhcb m
 have e2:=yim m
 have hn:(m != 0)=true:=by simpa using h
 unfold y3q
 simp only[hn,cond_true]
 have w1:IntKind.wrap .i64 (m.tdiv 10)=m.tdiv 10:=by rw[IntKind.wrap_i64];omega
 rw[w1]
 by_cases hm:m.tmod 10<0
 ·simp only[hm,decide_true,cond_true]
  have w2:IntKind.wrap .u8 (IntKind.wrap .i64 (48+(IntKind.wrap .i64 (0-(m.tmod 10)))))=48+((m.natAbs % 10:Nat):Int):=by
   simp only[IntKind.wrap_i64,IntKind.wrap_u8]
   omega
  rw[w2]
 ·simp only[hm,decide_false,cond_false]
  have w2:IntKind.wrap .u8 (IntKind.wrap .i64 (48+(m.tmod 10)))=48+((m.natAbs % 10:Nat):Int):=by
   simp only[IntKind.wrap_i64,IntKind.wrap_u8]
   omega
  rw[w2]
theorem y1r (a0:Int):∀ (k:Nat) (m:Int) (ds:List Int),-1000000000000≤m→m≤1000000000000→m.natAbs<k →
  y3 (y3q a0) k (m,ds)=.error (.inr (0,ds++y5e m.natAbs))
 | 0,m,ds,_,_,h=>by omega
 | k+1,m,ds,h1,h2,h=>by
  by_cases hm:m=0
  ·subst hm
   simp[y3,y3q,y3h]
  ·have e2:=yim m
   simp only[y3,y4bb a0 m ds h1 h2 hm]
   rw[y1r a0 k (m.tdiv 10) _ (by omega) (by omega) (by omega),yu4,List.append_assoc,List.singleton_append, ← ymj (by omega)]
theorem yzz:∀ (m:Nat),(y5e m).length≤m:=by
 intro m
 induction m using Nat.strongRecOn with
 | ind m ih=>
  by_cases h:m=0
  ·subst h;simp[y3h]
  ·rw[ymj h]
   have:=ih (m / 10) (by omega)
   simp only[List.length_cons]
   omega
theorem y1w {α:Type} (L:List α) (d:α) (k:Nat) (h:k<L.length):L.getD k d::(L.take k).reverse=(L.take (k+1)).reverse:=by
 rw[List.take_add_one,List.reverse_append]
 simp[List.getD,List.getElem?_eq_getElem h]
theorem ytr (a0:Int) (s1:Int×List Int):∀ (f k:Nat) (out:List Int),k<f→k≤s1.2.length+1→k≤1000000000001 →
  y3 (ykv a0 s1) f ((k:Int)-1,out)=.error (.inr (-1,out++((s1.2++[45]).take k).reverse))
 | 0,k,out,h,_,_=>by omega
 | f+1,0,out,_,_,_=>by simp[y3,ykv]
 | f+1,k+1,out,h,hk,hb=>by
  have e1:IntKind.wrap .i64 (((k+1:Nat):Int)-1-1)=(k:Int)-1:=by rw[IntKind.wrap_i64];omega
  have e2:(((k+1:Nat):Int)-1).toNat=k:=by omega
  have e3:decide (0≤((k+1:Nat):Int)-1)=true:=by simp
  simp only[y3,ykv,e3,cond_true,e1,e2]
  rw[ytr a0 s1 f k _ (by omega) (by omega) (by omega),List.append_assoc,List.singleton_append,y1w _ _ _ (by simp;omega)]
theorem ysr (a0:Int) (s1:Int×List Int):∀ (f k:Nat) (out:List Int),k<f→k≤s1.2.length→k≤1000000000001 →
  y3 (yzu a0 s1) f ((k:Int)-1,out)=.error (.inr (-1,out++(s1.2.take k).reverse))
 | 0,k,out,h,_,_=>by omega
 | f+1,0,out,_,_,_=>by simp[y3,yzu]
 | f+1,k+1,out,h,hk,hb=>by
  have e1:IntKind.wrap .i64 (((k+1:Nat):Int)-1-1)=(k:Int)-1:=by rw[IntKind.wrap_i64];omega
  have e2:(((k+1:Nat):Int)-1).toNat=k:=by omega
  have e3:decide (0≤((k+1:Nat):Int)-1)=true:=by simp
  simp only[y3,yzu,e3,cond_true,e1,e2]
  rw[ysr a0 s1 f k _ (by omega) (by omega) (by omega),List.append_assoc,List.singleton_append,y1w _ _ _ (by omega)]
theorem y9f (n:Int) (h1 : -1000000000000≤n) (h2:n≤1000000000000):zk n=Go.Lib.itoa n:=by
 unfold zk Go.Lib.itoa
 by_cases h0:n=0
 ·subst h0
  simp[Go.Lib.decDigits]
 have hn:(n == 0)=false:=by simpa using h0
 rw[hn,cond_false,y1r n _ n [] h1 h2 (by omega)]
 have hl:=yzz n.natAbs
 have hr:=ypq n.natAbs (by omega)
 simp only[List.nil_append]
 by_cases hneg:n<0
 ·have e1:IntKind.wrap .i64 (((y5e n.natAbs).length+1:Int)-1)=((((y5e n.natAbs).length+1:Nat)):Int)-1:=by rw[IntKind.wrap_i64];omega
  simp only[hneg,decide_true,cond_true,e1,if_true]
  rw[ytr n _ _ _ _ (by omega) (by simp) (by omega)]
  simp only[List.nil_append]
  rw[List.take_of_length_le (by simp),List.reverse_append,List.map_append,hr]
  rfl
 ·have e1:IntKind.wrap .i64 (((y5e n.natAbs).length:Int)-1)=(((y5e n.natAbs).length:Nat):Int)-1:=by rw[IntKind.wrap_i64];omega
  simp only[hneg,decide_false,cond_false,e1,if_false]
  rw[ysr n _ _ _ _ (by omega) (by simp) (by omega)]
  simp only[List.nil_append]
  rw[List.take_of_length_le (by simp),hr]
  congr 1
  omega
theorem ycy (n:Int) (h1 : -1000000000000≤n) (h2:n≤1000000000000):(zk n).length≤n.natAbs+2:=by
 rw[y9f n h1 h2]
 exact yut n
end Go.Ab

namespace Go.Ab
open Go Go.Proofs
def zwc (a0:Int):(List UInt8):=
 (bif ((a0.tmod 10) == 0)then(zk (IntKind.wrap .i64 (a0.tdiv 10)))++[115]else(((zk (IntKind.wrap .i64 (a0.tdiv 10)))++[46])++(zk (a0.tmod 10)))++[115])
namespace N280
theorem DD:DOk Tryz.prog (Go.Ab.DD [(166,dP D_zk)]):=ya y4o.e <| yc _
theorem dn:type_of% (@D_zk.eq_1):=by and_intros<;>intros<;>rfl
set_option maxHeartbeats 400000 in
set_option maxRecDepth 20000 in
theorem den (a0:Int) (hp0:0≤a0) (hp1:a0≤1000000):Den Tryz.prog 280 [.int .i64 a0] (.str (zwc a0)):=by
 generalize hR:zwc a0=r
 unfold zwc at hR
 refine di Tryz.func280 Tryz.ntmps280 Tryz.results280 ?_
 intro c hL hc hk
 clear hL
 simp only[pars,Nat.zero_add]
 have hd:a0.tdiv 10=a0 / 10:=Int.tdiv_eq_ediv_of_nonneg hp0
 have hw:IntKind.wrap .i64 (a0.tdiv 10)=a0 / 10:=by rw[IntKind.wrap_i64];omega
 have ht:=y5k a0
 have h1:=ycy (IntKind.wrap .i64 (a0.tdiv 10)) (by omega) (by omega)
 have h2:=ycy (a0.tmod 10) (by omega) (by omega)
 have h3:(IntKind.wrap .i64 (a0.tdiv 10)).natAbs≤100000:=by omega
 have h4:(a0.tmod 10).natAbs≤10:=by omega
 iterate 2 refine rS ?_
 refine AWP.cond rfl (fun hb => ?_) (fun hb => ?_)
 ·replace hR:=ct hR
  refine rS ?_
  refine AWP.ret ?_
  subst hR
  exact es
 ·replace hR:=cf hR
  refine rS ?_
  refine AWP.ret ?_
  subst hR
  exact es
end N280
def D_zwc : DF
 | [x0]=>some (.str (zwc (rdI x0)),false,[wI .i64 x0,0≤(rdI x0),(rdI x0)≤1000000])
 | _=>none
theorem ycq:OkD Tryz.prog 280 D_zwc:=by unfold D_zwc;exact dk N280.den
end Go.Ab

namespace Go.Ab
open Go Go.Proofs
theorem yav (n:Nat):(zo.getD n default).length≤3:=by
 rw[List.getD_eq_getElem?_getD]
 have h:∀ x∈zo,x.length≤3:=by decide
 cases hg:zo[n]? with
 | none=>show(0:Nat)≤3;omega
 | some x=>exact h x (List.mem_of_getElem? hg)
theorem yw0 (n:Int) (h1:0≤n) (h2:n≤1000000):(zwc n).length≤43:=by
 unfold zwc
 have hd:n.tdiv 10=n / 10:=Int.tdiv_eq_ediv_of_nonneg h1
 have hw:IntKind.wrap .i64 (n.tdiv 10)=n / 10:=by rw[IntKind.wrap_i64];omega
 have ht:=y5k n
 rw[hw,y9f _ (by omega) (by omega),y9f _ (by omega) (by omega)]
 have h3:=ycd (n / 10) (by omega) (by omega)
 have h4:=ycd (n.tmod 10) (by omega) (by omega)
 simp only[Bool.cond_eq_ite]
 split
 ·simp only[List.length_append,List.length_cons,List.length_nil];omega
 ·simp only[List.length_append,List.length_cons,List.length_nil];omega
end Go.Ab

namespace Go.Ab
open Go Go.Proofs
def ybr (a0:Character) (i1:Nat) (s1:List UInt8):Except ((List UInt8)) (List UInt8):=
 (bif ((i1:Int) == 0)then .ok (s1++([40]++(zk (a0.Group.getD i1 default))))else .ok (s1++([43]++(zk (a0.Group.getD i1 default)))))
def yfr (a0:Character) (i2:Nat) (s2:List UInt8):Except ((List UInt8)) (List UInt8):=
 (bif ((i2:Int) == 0)then .ok (s2++([40]++(zk (a0.Group.getD i2 default))))else .ok (s2++([43]++(zk (a0.Group.getD i2 default)))))
def zub (a0:Character):(List UInt8):=
 (bif (a0.Kind == 8)then(match ye (ybr a0) (a0.Group.length-0) 0 (((zo ).getD ((a0.Kind).toNat) default)++(([40]++a0.Letter)++[41]))with|.error e=>e|.ok s1=>(bif decide (0<(a0.Group.length:Int))then(bif ((a0.Letter == [76]) && (a0.Kind != 8))then(bif decide (0<a0.Period)then(((s1++[41])++[43,76,70,108])++([32]++a0.Colors))++([32]++(zwc a0.Period))else((s1++[41])++[43,76,70,108])++([32]++a0.Colors))else(bif decide (0<a0.Period)then((s1++[41])++([32]++a0.Colors))++([32]++(zwc a0.Period))else(s1++[41])++([32]++a0.Colors)))else(bif ((a0.Letter == [76]) && (a0.Kind != 8))then(bif decide (0<a0.Period)then((s1++[43,76,70,108])++([32]++a0.Colors))++([32]++(zwc a0.Period))else(s1++[43,76,70,108])++([32]++a0.Colors))else(bif decide (0<a0.Period)then(s1++([32]++a0.Colors))++([32]++(zwc a0.Period))else s1++([32]++a0.Colors)))))else(match ye (yfr a0) (a0.Group.length-0) 0 ((zo ).getD ((a0.Kind).toNat) default)with|.error e=>e|.ok s2=>(bif decide (0<(a0.Group.length:Int))then(bif ((a0.Letter == [76]) && (a0.Kind != 8))then(bif decide (0<a0.Period)then(((s2++[41])++[43,76,70,108])++([32]++a0.Colors))++([32]++(zwc a0.Period))else((s2++[41])++[43,76,70,108])++([32]++a0.Colors))else(bif decide (0<a0.Period)then((s2++[41])++([32]++a0.Colors))++([32]++(zwc a0.Period))else(s2++[41])++([32]++a0.Colors)))else(bif ((a0.Letter == [76]) && (a0.Kind != 8))then(bif decide (0<a0.Period)then((s2++[43,76,70,108])++([32]++a0.Colors))++([32]++(zwc a0.Period))else(s2++[43,76,70,108])++([32]++a0.Colors))else(bif decide (0<a0.Period)then(s2++([32]++a0.Colors))++([32]++(zwc a0.Period))else s2++([32]++a0.Colors))))))
namespace N203
theorem DD:DOk Tryz.prog (Go.Ab.DD [(166,dP D_zk),(279,dP D_zo),(280,dP D_zwc)]):=ya y4o.e <| ya y71.e <| ya ycq.e <| yc _
theorem DZ:DOk Tryz.prog (Go.Ab.DD [(166,dP D_zk),(279,dP Dz_zo),(280,dP D_zwc)]):=ya y4o.e <| ya y94.e <| ya ycq.e <| yc _
theorem dn:type_of% (And.intro @D_zk.eq_1 <| And.intro @D_zo.eq_1 <| And.intro @D_zwc.eq_1 <| @Dz_zo.eq_1):=by and_intros<;>intros<;>rfl
theorem o0 {p:Prop} (h:p:=by(first|(and_intros<;>(first|omega|((try simp only[List.length_append,List.length_cons,List.length_nil,List.length_singleton]);omega)|(have h9:=hg9 i1;omega)|(have h9:=hg9 i2;omega)|(have h9:=hd9 i1;(try simp only[List.length_append,List.length_cons,List.length_nil,List.length_singleton]);omega)|(have h9:=hd9 i2;(try simp only[List.length_append,List.length_cons,List.length_nil,List.length_singleton]);omega)|exact hp1|((try simp only[List.length_append,List.length_cons,List.length_nil,List.length_singleton]at *);omega))));first|done|fail):p:=h
set_option maxHeartbeats 1000000 in
set_option maxRecDepth 20000 in
theorem den (a0:Character) (hb0:bdCharacter a0) (hp0:a0.Group.length≤4) (hp1:∀ v∈a0.Group,1≤v∧v≤9) (hp2:1≤a0.Kind) (hp3:a0.Kind≤8) (hp4:0≤a0.Period) (hp5:a0.Period≤600):Den Tryz.prog 203 [.ep (yg a0)] (.str (zub a0)):=by
 generalize hR:zub a0=r
 unfold zub at hR
 refine di Tryz.func203 Tryz.ntmps203 Tryz.results203 ?_
 intro c hL hc hk
 obtain⟨hL0,_⟩:=hL
 have hw0:bwCharacter a0:=yn a0 hL0
 clear hL0
 simp only[pars,Nat.zero_add]
 have hg9:∀ i:Nat,0≤a0.Group.getD i default∧a0.Group.getD i default≤9:=fun i=>ydh hp1 i
 have hd9:∀ i:Nat,(zk (a0.Group.getD i default)).length≤11:=fun i=>by have h1:=hg9 i;have h2:=ycy (a0.Group.getD i default) (by omega) (by omega);omega
 have hk9:=yav a0.Kind.toNat
 have hk8:zo.length=9:=rfl
 have hs9:=yw0 a0.Period (by omega) (by omega)
 have hbL:a0.Letter.length<1099511627776:=hb0.2.1
 have hbC:a0.Colors.length<1099511627776:=hb0.2.2
 refine rS ?_
 refine rZ 7 ?_
 refine rS ?_
 refine AWP.cond rfl (fun hb => ?_) (fun hb => ?_)
 ·replace hR:=ct hR
  iterate 2 refine rS ?_
  refine AWP.block ?_
  generalize hz1:ye (ybr a0) (a0.Group.length-0) 0 (((zo ).getD ((a0.Kind).toNat) default)++(([40]++a0.Letter)++[41]))=z1 at hR
  refine AWP.range (ybr a0) (fun i1 s1=>⟨[(0,.ep (yg a0)),(3,.str s1),(4,.int .i64 (i1:Int))],[]⟩) (fun i1 s1=>s1.length≤9+a0.Letter.length+12 * i1) (a0.Group.length) 0 (((zo ).getD ((a0.Kind).toNat) default)++(([40]++a0.Letter)++[41])) [] hz1 ot (by((try simp only[List.length_append,List.length_cons,List.length_nil,List.length_singleton]);omega)) sm ?_
  clear hz1
  intro i1 s1 hi1 hW1 hz1
  refine rS ?_
  refine AWP.cond rfl (fun hb => ?_) (fun hb => ?_)
  ·have hlt1:i1<a0.Group.length:=ot
   rw[yj hlt1]at hz1;simp only[ybr]at hz1
   iterate 2 refine rS ?_
   refine AWP.cond rfl (fun hb => ?_) (fun hb => ?_)
   ·simp only[hb,cond_true]at hz1
    iterate 3 refine rS ?_
    exact⟨_,[],hlt1,by(have h9:=hd9 i1;and_intros<;>first|omega|((try simp only[List.length_append,List.length_cons,List.length_nil,List.length_singleton]);omega)|((try simp only[List.length_append,List.length_cons,List.length_nil,List.length_singleton]at *);omega)),hz1,sm⟩
   ·simp only[hb,cond_false]at hz1
    iterate 2 refine rS ?_
    exact⟨_,[],hlt1,by(have h9:=hd9 i1;and_intros<;>first|omega|((try simp only[List.length_append,List.length_cons,List.length_nil,List.length_singleton]);omega)|((try simp only[List.length_append,List.length_cons,List.length_nil,List.length_singleton]at *);omega)),hz1,sm⟩
  ·obtain rfl:i1=a0.Group.length:=ot
   rw[yi (Nat.le_refl _)]at hz1;subst hz1;dsimp only at hR
   refine AWP.exit ?_;refine yb ?_
   refine rS ?_
   refine AWP.cond rfl (fun hb => ?_) (fun hb => ?_)
   ·replace hR:=ct hR
    iterate 2 refine rS ?_
    refine AWP.cond rfl (fun hb => ?_) (fun hb => ?_)
    ·replace hR:=ct hR
     iterate 3 refine rS ?_
     refine AWP.cond rfl (fun hb => ?_) (fun hb => ?_)
     ·replace hR:=ct hR
      iterate 2 refine rS ?_
      refine AWP.ret ?_
      subst hR
      exact es
     ·replace hR:=cf hR
      refine rS ?_
      refine AWP.ret ?_
      subst hR
      exact es
    ·replace hR:=cf hR
     iterate 2 refine rS ?_
     refine AWP.cond rfl (fun hb => ?_) (fun hb => ?_)
     ·replace hR:=ct hR
      iterate 2 refine rS ?_
      refine AWP.ret ?_
      subst hR
      exact es
     ·replace hR:=cf hR
      refine rS ?_
      refine AWP.ret ?_
      subst hR
      exact es
   ·replace hR:=cf hR
    refine rS ?_
    refine AWP.cond rfl (fun hb => ?_) (fun hb => ?_)
    ·replace hR:=ct hR
     iterate 3 refine rS ?_
     refine AWP.cond rfl (fun hb => ?_) (fun hb => ?_)
     ·replace hR:=ct hR
      iterate 2 refine rS ?_
      refine AWP.ret ?_
      subst hR
      exact es
     ·replace hR:=cf hR
      refine rS ?_
      refine AWP.ret ?_
      subst hR
      exact es
    ·replace hR:=cf hR
     iterate 2 refine rS ?_
     refine AWP.cond rfl (fun hb => ?_) (fun hb => ?_)
     ·replace hR:=ct hR
      iterate 2 refine rS ?_
      refine AWP.ret ?_
      subst hR
      exact es
     ·replace hR:=cf hR
      refine rS ?_
      refine AWP.ret ?_
      subst hR
      exact es
 ·replace hR:=cf hR
  refine rS ?_
  refine AWP.block ?_
  generalize hz2:ye (yfr a0) (a0.Group.length-0) 0 ((zo ).getD ((a0.Kind).toNat) default)=z2 at hR
  refine AWP.range (yfr a0) (fun i2 s2=>⟨[(0,.ep (yg a0)),(3,.str s2),(4,.int .i64 (i2:Int))],[]⟩) (fun i2 s2=>s2.length≤9+a0.Letter.length+12 * i2) (a0.Group.length) 0 ((zo ).getD ((a0.Kind).toNat) default) [] hz2 ot (by((try simp only[List.length_append,List.length_cons,List.length_nil,List.length_singleton]);omega)) sm ?_
  clear hz2
  intro i2 s2 hi2 hW2 hz2
  refine rS ?_
  refine AWP.cond rfl (fun hb => ?_) (fun hb => ?_)
  ·have hlt2:i2<a0.Group.length:=ot
   rw[yj hlt2]at hz2;simp only[yfr]at hz2
   iterate 2 refine rS ?_
   refine AWP.cond rfl (fun hb => ?_) (fun hb => ?_)
   ·simp only[hb,cond_true]at hz2
    iterate 3 refine rS ?_
    exact⟨_,[],hlt2,by(have h9:=hd9 i2;and_intros<;>first|omega|((try simp only[List.length_append,List.length_cons,List.length_nil,List.length_singleton]);omega)|((try simp only[List.length_append,List.length_cons,List.length_nil,List.length_singleton]at *);omega)),hz2,sm⟩
   ·simp only[hb,cond_false]at hz2
    iterate 2 refine rS ?_
    exact⟨_,[],hlt2,by(have h9:=hd9 i2;and_intros<;>first|omega|((try simp only[List.length_append,List.length_cons,List.length_nil,List.length_singleton]);omega)|((try simp only[List.length_append,List.length_cons,List.length_nil,List.length_singleton]at *);omega)),hz2,sm⟩
  ·obtain rfl:i2=a0.Group.length:=ot
   rw[yi (Nat.le_refl _)]at hz2;subst hz2;dsimp only at hR
   refine AWP.exit ?_;refine yb ?_
   refine rS ?_
   refine AWP.cond rfl (fun hb => ?_) (fun hb => ?_)
   ·replace hR:=ct hR
    iterate 2 refine rS ?_
    refine AWP.cond rfl (fun hb => ?_) (fun hb => ?_)
    ·replace hR:=ct hR
     iterate 3 refine rS ?_
     refine AWP.cond rfl (fun hb => ?_) (fun hb => ?_)
     ·replace hR:=ct hR
      iterate 2 refine rS ?_
      refine AWP.ret ?_
      subst hR
      exact es
     ·replace hR:=cf hR
      refine rS ?_
      refine AWP.ret ?_
      subst hR
      exact es
    ·replace hR:=cf hR
     iterate 2 refine rS ?_
     refine AWP.cond rfl (fun hb => ?_) (fun hb => ?_)
     ·replace hR:=ct hR
      iterate 2 refine rS ?_
      refine AWP.ret ?_
      subst hR
      exact es
     ·replace hR:=cf hR
      refine rS ?_
      refine AWP.ret ?_
      subst hR
      exact es
   ·replace hR:=cf hR
    refine rS ?_
    refine AWP.cond rfl (fun hb => ?_) (fun hb => ?_)
    ·replace hR:=ct hR
     iterate 3 refine rS ?_
     refine AWP.cond rfl (fun hb => ?_) (fun hb => ?_)
     ·replace hR:=ct hR
      iterate 2 refine rS ?_
      refine AWP.ret ?_
      subst hR
      exact es
     ·replace hR:=cf hR
      refine rS ?_
      refine AWP.ret ?_
      subst hR
      exact es
    ·replace hR:=cf hR
     iterate 2 refine rS ?_
     refine AWP.cond rfl (fun hb => ?_) (fun hb => ?_)
     ·replace hR:=ct hR
      iterate 2 refine rS ?_
      refine AWP.ret ?_
      subst hR
      exact es
     ·replace hR:=cf hR
      refine rS ?_
      refine AWP.ret ?_
      subst hR
      exact es
end N203
def D_zub : DF
 | [x0]=>some (.str (zub (rdP yd x0)),false,[wP yg yd x0,bdCharacter (rdP yd x0),(rdP yd x0).Group.length≤4,∀ v∈(rdP yd x0).Group,1≤v∧v≤9,1≤(rdP yd x0).Kind,(rdP yd x0).Kind≤8,0≤(rdP yd x0).Period,(rdP yd x0).Period≤600])
 | _=>none
theorem yj5:OkD Tryz.prog 203 D_zub:=by unfold D_zub;exact dk N203.den
end Go.Ab

namespace Go.Ab
open Go Go.Proofs
def zad (a0:Character):(List UInt8):=
 (bif (!(zab a0))then[]else(bif (a0.Period != 0)then(((zre a0)++[32])++a0.Colors)++(([32]++(zjf a0.Period))++[115])else((zre a0)++[32])++a0.Colors))
namespace N106
theorem DD:DOk Tryz.prog (Go.Ab.DD [(217,dP D_zre),(218,dP D_zjf),(91,dP D_zab)]):=ya yz7.e <| ya ykw.e <| ya y6k.e <| yc _
theorem dn:type_of% (And.intro @D_zre.eq_1 <| And.intro @D_zjf.eq_1 <| @D_zab.eq_1):=by and_intros<;>intros<;>rfl
theorem o0 {p:Prop} (h:p:=by(first|(have q9 := ‹(!zab a0)=false›;have q8:zab a0=true:=(by simpa using q9);have h9:=yjd a0 q8;have h8:=yts a0 h9.1 h9.2.1;have h7:=ybe a0 q8;have h6:=ycv a0.Period (by omega) (by omega);first|(refine⟨hb0,h9.1,h9.2.1,?_,?_⟩<;>first|omega|(simp only[List.length_append,List.length_cons,List.length_nil];omega))|(and_intros<;>first|omega|(simp only[List.length_append,List.length_cons,List.length_nil];omega))));first|done|fail):p:=h
set_option maxHeartbeats 400000 in
set_option maxRecDepth 20000 in
theorem den (a0:Character) (hb0:bdCharacter a0):Den Tryz.prog 106 [.agg (yg a0)] (.str (zad a0)):=by
 generalize hR:zad a0=r
 unfold zad at hR
 refine di Tryz.func106 Tryz.ntmps106 Tryz.results106 ?_
 intro c hL hc hk
 obtain⟨hL0,_⟩:=hL
 have hw0:bwCharacter a0:=yn a0 hL0
 clear hL0
 simp only[pars,Nat.zero_add]
 have hbL:a0.Letter.length<1099511627776:=hb0.2.1
 have hbC:a0.Colors.length<1099511627776:=hb0.2.2
 iterate 2 refine rS ?_
 refine AWP.cond rfl (fun hb => ?_) (fun hb => ?_)
 ·replace hR:=ct hR
  refine rS ?_
  refine AWP.ret ?_
  subst hR
  exact es
 ·replace hR:=cf hR
  refine rD 5 ?_
  refine rS ?_
  refine AWP.cond rfl (fun hb => ?_) (fun hb => ?_)
  ·replace hR:=ct hR
   iterate 2 refine rS ?_
   refine AWP.ret ?_
   subst hR
   exact es
  ·replace hR:=cf hR
   refine rS ?_
   refine AWP.ret ?_
   subst hR
   exact es
end N106
def D_zad : DF
 | [x0]=>some (.str (zad (rdG yd x0)),false,[wG yg yd x0,bdCharacter (rdG yd x0)])
 | _=>none
theorem ynp:OkD Tryz.prog 106 D_zad:=by unfold D_zad;exact dk N106.den
end Go.Ab

namespace Go.Ab
open Go Go.Proofs
def kt (k:Int):List UInt8:=([[],[70],[79,99],[73,115,111],[70,108],[76,70,108],[81],[86,81],[77,111]]:List (List UInt8)).getD k.toNat []
def grpT (g:List Int):List UInt8:=if g=[]then[]else 40::(Lib.join (g.map Lib.itoa) [43]++[41])
def yve (c:Character):List UInt8:=
 if c.Kind=8 then kt 8++(40::(c.Letter++[41]))else kt c.Kind++(grpT c.Group++(if c.Letter=[]then[]else[43,76,70,108]))
def secT (n:Int):List UInt8:=if n.tmod 10=0 then Lib.itoa (n / 10)else Lib.itoa (n / 10)++(46::Lib.itoa (n % 10))
def perT (n:Int):List UInt8:=if n=0 then[]else 32::(secT n++[115])
def chrT (c:Character):List UInt8:=yve c++(32::(c.Colors++perT c.Period))
theorem ysbb (k:Int) (h:1≤k∧k≤8):zdd k=kt k:=by
 rcases(show k=1∨k=2∨k=3∨k=4∨k=5∨k=6∨k=7∨k=8 by omega)with h|h|h|h|h|h|h|h<;>subst h<;>rfl
theorem ys4 (k:Int):zo.getD k.toNat default=kt k:=rfl
theorem yow (n:Int) (h1:0≤n) (h2:n≤600):zjf n=secT n:=by
 unfold zjf secT
 have hd:n.tdiv 10=n / 10:=Int.tdiv_eq_ediv_of_nonneg h1
 have hm:n.tmod 10=n % 10:=Int.tmod_eq_emod_of_nonneg h1
 have hw:IntKind.wrap .i64 (n.tdiv 10)=n / 10:=by rw[IntKind.wrap_i64];omega
 rw[hw,hm]
 by_cases h:n % 10=0
 ·rw[h];rfl
 ·have:(n % 10 == 0)=false:=by rw[beq_eq_false_iff_ne];exact h
  rw[this,if_neg h]
  simp[y66]
theorem ykq (n:Int) (h1:0≤n) (h2:n≤600):zwc n=secT n++[115]:=by
 unfold zwc secT
 have hd:n.tdiv 10=n / 10:=Int.tdiv_eq_ediv_of_nonneg h1
 have hm:n.tmod 10=n % 10:=Int.tmod_eq_emod_of_nonneg h1
 have hw:IntKind.wrap .i64 (n.tdiv 10)=n / 10:=by rw[IntKind.wrap_i64];omega
 rw[hw,hm,y9f _ (by omega) (by omega),y9f _ (by omega) (by omega)]
 by_cases h:n % 10=0
 ·rw[h];rfl
 ·have:(n % 10 == 0)=false:=by rw[beq_eq_false_iff_ne];exact h
  rw[this,if_neg h]
  simp
theorem yl2 (c:Character) (hk:1≤c.Kind∧c.Kind≤8):zre c=yve c:=by
 unfold zre yve
 rw[ysbb _ hk]
 by_cases h8:c.Kind=8
 ·rw[h8];simp
 ·have e8:(c.Kind == 8)=false:=by rw[beq_eq_false_iff_ne];exact h8
  rw[e8,if_neg h8]
  simp only[cond_false]
  have hl:=ynd (ypo c) (fun j=>[Lib.itoa (c.Group.getD j default)]) c.Group.length 0 [] (fun j s _ _=>rfl)
  rw[yrg c.Group default Lib.itoa,List.nil_append]at hl
  simp only[Nat.sub_zero]
  rw[hl]
  unfold grpT
  by_cases hg:c.Group=[]
  ·rw[hg]
   by_cases hL:c.Letter=[]
   ·rw[hL];simp
   ·have:(c.Letter != [])=true:=by simpa using hL
    rw[this,if_neg hL];simp
  ·have hpos:0<c.Group.length:=List.length_pos_iff.2 hg
   rw[if_neg hg,decide_eq_true (show 0<(c.Group.length:Int)by omega)]
   have ej:zpb (c.Group.map Lib.itoa) [43]=Lib.join (c.Group.map Lib.itoa) [43]:=rfl
   by_cases hL:c.Letter=[]
   ·rw[hL];simp[ej]
   ·have:(c.Letter != [])=true:=by simpa using hL
    rw[this,if_neg hL];simp[ej]
theorem ypl (c:Character) (h:zab c=true):zad c=chrT c:=by
 have hk:=yie c (yic c h)
 have hp:=ybe c h
 have hp2:=(yjd c h).2.2
 unfold zad chrT perT
 rw[h,yl2 c hk,yow _ hp hp2]
 by_cases h0:c.Period=0
 ·rw[h0];simp
 ·have:(c.Period != 0)=true:=by rw[bne_iff_ne];exact h0
  rw[this,if_neg h0];simp
theorem yd3 (x:Int) (r:List Int):(List.range' 1 r.length).flatMap (fun j=>(43:UInt8)::Lib.itoa ((x::r).getD j default))=Lib.joinTail [43] (r.map Lib.itoa):=by
 unfold Lib.joinTail
 rw[List.map_map, ← List.flatMap_def]
 have h:(List.range' 1 r.length).flatMap (fun j=>(43:UInt8)::Lib.itoa ((x::r).getD j default))=(List.range' 0 r.length).flatMap (fun j=>(43:UInt8)::Lib.itoa (r.getD j default)):=by
  rw[List.flatMap_def,List.flatMap_def]
  congr 1
  apply List.ext_getElem
  ·simp
  ·intro i h1 h2
   simp[List.getElem_range',Nat.add_comm 1 i]
 rw[h]
 rw[List.flatMap_def,List.flatMap_def]
 congr 1
 apply List.ext_getElem
 ·simp
 ·intro i h1 h2
  simp only[List.length_map]at h2
  simp[List.getD_eq_getElem?_getD,h2]
def grp0 (g:List Int):List UInt8:=if g=[]then[]else 40::Lib.join (g.map Lib.itoa) [43]
theorem yfz (c : Character) (h2 : ∀ v ∈ c.Group, 1 ≤ v ∧ v ≤ 9) (b : Nat → List UInt8 → Except (List UInt8) (List UInt8))
  (hb:∀ j s,b j s=bif ((j:Int) == 0)then .ok (s++([40]++(zk (c.Group.getD j default))))else .ok (s++([43]++(zk (c.Group.getD j default))))) (s:List UInt8) :
  ye b (c.Group.length-0) 0 s=.ok (s++grp0 c.Group):=by
 have hl:=ynd b (fun j=>(if j=0 then(40:UInt8)else 43)::Lib.itoa (c.Group.getD j default)) c.Group.length 0 s (fun j s _ _=>by
  have hr:=ydh h2 j
  rw[hb,y9f _ (by omega) (by omega)]
  by_cases h:j=0
  ·subst h;rfl
  ·have:((j:Int) == 0)=false:=by rw[beq_eq_false_iff_ne];omega
   rw[this,if_neg h];rfl)
 rw[Nat.sub_zero,hl]
 congr 2
 generalize c.Group=g
 cases g with
 | nil=>rfl
 | cons x r=>
  unfold grp0
  rw[if_neg (by simp),List.length_cons,List.range'_succ,List.flatMap_cons,List.map_cons,Lib.join_cons]
  have:(List.range' (0+1) r.length).flatMap (fun j=>(if j=0 then(40:UInt8)else 43)::Lib.itoa ((x::r).getD j default))=(List.range' 1 r.length).flatMap (fun j=>(43:UInt8)::Lib.itoa ((x::r).getD j default)):=by
   rw[List.flatMap_def,List.flatMap_def]
   congr 1
   apply List.map_congr_left
   intro j hj
   rw[List.mem_range'_1]at hj
   rw[if_neg (by omega)]
  rw[this,yd3]
  simp
theorem y4m (c:Character) (h:zab c=true):zub c=chrT c:=by
 have hf:=yic c h
 have hk:=yie c hf
 have hp:=ybe c h
 obtain⟨g1,g2,hp2⟩:=yjd c h
 have hsec:∀ s:List UInt8,(bif decide (0<c.Period)then s++([32]++(zwc c.Period))else s)=s++perT c.Period:=by
  intro s
  unfold perT
  by_cases h0:c.Period=0
  ·rw[h0];simp
  ·rw[decide_eq_true (show 0<c.Period by omega),if_neg h0,ykq _ hp hp2];simp
 unfold zub chrT yve
 rw[ys4,yfz c g2 (ybr c) (fun j s=>rfl),yfz c g2 (yfr c) (fun j s=>rfl)]
 by_cases h8:c.Kind=8
 ·have hg:c.Group=[]:=by
   unfold zqb at hf
   rw[h8]at hf
   have hf:(((zlc c.Letter) != []) && ((c.Group.length:Int) == 0))=true:=hf
   rw[Bool.and_eq_true,beq_iff_eq]at hf
   exact List.length_eq_zero_iff.1 (by omega)
  rw[h8,hg]
  have e1:((8:Int) == 8)=true:=rfl
  have e2:((8:Int) != 8)=false:=rfl
  have e3:decide (0<((([]:List Int).length:Int)))=false:=rfl
  simp only[e1,e2,e3,cond_true,cond_false,Bool.and_false,if_true,grp0,hsec]
  simp
 ·have e8:(c.Kind == 8)=false:=by rw[beq_eq_false_iff_ne];exact h8
  have e9:(c.Kind != 8)=true:=by rw[bne_iff_ne];exact h8
  have hL:(c.Letter == [76])=(c.Letter != []):=(ynt c hf h8).symm
  rw[e8,e9,if_neg h8,hL]
  simp only[cond_false,Bool.and_true,hsec]
  by_cases hg:c.Group=[]
  ·rw[hg]
   have e3:decide (0<((([]:List Int).length:Int)))=false:=rfl
   simp only[e3,cond_false,grp0,grpT,if_true]
   by_cases hl:c.Letter=[]
   ·rw[hl];simp
   ·have:(c.Letter != [])=true:=by simpa using hl
    rw[this,if_neg hl];simp
  ·have hpos:0<c.Group.length:=List.length_pos_iff.2 hg
   rw[decide_eq_true (show 0<(c.Group.length:Int)by omega)]
   simp only[cond_true,grp0,grpT,if_neg hg]
   by_cases hl:c.Letter=[]
   ·rw[hl];simp
   ·have:(c.Letter != [])=true:=by simpa using hl
    rw[this,if_neg hl];simp
end Go.Ab

namespace Go.Ab
open Go Go.Proofs
def u8D (k:Nat):UInt8:=UInt8.ofNat (48+k)
theorem ytj {k:Nat} (h:k<10):(u8D k).toNat=48+k:=yco k h
def pad2 (m:Nat):List UInt8:=[u8D (m / 10),u8D (m % 10)]
def pad4 (y:Nat):List UInt8:=[u8D (y / 1000),u8D (y / 100 % 10),u8D (y / 10 % 10),u8D (y % 10)]
theorem yid {m:Nat} (h:m<100):y4b (pad2 m)∧digV 0 (pad2 m)=m:=by
 have h1:=ytj (k:=m / 10) (by omega)
 have h2:=ytj (k:=m % 10) (by omega)
 refine⟨fun b hb => ?_,?_⟩
 ·simp only[pad2,List.mem_cons,List.not_mem_nil,or_false]at hb
  rcases hb with rfl|rfl<;>omega
 ·unfold pad2
  rw[y9,y9,yhd,h1,h2];omega
theorem y6h {y:Nat} (h:y<10000):y4b (pad4 y)∧digV 0 (pad4 y)=y:=by
 have h1:=ytj (k:=y / 1000) (by omega)
 have h2:=ytj (k:=y / 100 % 10) (by omega)
 have h3:=ytj (k:=y / 10 % 10) (by omega)
 have h4:=ytj (k:=y % 10) (by omega)
 refine⟨fun b hb => ?_,?_⟩
 ·simp only[pad4,List.mem_cons,List.not_mem_nil,or_false]at hb
  rcases hb with rfl|rfl|rfl|rfl<;>omega
 ·unfold pad4
  rw[y9,y9,y9,y9,yhd,h1,h2,h3,h4];omega
theorem y46 {y:Nat} (h1:1000≤y) (h2:y<10000):Lib.decDigits y=pad4 y:=by
 rw[ymb y (by omega),ymb (y / 10) (by omega),ymb (y / 10 / 10) (by omega),Lib.decDigits_one (by omega)]
 unfold pad4 u8D
 rw[show y / 10 / 10 / 10=y / 1000 by omega,show y / 10 / 10 % 10=y / 100 % 10 by omega]
 rfl
theorem yum {m:Nat} (h:m<100):zdf (m:Int) 2=pad2 m:=by
 unfold zdf
 rw[y66,yqf]
 by_cases h10:m<10
 ·rw[Lib.decDigits_one h10]
  unfold pad2 u8D
  rw[show m / 10=0 by omega,show m % 10=m by omega]
  rfl
 ·rw[ymb m h10,Lib.decDigits_one (by omega)]
  rfl
def D10 (y m d:Nat):List UInt8:=pad4 y++45::(pad2 m++45::pad2 d)
theorem y0c {a:Int} (h1:0≤a) (h2:a≤99999):∃ y m d:Nat,zw a=((y:Int),(m:Int),(d:Int))∧2000≤y∧y≤2273∧1≤m∧m≤12∧1≤d∧d≤31∧ylk a y m d∧zv a=D10 y m d:=by
 obtain⟨y,m,d,e,hy,hd⟩:=yddb a h1 h2
 have hm:=yso (l:=yhb y) hd.2.1 hd.2.2.1
 obtain⟨q1,q2,q3,q4,q5,q6⟩:=hd
 refine⟨y.toNat,m.toNat,d.toNat,?_,by omega,by omega,by omega,by omega,by omega,by omega,?_,?_⟩
 ·rw[e,show(y.toNat:Int)=y by omega,show(m.toNat:Int)=m by omega,show(d.toNat:Int)=d by omega]
 ·rw[show(y.toNat:Int)=y by omega,show(m.toNat:Int)=m by omega,show(d.toNat:Int)=d by omega]
  exact⟨q1,q2,q3,q4,q5,q6⟩
 ·unfold zv zld ze
  simp only[h1,h2,decide_true,Bool.and_self,Bool.not_true,cond_false,e]
  conv=>lhs;rw[show y=(y.toNat:Int)by omega,show m=(m.toNat:Int)by omega,show d=(d.toNat:Int)by omega]
  rw[y66,yqf,y46 (by omega) (by omega),yum (by omega),yum (by omega)]
  unfold D10
  simp
theorem ysy (x:Int):(decide (x<48) || decide (57<x)) = !(decide (48≤x) && decide (x≤57)):=by
 apply Bool.eq_iff_iff.2
 simp only[Bool.or_eq_true,decide_eq_true_eq,Bool.not_eq_true',Bool.and_eq_false_iff,decide_eq_false_iff_not]
 omega
theorem yxc (l:List UInt8) (h:l.length≤18):zvc l=if y4b l then(((digV 0 l:Nat):Int),true)else(0,false):=by
 unfold zvc
 have hpow:(0+1) * 10 ^ (l.length-0)≤E18:=by
  have:10 ^ (l.length-0)≤10 ^ 18:=Nat.pow_le_pow_right (by decide) (by omega)
  have h6:(10:Nat) ^ 18=1000000000000000000:=by decide
  unfold E18;omega
 have hL:=y6e l (y8n l) (fun i s=>by
  unfold y8n
  rw[ysy]) (l.length-0) 0 0 (by omega) hpow
 rw[List.drop_zero]at hL
 rw[show(0:Int)=((0:Nat):Int)from rfl,hL]
 by_cases hA:y4b l
 ·rw[if_pos hA,if_pos hA]
 ·rw[if_neg hA,if_neg hA];rfl
theorem yuh (l:List UInt8) (h:l.length≤18) (h0:l≠[]):zu l=if y4b l then(((digV 0 l:Nat):Int),true)else(0,false):=by
 unfold zu
 have hpow:(0+1) * 10 ^ (l.length-0)≤E18:=by
  have:10 ^ (l.length-0)≤10 ^ 18:=Nat.pow_le_pow_right (by decide) (by omega)
  have h6:(10:Nat) ^ 18=1000000000000000000:=by decide
  unfold E18;omega
 have hL:=y6e l (y40 l) (fun i s=>by
  unfold y40
  rw[ysy]) (l.length-0) 0 0 (by omega) hpow
 rw[List.drop_zero]at hL
 rw[show(0:Int)=((0:Nat):Int)from rfl,hL]
 have hw:ze (l.length:Int) 1 18=true:=by
  have:=List.length_pos_iff.2 h0
  unfold ze;simp;omega
 by_cases hA:y4b l
 ·rw[if_pos hA,if_pos hA];simp only[hw]
 ·rw[if_neg hA,if_neg hA];rfl
end Go.Ab

namespace Go.Ab
open Go Go.Proofs
theorem yf6 {y:Int} (h1:2000≤y) (h2:y≤2274):0≤ybD y∧ybD y≤100284:=by unfold ybD;omega
theorem yncb:∀ (l:Bool) (m:Fin 13),mbD l m≤335:=by decide
theorem yybb {l:Bool} {m:Nat} (h:m≤12):mbD l m≤335:=yncb l ⟨m,by omega⟩
theorem ydj (y m d:Nat) (h1:2000≤y) (h2:y≤2273) (h3:1≤m) (h4:m≤12) (h5:1≤d) (h6:d≤31):zzc y m d=ybD y+mbD (yhb y) m+d-1:=by
 have L1:=yxd (b:=y0n y m d) (I:=fun i t=>2000≤i∧(i≤2273→t=ybD i+d-1)) (fun i s hI=>by
  obtain⟨hI1,hI2⟩:=hI
  unfold y0n
  have hlp:zrf (i:Int)=yhb (i:Int):=rfl
  rw[hlp]
  by_cases hle:i≤2272
  ·have hs:=hI2 (by omega)
   have hb:=yf6 (y:=(i:Int)) (by omega) (by omega)
   have hn:=y2m (i:Int) (by omega)
   cases hl:yhb (i:Int)with
   | true=>
    rw[hl]at hn
    simp only[cond_true]at hn ⊢
    refine⟨_,rfl,by omega,fun _ => ?_⟩
    rw[y8b (n:=s+365) (by omega) (by omega),y8b (by omega) (by omega)]
    push_cast
    omega
   | false=>
    rw[hl]at hn
    simp only[cond_false]at hn ⊢
    refine⟨_,rfl,by omega,fun _ => ?_⟩
    rw[y8b (by omega) (by omega)]
    push_cast
    omega
  ·cases yhb (i:Int)with
   | true=>exact⟨_,rfl,by omega,fun _=>by omega⟩
   | false=>exact⟨_,rfl,by omega,fun _=>by omega⟩) (y-2000) 2000 ((d:Int)-1) ⟨by omega,fun _=>by simp[ybD]⟩
 obtain⟨t,e1,_,q1⟩:=L1
 have q1:=q1 (by omega)
 rw[show 2000+(y-2000)=y by omega]at q1
 have hyb:=yf6 (y:=(y:Int)) (by omega) (by omega)
 have L2:=yxd (b:=ybu y m d t) (I:=fun i s=>1≤i∧(i≤12→s=t+mbD (yhb y) i)) (fun i s hI=>by
  obtain⟨hI1,hI2⟩:=hI
  refine⟨_,rfl,by omega,fun hle => ?_⟩
  have hs:=hI2 (by omega)
  have hm:=yjq (y:=(y:Int)) (m:=(i:Int)) (by omega) (by omega)
  have hsu:=you (l:=yhb y) (m:=(i:Int)) (by omega) (by omega)
  have hml:=yso (l:=yhb y) (m:=(i:Int)) (by omega) (by omega)
  have hbl:=yybb (l:=yhb y) (m:=i) (by omega)
  rw[show((i:Int)+1).toNat=i+1 by omega,Int.toNat_natCast]at hsu
  rw[Int.toNat_natCast]at hm hml
  rw[y8b (by omega) (by omega),hm]
  omega) (m-1) 1 t ⟨by omega,fun _=>by rw[y5p];simp⟩
 obtain⟨u,e2,_,q2⟩:=L2
 have q2:=q2 (by omega)
 rw[show 1+(m-1)=m by omega]at q2
 unfold zzc
 rw[y8b (n:=(d:Int)-1) (by omega) (by omega),Int.toNat_natCast,Int.toNat_natCast,e1]
 simp only
 rw[e2]
 simp only
 omega
theorem yar (y:Nat) (h1:2000≤y) (h2:y≤2273):zed y=ybD y:=by
 have L1:=yxd (b:=yqm y) (I:=fun i t=>2000≤i∧(i≤2273→t=ybD i)) (fun i s hI=>by
  obtain⟨hI1,hI2⟩:=hI
  refine⟨_,rfl,by omega,fun hle => ?_⟩
  have hs:=hI2 (by omega)
  have hb:=yf6 (y:=(i:Int)) (by omega) (by omega)
  have hn:=y2m (i:Int) (by omega)
  have hyd:zvb (i:Int)=365+(bif yhb (i:Int)then 1 else 0):=by
   unfold zvb;rw[ygv (by omega) (by omega)];cases yhb (i:Int)<;>rfl
  have hy:=ydk (i:Int)
  rw[y8b (by omega) (by omega),hyd]
  push_cast
  omega) (y-2000) 2000 0 ⟨by omega,fun _=>by simp[ybD]⟩
 obtain⟨t,e1,_,q1⟩:=L1
 have q1:=q1 (by omega)
 rw[show 2000+(y-2000)=y by omega]at q1
 unfold zed
 rw[Int.toNat_natCast,e1]
 exact q1
theorem yo3 (y m d:Nat) (h1:2000≤y) (h2:y≤2273) (h3:1≤m) (h4:m≤12) (h5:1≤d) (h6:d≤31):zme y m d=ybD y+mbD (yhb y) m+d-1:=by
 have hyb:=yf6 (y:=(y:Int)) (by omega) (by omega)
 have L2:=yxd (b:=y3s y m d) (I:=fun i s=>1≤i∧(i≤12→s=ybD y+d-1+mbD (yhb y) i)) (fun i s hI=>by
  obtain⟨hI1,hI2⟩:=hI
  refine⟨_,rfl,by omega,fun hle => ?_⟩
  have hs:=hI2 (by omega)
  have hm:=y7k (y:=(y:Int)) (m:=(i:Int)) (by omega) (by omega) (by omega) (by omega)
  have hsu:=you (l:=yhb y) (m:=(i:Int)) (by omega) (by omega)
  have hml:=yso (l:=yhb y) (m:=(i:Int)) (by omega) (by omega)
  have hbl:=yybb (l:=yhb y) (m:=i) (by omega)
  rw[show((i:Int)+1).toNat=i+1 by omega,Int.toNat_natCast]at hsu
  rw[Int.toNat_natCast]at hm hml
  rw[y8b (by omega) (by omega),hm]
  omega) (m-1) 1 (ybD y+d-1) ⟨by omega,fun _=>by rw[y5p];simp⟩
 obtain⟨u,e2,_,q2⟩:=L2
 have q2:=q2 (by omega)
 rw[show 1+(m-1)=m by omega]at q2
 unfold zme
 rw[yar y h1 h2,y8b (n:=ybD y+(d:Int)) (by omega) (by omega),y8b (by omega) (by omega),Int.toNat_natCast,e2]
 simp only
 omega
end Go.Ab
