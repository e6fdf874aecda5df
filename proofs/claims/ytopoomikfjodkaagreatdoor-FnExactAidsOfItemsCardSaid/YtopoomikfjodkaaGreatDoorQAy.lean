/- A part of a proof: walks of functions and lemmas of our own. No conditions. -/
import Derived.Test.YtopoomikfjodkaaGreatDoorQAw
import Derived.Test.YtopoomikfjodkaaGreatDoorQAx
import Derived.Test.YtopoomikfjodkaaGreatDoorQAq
import Derived.Test.YtopoomikfjodkaaGreatDoorQAu
import Derived.Test.YtopoomikfjodkaaGreatDoorQAr
import Derived.Test.YtopoomikfjodkaaGreatDoorQAt
import Derived.Test.YtopoomikfjodkaaGreatDoorQAl
import Derived.Test.YtopoomikfjodkaaGreatDoorQAo
import Derived.Test.YtopoomikfjodkaaGreatDoorQAn
set_option linter.unusedSectionVars false
set_option linter.unusedVariables false
set_option linter.unusedSimpArgs false
set_option maxHeartbeats 1000000
namespace Go.Ab
open Go Go.Proofs
theorem yay {p:Point} (h:zcc p=true):0≤p.X∧p.X≤200000∧0≤p.Y∧p.Y≤200000:=by
 simp[zcc,zl]at h;omega
theorem yse {a:List Sector} (h:zr a=true):a.length≤12∧∀ i,i<a.length→zqc (a.getD i default)=true:=by
 unfold zr at h
 cases h12:decide (12<(a.length:Int))with
 | true=>rw[h12]at h;cases h
 | false=>
  rw[h12]at h
  have h12:=of_decide_eq_false h12
  refine⟨by omega,fun i hi => ?_⟩
  rcases y6d (b:=y9v a) (secQ a) (fun _ u=>u) false (k:=a.length-0) (i:=0) (s:=()) (fun j u _ _=>by cases u;rfl)with⟨_,e1⟩|⟨hq,_⟩
  ·rw[e1]at h;cases h
  ·exact((you a i (by omega)).1 (hq i (Nat.zero_le _) (by omega))).1
theorem ylr {c:List UInt8} (h:zye c=true):c=[87]∨c=[82]∨c=[71]∨c=[89]:=by
 unfold zye at h
 simp only[Bool.or_eq_true,beq_iff_eq]at h
 rcases h with((h|h)|h)|h
 ·exact .inl h
 ·exact .inr (.inl h)
 ·exact .inr (.inr (.inl h))
 ·exact .inr (.inr (.inr h))
theorem yog {a:List Sector} (h:zr a=true):a.length≤12∧∀ i,0≤(a.getD i default).From∧(a.getD i default).From≤359∧0≤(a.getD i default).To∧(a.getD i default).To≤359∧(a.getD i default).Color.length≤1:=by
 obtain⟨h1,h2⟩:=yse h
 refine⟨h1,fun i => ?_⟩
 by_cases hi:i<a.length
 ·have h3:=h2 i hi
  have hb:=y1r h3
  unfold zqc at h3
  rw[Bool.and_eq_true]at h3
  refine⟨hb.1.1,hb.1.2,hb.2.1,hb.2.2,?_⟩
  rcases ylr h3.2 with h|h|h|h<;>rw[h]<;>decide
 ·rw[List.getD_eq_getElem?_getD,List.getElem?_eq_none (by omega)]
  decide
theorem yll {m:Mark} (h:zvc m=true):(m.Kind=0∧m.Colors=[]∧m.Shape=[]∧m.Topmark=[]) ∨
  (zxb m.Kind=true∧m.Colors=zge m.Kind∧(m.Topmark=[]∨m.Topmark=zoe m.Kind)∧m.Shape∈zlb m.Kind):=by
 rw[show zvc m=zz m from rfl]at h
 unfold zz at h
 by_cases hk:m.Kind=0
 ·left
  rw[show(m.Kind == 0)=true by simp[hk]]at h
  simp only[cond_true,Bool.and_eq_true,beq_iff_eq]at h
  exact⟨hk,h.2.1,h.2.2.1,h.2.2.2⟩
 ·right
  rw[show(m.Kind == 0)=false by simp[hk],cond_false]at h
  cases hc:(((!(zxb m.Kind)) || (m.Colors != (zge m.Kind))) || ((m.Topmark != []) && (m.Topmark != (zoe m.Kind))))with
  | true=>rw[hc]at h;cases h
  | false=>
   rw[hc,cond_false]at h
   have h:=(y4l m).symm.trans h
   rw[List.any_eq_true]at h
   simp only[Bool.or_eq_false_iff,Bool.not_eq_false',Bool.and_eq_false_iff,bne_eq_false_iff_eq]at hc
   obtain⟨y,hy,he⟩:=h
   exact⟨hc.1.1,hc.1.2,hc.2,by rw[← eq_of_beq he];exact hy⟩
theorem ytg {m:Mark} (h:zvc m=true):0≤m.Kind∧m.Kind≤9∧m.Colors.length≤3∧m.Shape.length≤6∧m.Topmark.length≤5:=by
 rcases yll h with⟨h1,h2,h3,h4⟩|⟨h1,h2,h3,h4⟩
 ·rw[h1,h2,h3,h4];simp
 ·have hk:=h1
  unfold zxb zl at hk
  simp only[Bool.and_eq_true,decide_eq_true_eq]at hk
  refine⟨by omega,by omega,?_,?_,?_⟩
  ·rw[h2];rcases ykg h1 with e|e|e|e|e|e|e|e|e<;>rw[e]<;>decide
  ·have hs:∀ y∈zlb m.Kind,y.length≤6:=by rcases ykg h1 with e|e|e|e|e|e|e|e|e<;>rw[e]<;>decide
   exact hs _ h4
  ·rcases h3 with e|e
   ·rw[e];decide
   ·rw[e];rcases ykg h1 with e|e|e|e|e|e|e|e|e<;>rw[e]<;>decide
theorem y4r:zr []=true:=by decide
theorem ybf {a:Aid} (h:zdc a=true):1≤a.Number∧a.Number≤9999∧zvb a.Name=true∧zcc a.At=true∧0≤a.Height∧a.Height≤3000∧zvc a.Mark=true ∧
  (zdg a=true→zob a.Light=true)∧zr a.Sectors=true∧0≤a.Intensity∧a.Intensity≤100000000:=by
 unfold zdc at h
 cases hc:(((((!(zl a.Number 1 9999)) || (!(zvb a.Name))) || (!(zcc a.At))) || (!(zl a.Height 0 3000))) || (!(zvc a.Mark)))with
 | true=>rw[hc]at h;cases h
 | false=>
  rw[hc,cond_false]at h
  simp only[Bool.or_eq_false_iff,Bool.not_eq_false']at hc
  obtain⟨⟨⟨⟨c1,c2⟩,c3⟩,c4⟩,c5⟩:=hc
  simp only[zl,Bool.and_eq_true,decide_eq_true_eq]at c1 c4
  have fin:(zdg a=true→zob a.Light=true)∧zr a.Sectors=true∧0≤a.Intensity∧a.Intensity≤100000000:=by
   cases hp:zmd a.Light with
   | true=>
    rw[hp,cond_true,Bool.and_eq_true,beq_iff_eq,beq_iff_eq]at h
    have hs:a.Sectors=[]:=List.length_eq_zero_iff.1 (by omega)
    refine⟨fun hl => ?_,by rw[hs];exact y4r,by omega,by omega⟩
    unfold zmd at hp
    simp only[Bool.and_eq_true,beq_iff_eq]at hp
    unfold zdg at hl
    rw[bne_iff_ne]at hl
    exact absurd hp.1.1.1.1 hl
   | false=>
    rw[hp,cond_false]at h
    cases hd:(((!(zob a.Light)) || (!(zl a.Intensity 1 100000000))) || (!(zr a.Sectors)))with
    | true=>rw[hd]at h;cases h
    | false=>
     simp only[Bool.or_eq_false_iff,Bool.not_eq_false',zl,Bool.and_eq_true,decide_eq_true_eq]at hd
     exact⟨fun _=>hd.1.1,hd.2,by omega,by omega⟩
  exact⟨c1.1,c1.2,c2,c3,c4.1,c4.2,c5,fin⟩
theorem yst {s:List UInt8} (h:zvb s=true):s.length≤10:=((y8f s).1 h).2.1
theorem yd4 {a:Aid} (h:zdc a=true) (hl:a.Light.Colors.length<9223372036854775808):zbe a=zdg a:=by
 have hr:=ybf h
 have hsl:=(yog hr.2.2.2.2.2.2.2.2.1).1
 unfold zdc at h
 cases hc:(((((!(zl a.Number 1 9999)) || (!(zvb a.Name))) || (!(zcc a.At))) || (!(zl a.Height 0 3000))) || (!(zvc a.Mark)))with
 | true=>rw[hc]at h;cases h
 | false=>
  rw[hc,cond_false]at h
  cases hp:zmd a.Light with
  | true=>
   have h1:=ybo _ hp
   unfold zbe zdg
   rw[h1]
   unfold zmd at hp
   simp only[Bool.and_eq_true,beq_iff_eq]at hp
   rw[hp.1.1.1.1]
   rfl
  | false=>
   rw[hp,cond_false]at h
   cases hd:(((!(zob a.Light)) || (!(zl a.Intensity 1 100000000))) || (!(zr a.Sectors)))with
   | true=>rw[hd]at h;cases h
   | false=>
    rw[hd,cond_false]at h
    simp only[Bool.or_eq_false_iff,Bool.not_eq_false']at hd
    have hk:=(yvx a.Light hl hd.1.1).2.2.1
    unfold zbe zdg
    have e4:zrf a.Intensity=zl a.Intensity 1 100000000:=rfl
    rw[ypf _ hl,hd.1.1,e4,hd.1.2,ynb _ (by omega),hd.2,yri]
    simp only[Bool.not_true,Bool.or_self,cond_false]
    rw[h]
    symm
    rw[bne_iff_ne];omega
theorem yv5 {p:Point} (h:(!zcd p)=false):0≤p.X∧p.X≤200000∧0≤p.Y∧p.Y≤200000:=by
 have h2:zcd p=true:=by simpa using h
 exact yay (p:=p) h2
theorem yny {m:Mark} (h:(!zoc m)=false):0≤m.Kind∧m.Kind≤9∧m.Colors.length≤3∧m.Shape.length≤6∧m.Topmark.length≤5:=ytg (by rw[← yqd];simpa using h)
theorem y60 {a:List Sector} (hl:a.length<1099511627776) (h:(!zy a)=false):a.length≤12∧∀ i,0≤(a.getD i default).From∧(a.getD i default).From≤359∧0≤(a.getD i default).To∧(a.getD i default).To≤359∧(a.getD i default).Color.length≤1:=yog (by rw[← ynb a (by omega)];simpa using h)
theorem yzt {a:Aid} (hb:bdAid a) (h:(!znf a)=false):zdc a=true:=by
 rw[← yjg a (Nat.lt_of_lt_of_le hb.2.2.1.2.2 (by decide)) (Nat.lt_of_lt_of_le hb.2.2.2.1 (by decide))];simpa using h
theorem y2x (k:Int):(zuc k).length≤100:=yb1 _ _ (by decide)
theorem yq3 (n:Nat):(zhb.getD n default).length≤100:=yhk _ (by decide) n
end Go.Ab

namespace Go.Ab
open Go Go.Proofs
def yae (m:Nat):List Int:=if h:m=0 then[]else(48+(m % 10:Nat):Int)::yae (m / 10)
termination_by m
decreasing_by omega
theorem ygg:yae 0=[]:=by rw[yae];simp
theorem y6h {m:Nat} (h:m≠0):yae m=(48+(m % 10:Nat):Int)::yae (m / 10):=by rw[yae];simp[h]
theorem y5m:∀ (m:Nat),m≠0→(yae m).reverse.map (fun z=>UInt8.ofNat z.toNat)=Go.Lib.decDigits m:=by
 intro m
 induction m using Nat.strongRecOn with
 | ind m ih=>
  intro h
  rw[y6h h,Go.Lib.decDigits]
  have e3:UInt8.ofNat (48+((m % 10:Nat):Int)).toNat=UInt8.ofNat (48+m % 10):=by congr 1
  split
  ·rename_i h10
   have e:m / 10=0:=by omega
   have e2:m % 10=m:=Nat.mod_eq_of_lt h10
   rw[e2]at e3 ⊢
   simp only[e,ygg,List.reverse_cons,List.reverse_nil,List.nil_append,List.map_cons,List.map_nil]
   rw[e3]
  ·rw[← ih (m / 10) (by omega) (by omega)]
   simp only[List.reverse_cons,List.map_append,List.map_cons,List.map_nil,e3]
theorem yt2 (x:Int):(x.tdiv 10).natAbs=x.natAbs / 10:=by
 rcases yrk x with⟨h,e⟩|⟨h,e⟩<;>rw[e]<;>omega
theorem yv6 (x:Int):x.tmod 10=x-10 * x.tdiv 10:=Int.tmod_def x 10
theorem yn6 (a0:Int) (m:Int) (ds:List Int) (h1 : -1000000000000≤m) (h2:m≤1000000000000) (h:m≠0) :
  yvp a0 (m,ds)=.ok (m.tdiv 10,ds++[48+((m.natAbs % 10:Nat):Int)]):=by
 have e1:=yv6 m
 have e2:=yrk m
 have hn:(m != 0)=true:=by simpa using h
 unfold yvp
 simp only[hn,cond_true]
 have w1:IntKind.wrap .i64 (m.tdiv 10)=m.tdiv 10:=by rw[IntKind.wrap_i64];omega
 rw[w1]
 by_cases hm:m.tmod 10<0
 ·simp only[hm,decide_true,cond_true]
  have w2:IntKind.wrap .u8 (IntKind.wrap .i64 (48+(IntKind.wrap .i64 (0-(m.tmod 10)))))=48+((m.natAbs % 10:Nat):Int):=by
   simp only[IntKind.wrap_i64,IntKind.wrap_u8]
   omega
  rw[w2]
 ·simp only[hm,decide_false,cond_false]
  have w2:IntKind.wrap .u8 (IntKind.wrap .i64 (48+(m.tmod 10)))=48+((m.natAbs % 10:Nat):Int):=by
   simp only[IntKind.wrap_i64,IntKind.wrap_u8]
   omega
  rw[w2]
theorem y8n (a0:Int):∀ (k:Nat) (m:Int) (ds:List Int),-1000000000000≤m→m≤1000000000000→m.natAbs<k →
  y7 (yvp a0) k (m,ds)=.error (.inr (0,ds++yae m.natAbs))
 | 0,m,ds,_,_,h=>by omega
 | k+1,m,ds,h1,h2,h=>by
  by_cases hm:m=0
  ·subst hm
   simp[y7,yvp,ygg]
  ·have e2:=yrk m
   simp only[y7,yn6 a0 m ds h1 h2 hm]
   rw[y8n a0 k (m.tdiv 10) _ (by omega) (by omega) (by omega),yt2,List.append_assoc,List.singleton_append, ← y6h (by omega)]
theorem ywv:∀ (m:Nat),(yae m).length≤m:=by
 intro m
 induction m using Nat.strongRecOn with
 | ind m ih=>
  by_cases h:m=0
  ·subst h;simp[ygg]
  ·rw[y6h h]
   have:=ih (m / 10) (by omega)
   simp only[List.length_cons]
   omega
theorem y9t {α:Type} (L:List α) (d:α) (k:Nat) (h:k<L.length):L.getD k d::(L.take k).reverse=(L.take (k+1)).reverse:=by
 rw[List.take_add_one,List.reverse_append]
 simp[List.getD,List.getElem?_eq_getElem h]
theorem yxo (a0:Int) (s1:Int×List Int):∀ (f k:Nat) (out:List Int),k<f→k≤s1.2.length+1→k≤1000000000001 →
  y7 (yyr a0 s1) f ((k:Int)-1,out)=.error (.inr (-1,out++((s1.2++[45]).take k).reverse))
 | 0,k,out,h,_,_=>by omega
 | f+1,0,out,_,_,_=>by simp[y7,yyr]
 | f+1,k+1,out,h,hk,hb=>by
  have e1:IntKind.wrap .i64 (((k+1:Nat):Int)-1-1)=(k:Int)-1:=by rw[IntKind.wrap_i64];omega
  have e2:(((k+1:Nat):Int)-1).toNat=k:=by omega
  have e3:decide (0≤((k+1:Nat):Int)-1)=true:=by simp
  simp only[y7,yyr,e3,cond_true,e1,e2]
  rw[yxo a0 s1 f k _ (by omega) (by omega) (by omega),List.append_assoc,List.singleton_append,y9t _ _ _ (by simp;omega)]
theorem ysq (a0:Int) (s1:Int×List Int):∀ (f k:Nat) (out:List Int),k<f→k≤s1.2.length→k≤1000000000001 →
  y7 (y0r a0 s1) f ((k:Int)-1,out)=.error (.inr (-1,out++(s1.2.take k).reverse))
 | 0,k,out,h,_,_=>by omega
 | f+1,0,out,_,_,_=>by simp[y7,y0r]
 | f+1,k+1,out,h,hk,hb=>by
  have e1:IntKind.wrap .i64 (((k+1:Nat):Int)-1-1)=(k:Int)-1:=by rw[IntKind.wrap_i64];omega
  have e2:(((k+1:Nat):Int)-1).toNat=k:=by omega
  have e3:decide (0≤((k+1:Nat):Int)-1)=true:=by simp
  simp only[y7,y0r,e3,cond_true,e1,e2]
  rw[ysq a0 s1 f k _ (by omega) (by omega) (by omega),List.append_assoc,List.singleton_append,y9t _ _ _ (by omega)]
theorem y1f (n:Int) (h1 : -1000000000000≤n) (h2:n≤1000000000000):zi n=Go.Lib.itoa n:=by
 unfold zi Go.Lib.itoa
 by_cases h0:n=0
 ·subst h0
  simp[Go.Lib.decDigits]
 have hn:(n == 0)=false:=by simpa using h0
 rw[hn,cond_false,y8n n _ n [] h1 h2 (by omega)]
 have hl:=ywv n.natAbs
 have hr:=y5m n.natAbs (by omega)
 simp only[List.nil_append]
 by_cases hneg:n<0
 ·have e1:IntKind.wrap .i64 (((yae n.natAbs).length+1:Int)-1)=((((yae n.natAbs).length+1:Nat)):Int)-1:=by rw[IntKind.wrap_i64];omega
  simp only[hneg,decide_true,cond_true,e1,if_true]
  rw[yxo n _ _ _ _ (by omega) (by simp) (by omega)]
  simp only[List.nil_append]
  rw[List.take_of_length_le (by simp),List.reverse_append,List.map_append,hr]
  rfl
 ·have e1:IntKind.wrap .i64 (((yae n.natAbs).length:Int)-1)=(((yae n.natAbs).length:Nat):Int)-1:=by rw[IntKind.wrap_i64];omega
  simp only[hneg,decide_false,cond_false,e1,if_false]
  rw[ysq n _ _ _ _ (by omega) (by simp) (by omega)]
  simp only[List.nil_append]
  rw[List.take_of_length_le (by simp),hr]
  congr 1
  omega
theorem y4y (n:Int) (h1 : -1000000000000≤n) (h2:n≤1000000000000):(zi n).length≤n.natAbs+2:=by
 rw[y1f n h1 h2]
 exact ykp n
end Go.Ab

namespace Go.Ab
open Go Go.Proofs
def zwb (a0:Int):(List UInt8):=
 (bif ((a0.tmod 10) == 0)then(zi (IntKind.wrap .i64 (a0.tdiv 10)))++[115]else(((zi (IntKind.wrap .i64 (a0.tdiv 10)))++[46])++(zi (a0.tmod 10)))++[115])
namespace N280
theorem DD:DOk Tryz.prog (Go.Ab.DD [(166,dP D_zi)]):=ya yur.e <| ye _
theorem dn:type_of% (@D_zi.eq_1):=by and_intros<;>intros<;>rfl
set_option maxHeartbeats 400000 in
set_option maxRecDepth 20000 in
theorem den (a0:Int) (hp0:0≤a0) (hp1:a0≤1000000):Den Tryz.prog 280 [.int .i64 a0] (.str (zwb a0)):=by
 generalize hR:zwb a0=r
 unfold zwb at hR
 refine di Tryz.func280 Tryz.ntmps280 Tryz.results280 ?_
 intro c hL hc hk
 clear hL
 simp only[pars,Nat.zero_add]
 have hd:a0.tdiv 10=a0 / 10:=Int.tdiv_eq_ediv_of_nonneg hp0
 have hw:IntKind.wrap .i64 (a0.tdiv 10)=a0 / 10:=by rw[IntKind.wrap_i64];omega
 have ht:=y1i a0
 have h1:=y4y (IntKind.wrap .i64 (a0.tdiv 10)) (by omega) (by omega)
 have h2:=y4y (a0.tmod 10) (by omega) (by omega)
 have h3:(IntKind.wrap .i64 (a0.tdiv 10)).natAbs≤100000:=by omega
 have h4:(a0.tmod 10).natAbs≤10:=by omega
 iterate 2 refine rS ?_
 refine AWP.cond rfl (fun hb => ?_) (fun hb => ?_)
 ·replace hR:=ct hR
  refine rS ?_
  refine AWP.ret ?_
  subst hR
  exact es
 ·replace hR:=cf hR
  refine rS ?_
  refine AWP.ret ?_
  subst hR
  exact es
end N280
def D_zwb : DF
 | [x0]=>some (.str (zwb (rdI x0)),false,[wI .i64 x0,0≤(rdI x0),(rdI x0)≤1000000])
 | _=>none
theorem yrn:OkD Tryz.prog 280 D_zwb:=by unfold D_zwb;exact dk N280.den
end Go.Ab

namespace Go.Ab
open Go Go.Proofs
theorem ycr (n:Nat):(zm.getD n default).length≤3:=by
 rw[List.getD_eq_getElem?_getD]
 have h:∀ x∈zm,x.length≤3:=by decide
 cases hg:zm[n]? with
 | none=>show(0:Nat)≤3;omega
 | some x=>exact h x (List.mem_of_getElem? hg)
theorem yfv (n:Int) (h1:0≤n) (h2:n≤1000000):(zwb n).length≤43:=by
 unfold zwb
 have hd:n.tdiv 10=n / 10:=Int.tdiv_eq_ediv_of_nonneg h1
 have hw:IntKind.wrap .i64 (n.tdiv 10)=n / 10:=by rw[IntKind.wrap_i64];omega
 have ht:=y1i n
 rw[hw,y1f _ (by omega) (by omega),y1f _ (by omega) (by omega)]
 have h3:=y7d (n / 10) (by omega) (by omega)
 have h4:=y7d (n.tmod 10) (by omega) (by omega)
 simp only[Bool.cond_eq_ite]
 split
 ·simp only[List.length_append,List.length_cons,List.length_nil];omega
 ·simp only[List.length_append,List.length_cons,List.length_nil];omega
end Go.Ab

namespace Go.Ab
open Go Go.Proofs
def ycp (a0:Character) (i1:Nat) (s1:List UInt8):Except ((List UInt8)) (List UInt8):=
 (bif ((i1:Int) == 0)then .ok (s1++([40]++(zi (a0.Group.getD i1 default))))else .ok (s1++([43]++(zi (a0.Group.getD i1 default)))))
def y6n (a0:Character) (i2:Nat) (s2:List UInt8):Except ((List UInt8)) (List UInt8):=
 (bif ((i2:Int) == 0)then .ok (s2++([40]++(zi (a0.Group.getD i2 default))))else .ok (s2++([43]++(zi (a0.Group.getD i2 default)))))
def zfb (a0:Character):(List UInt8):=
 (bif (a0.Kind == 8)then(match yd (ycp a0) (a0.Group.length-0) 0 (((zm ).getD ((a0.Kind).toNat) default)++(([40]++a0.Letter)++[41]))with|.error e=>e|.ok s1=>(bif decide (0<(a0.Group.length:Int))then(bif ((a0.Letter == [76]) && (a0.Kind != 8))then(bif decide (0<a0.Period)then(((s1++[41])++[43,76,70,108])++([32]++a0.Colors))++([32]++(zwb a0.Period))else((s1++[41])++[43,76,70,108])++([32]++a0.Colors))else(bif decide (0<a0.Period)then((s1++[41])++([32]++a0.Colors))++([32]++(zwb a0.Period))else(s1++[41])++([32]++a0.Colors)))else(bif ((a0.Letter == [76]) && (a0.Kind != 8))then(bif decide (0<a0.Period)then((s1++[43,76,70,108])++([32]++a0.Colors))++([32]++(zwb a0.Period))else(s1++[43,76,70,108])++([32]++a0.Colors))else(bif decide (0<a0.Period)then(s1++([32]++a0.Colors))++([32]++(zwb a0.Period))else s1++([32]++a0.Colors)))))else(match yd (y6n a0) (a0.Group.length-0) 0 ((zm ).getD ((a0.Kind).toNat) default)with|.error e=>e|.ok s2=>(bif decide (0<(a0.Group.length:Int))then(bif ((a0.Letter == [76]) && (a0.Kind != 8))then(bif decide (0<a0.Period)then(((s2++[41])++[43,76,70,108])++([32]++a0.Colors))++([32]++(zwb a0.Period))else((s2++[41])++[43,76,70,108])++([32]++a0.Colors))else(bif decide (0<a0.Period)then((s2++[41])++([32]++a0.Colors))++([32]++(zwb a0.Period))else(s2++[41])++([32]++a0.Colors)))else(bif ((a0.Letter == [76]) && (a0.Kind != 8))then(bif decide (0<a0.Period)then((s2++[43,76,70,108])++([32]++a0.Colors))++([32]++(zwb a0.Period))else(s2++[43,76,70,108])++([32]++a0.Colors))else(bif decide (0<a0.Period)then(s2++([32]++a0.Colors))++([32]++(zwb a0.Period))else s2++([32]++a0.Colors))))))
namespace N203
theorem DD:DOk Tryz.prog (Go.Ab.DD [(166,dP D_zi),(279,dP D_zm),(280,dP D_zwb)]):=ya yur.e <| ya ysx.e <| ya yrn.e <| ye _
theorem DZ:DOk Tryz.prog (Go.Ab.DD [(166,dP D_zi),(279,dP Dz_zm),(280,dP D_zwb)]):=ya yur.e <| ya yw1.e <| ya yrn.e <| ye _
theorem dn:type_of% (And.intro @D_zi.eq_1 <| And.intro @D_zm.eq_1 <| And.intro @D_zwb.eq_1 <| @Dz_zm.eq_1):=by and_intros<;>intros<;>rfl
theorem o0 {p:Prop} (h:p:=by(first|(and_intros<;>(first|omega|((try simp only[List.length_append,List.length_cons,List.length_nil,List.length_singleton]);omega)|(have h9:=hg9 i1;omega)|(have h9:=hg9 i2;omega)|(have h9:=hd9 i1;(try simp only[List.length_append,List.length_cons,List.length_nil,List.length_singleton]);omega)|(have h9:=hd9 i2;(try simp only[List.length_append,List.length_cons,List.length_nil,List.length_singleton]);omega)|exact hp1|((try simp only[List.length_append,List.length_cons,List.length_nil,List.length_singleton]at *);omega))));first|done|fail):p:=h
set_option maxHeartbeats 1000000 in
set_option maxRecDepth 20000 in
theorem den (a0:Character) (hb0:bdCharacter a0) (hp0:a0.Group.length≤4) (hp1:∀ v∈a0.Group,1≤v∧v≤9) (hp2:1≤a0.Kind) (hp3:a0.Kind≤8) (hp4:0≤a0.Period) (hp5:a0.Period≤600):Den Tryz.prog 203 [.ep (yi a0)] (.str (zfb a0)):=by
 generalize hR:zfb a0=r
 unfold zfb at hR
 refine di Tryz.func203 Tryz.ntmps203 Tryz.results203 ?_
 intro c hL hc hk
 obtain⟨hL0,_⟩:=hL
 have hw0:bwCharacter a0:=yp a0 hL0
 clear hL0
 simp only[pars,Nat.zero_add]
 have hg9:∀ i:Nat,0≤a0.Group.getD i default∧a0.Group.getD i default≤9:=fun i=>yuf hp1 i
 have hd9:∀ i:Nat,(zi (a0.Group.getD i default)).length≤11:=fun i=>by have h1:=hg9 i;have h2:=y4y (a0.Group.getD i default) (by omega) (by omega);omega
 have hk9:=ycr a0.Kind.toNat
 have hk8:zm.length=9:=rfl
 have hs9:=yfv a0.Period (by omega) (by omega)
 have hbL:a0.Letter.length<1099511627776:=hb0.2.1
 have hbC:a0.Colors.length<1099511627776:=hb0.2.2
 refine rS ?_
 refine rZ 7 ?_
 refine rS ?_
 refine AWP.cond rfl (fun hb => ?_) (fun hb => ?_)
 ·replace hR:=ct hR
  iterate 2 refine rS ?_
  refine AWP.block ?_
  generalize hz1:yd (ycp a0) (a0.Group.length-0) 0 (((zm ).getD ((a0.Kind).toNat) default)++(([40]++a0.Letter)++[41]))=z1 at hR
  refine AWP.range (ycp a0) (fun i1 s1=>⟨[(0,.ep (yi a0)),(3,.str s1),(4,.int .i64 (i1:Int))],[]⟩) (fun i1 s1=>s1.length≤9+a0.Letter.length+12 * i1) (a0.Group.length) 0 (((zm ).getD ((a0.Kind).toNat) default)++(([40]++a0.Letter)++[41])) [] hz1 ot (by((try simp only[List.length_append,List.length_cons,List.length_nil,List.length_singleton]);omega)) sm ?_
  clear hz1
  intro i1 s1 hi1 hW1 hz1
  refine rS ?_
  refine AWP.cond rfl (fun hb => ?_) (fun hb => ?_)
  ·have hlt1:i1<a0.Group.length:=ot
   rw[yh hlt1]at hz1;simp only[ycp]at hz1
   iterate 2 refine rS ?_
   refine AWP.cond rfl (fun hb => ?_) (fun hb => ?_)
   ·simp only[hb,cond_true]at hz1
    iterate 3 refine rS ?_
    exact⟨_,[],hlt1,by(have h9:=hd9 i1;and_intros<;>first|omega|((try simp only[List.length_append,List.length_cons,List.length_nil,List.length_singleton]);omega)|((try simp only[List.length_append,List.length_cons,List.length_nil,List.length_singleton]at *);omega)),hz1,sm⟩
   ·simp only[hb,cond_false]at hz1
    iterate 2 refine rS ?_
    exact⟨_,[],hlt1,by(have h9:=hd9 i1;and_intros<;>first|omega|((try simp only[List.length_append,List.length_cons,List.length_nil,List.length_singleton]);omega)|((try simp only[List.length_append,List.length_cons,List.length_nil,List.length_singleton]at *);omega)),hz1,sm⟩
  ·obtain rfl:i1=a0.Group.length:=ot
   rw[yg (Nat.le_refl _)]at hz1;subst hz1;dsimp only at hR
   refine AWP.exit ?_;refine yb ?_
   refine rS ?_
   refine AWP.cond rfl (fun hb => ?_) (fun hb => ?_)
   ·replace hR:=ct hR
    iterate 2 refine rS ?_
    refine AWP.cond rfl (fun hb => ?_) (fun hb => ?_)
    ·replace hR:=ct hR
     iterate 3 refine rS ?_
     refine AWP.cond rfl (fun hb => ?_) (fun hb => ?_)
     ·replace hR:=ct hR
      iterate 2 refine rS ?_
      refine AWP.ret ?_
      subst hR
      exact es
     ·replace hR:=cf hR
      refine rS ?_
      refine AWP.ret ?_
      subst hR
      exact es
    ·replace hR:=cf hR
     iterate 2 refine rS ?_
     refine AWP.cond rfl (fun hb => ?_) (fun hb => ?_)
     ·replace hR:=ct hR
      iterate 2 refine rS ?_
      refine AWP.ret ?_
      subst hR
      exact es
     ·replace hR:=cf hR
      refine rS ?_
      refine AWP.ret ?_
      subst hR
      exact es
   ·replace hR:=cf hR
    refine rS ?_
    refine AWP.cond rfl (fun hb => ?_) (fun hb => ?_)
    ·replace hR:=ct hR
     iterate 3 refine rS ?_
     refine AWP.cond rfl (fun hb => ?_) (fun hb => ?_)
     ·replace hR:=ct hR
      iterate 2 refine rS ?_
      refine AWP.ret ?_
      subst hR
      exact es
     ·replace hR:=cf hR
      refine rS ?_
      refine AWP.ret ?_
      subst hR
      exact es
    ·replace hR:=cf hR
     iterate 2 refine rS ?_
     refine AWP.cond rfl (fun hb => ?_) (fun hb => ?_)
     ·replace hR:=ct hR
      iterate 2 refine rS ?_
      refine AWP.ret ?_
      subst hR
      exact es
     ·replace hR:=cf hR
      refine rS ?_
      refine AWP.ret ?_
      subst hR
      exact es
 ·replace hR:=cf hR
  refine rS ?_
  refine AWP.block ?_
  generalize hz2:yd (y6n a0) (a0.Group.length-0) 0 ((zm ).getD ((a0.Kind).toNat) default)=z2 at hR
  refine AWP.range (y6n a0) (fun i2 s2=>⟨[(0,.ep (yi a0)),(3,.str s2),(4,.int .i64 (i2:Int))],[]⟩) (fun i2 s2=>s2.length≤9+a0.Letter.length+12 * i2) (a0.Group.length) 0 ((zm ).getD ((a0.Kind).toNat) default) [] hz2 ot (by((try simp only[List.length_append,List.length_cons,List.length_nil,List.length_singleton]);omega)) sm ?_
  clear hz2
  intro i2 s2 hi2 hW2 hz2
  refine rS ?_
  refine AWP.cond rfl (fun hb => ?_) (fun hb => ?_)
  ·have hlt2:i2<a0.Group.length:=ot
   rw[yh hlt2]at hz2;simp only[y6n]at hz2
   iterate 2 refine rS ?_
   refine AWP.cond rfl (fun hb => ?_) (fun hb => ?_)
   ·simp only[hb,cond_true]at hz2
    iterate 3 refine rS ?_
    exact⟨_,[],hlt2,by(have h9:=hd9 i2;and_intros<;>first|omega|((try simp only[List.length_append,List.length_cons,List.length_nil,List.length_singleton]);omega)|((try simp only[List.length_append,List.length_cons,List.length_nil,List.length_singleton]at *);omega)),hz2,sm⟩
   ·simp only[hb,cond_false]at hz2
    iterate 2 refine rS ?_
    exact⟨_,[],hlt2,by(have h9:=hd9 i2;and_intros<;>first|omega|((try simp only[List.length_append,List.length_cons,List.length_nil,List.length_singleton]);omega)|((try simp only[List.length_append,List.length_cons,List.length_nil,List.length_singleton]at *);omega)),hz2,sm⟩
  ·obtain rfl:i2=a0.Group.length:=ot
   rw[yg (Nat.le_refl _)]at hz2;subst hz2;dsimp only at hR
   refine AWP.exit ?_;refine yb ?_
   refine rS ?_
   refine AWP.cond rfl (fun hb => ?_) (fun hb => ?_)
   ·replace hR:=ct hR
    iterate 2 refine rS ?_
    refine AWP.cond rfl (fun hb => ?_) (fun hb => ?_)
    ·replace hR:=ct hR
     iterate 3 refine rS ?_
     refine AWP.cond rfl (fun hb => ?_) (fun hb => ?_)
     ·replace hR:=ct hR
      iterate 2 refine rS ?_
      refine AWP.ret ?_
      subst hR
      exact es
     ·replace hR:=cf hR
      refine rS ?_
      refine AWP.ret ?_
      subst hR
      exact es
    ·replace hR:=cf hR
     iterate 2 refine rS ?_
     refine AWP.cond rfl (fun hb => ?_) (fun hb => ?_)
     ·replace hR:=ct hR
      iterate 2 refine rS ?_
      refine AWP.ret ?_
      subst hR
      exact es
     ·replace hR:=cf hR
      refine rS ?_
      refine AWP.ret ?_
      subst hR
      exact es
   ·replace hR:=cf hR
    refine rS ?_
    refine AWP.cond rfl (fun hb => ?_) (fun hb => ?_)
    ·replace hR:=ct hR
     iterate 3 refine rS ?_
     refine AWP.cond rfl (fun hb => ?_) (fun hb => ?_)
     ·replace hR:=ct hR
      iterate 2 refine rS ?_
      refine AWP.ret ?_
      subst hR
      exact es
     ·replace hR:=cf hR
      refine rS ?_
      refine AWP.ret ?_
      subst hR
      exact es
    ·replace hR:=cf hR
     iterate 2 refine rS ?_
     refine AWP.cond rfl (fun hb => ?_) (fun hb => ?_)
     ·replace hR:=ct hR
      iterate 2 refine rS ?_
      refine AWP.ret ?_
      subst hR
      exact es
     ·replace hR:=cf hR
      refine rS ?_
      refine AWP.ret ?_
      subst hR
      exact es
end N203
def D_zfb : DF
 | [x0]=>some (.str (zfb (rdP yc x0)),false,[wP yi yc x0,bdCharacter (rdP yc x0),(rdP yc x0).Group.length≤4,∀ v∈(rdP yc x0).Group,1≤v∧v≤9,1≤(rdP yc x0).Kind,(rdP yc x0).Kind≤8,0≤(rdP yc x0).Period,(rdP yc x0).Period≤600])
 | _=>none
theorem ykz:OkD Tryz.prog 203 D_zfb:=by unfold D_zfb;exact dk N203.den
end Go.Ab

namespace Go.Ab
open Go Go.Proofs
def zrc (a0:Character):(List UInt8):=
 (bif (!(zw a0))then[]else(bif (a0.Period != 0)then(((zgd a0)++[32])++a0.Colors)++(([32]++(zwd a0.Period))++[115])else((zgd a0)++[32])++a0.Colors))
namespace N106
theorem DD:DOk Tryz.prog (Go.Ab.DD [(217,dP D_zgd),(218,dP D_zwd),(91,dP D_zw)]):=ya y8z.e <| ya yvu.e <| ya yls.e <| ye _
theorem dn:type_of% (And.intro @D_zgd.eq_1 <| And.intro @D_zwd.eq_1 <| @D_zw.eq_1):=by and_intros<;>intros<;>rfl
theorem o0 {p:Prop} (h:p:=by(first|(have q9 := ‹(!zw a0)=false›;have q8:zw a0=true:=(by simpa using q9);have h9:=y0c a0 q8;have h8:=ylq a0 h9.1 h9.2.1;have h7:=yfd a0 q8;have h6:=y7q a0.Period (by omega) (by omega);first|(refine⟨hb0,h9.1,h9.2.1,?_,?_⟩<;>first|omega|(simp only[List.length_append,List.length_cons,List.length_nil];omega))|(and_intros<;>first|omega|(simp only[List.length_append,List.length_cons,List.length_nil];omega))));first|done|fail):p:=h
set_option maxHeartbeats 400000 in
set_option maxRecDepth 20000 in
theorem den (a0:Character) (hb0:bdCharacter a0):Den Tryz.prog 106 [.agg (yi a0)] (.str (zrc a0)):=by
 generalize hR:zrc a0=r
 unfold zrc at hR
 refine di Tryz.func106 Tryz.ntmps106 Tryz.results106 ?_
 intro c hL hc hk
 obtain⟨hL0,_⟩:=hL
 have hw0:bwCharacter a0:=yp a0 hL0
 clear hL0
 simp only[pars,Nat.zero_add]
 have hbL:a0.Letter.length<1099511627776:=hb0.2.1
 have hbC:a0.Colors.length<1099511627776:=hb0.2.2
 iterate 2 refine rS ?_
 refine AWP.cond rfl (fun hb => ?_) (fun hb => ?_)
 ·replace hR:=ct hR
  refine rS ?_
  refine AWP.ret ?_
  subst hR
  exact es
 ·replace hR:=cf hR
  refine rD 5 ?_
  refine rS ?_
  refine AWP.cond rfl (fun hb => ?_) (fun hb => ?_)
  ·replace hR:=ct hR
   iterate 2 refine rS ?_
   refine AWP.ret ?_
   subst hR
   exact es
  ·replace hR:=cf hR
   refine rS ?_
   refine AWP.ret ?_
   subst hR
   exact es
end N106
def D_zrc : DF
 | [x0]=>some (.str (zrc (rdG yc x0)),false,[wG yi yc x0,bdCharacter (rdG yc x0)])
 | _=>none
theorem ygt:OkD Tryz.prog 106 D_zrc:=by unfold D_zrc;exact dk N106.den
end Go.Ab

namespace Go.Ab
open Go Go.Proofs
def kt (k:Int):List UInt8:=([[],[70],[79,99],[73,115,111],[70,108],[76,70,108],[81],[86,81],[77,111]]:List (List UInt8)).getD k.toNat []
def grpT (g:List Int):List UInt8:=if g=[]then[]else 40::(Lib.join (g.map Lib.itoa) [43]++[41])
def yvd (c:Character):List UInt8:=
 if c.Kind=8 then kt 8++(40::(c.Letter++[41]))else kt c.Kind++(grpT c.Group++(if c.Letter=[]then[]else[43,76,70,108]))
def secT (n:Int):List UInt8:=if n.tmod 10=0 then Lib.itoa (n / 10)else Lib.itoa (n / 10)++(46::Lib.itoa (n % 10))
def perT (n:Int):List UInt8:=if n=0 then[]else 32::(secT n++[115])
def chrT (c:Character):List UInt8:=yvd c++(32::(c.Colors++perT c.Period))
theorem y15 (k:Int) (h:1≤k∧k≤8):zac k=kt k:=by
 rcases(show k=1∨k=2∨k=3∨k=4∨k=5∨k=6∨k=7∨k=8 by omega)with h|h|h|h|h|h|h|h<;>subst h<;>rfl
theorem yrz (k:Int):zm.getD k.toNat default=kt k:=rfl
theorem yts (n:Int) (h1:0≤n) (h2:n≤600):zwd n=secT n:=by
 unfold zwd secT
 have hd:n.tdiv 10=n / 10:=Int.tdiv_eq_ediv_of_nonneg h1
 have hm:n.tmod 10=n % 10:=Int.tmod_eq_emod_of_nonneg h1
 have hw:IntKind.wrap .i64 (n.tdiv 10)=n / 10:=by rw[IntKind.wrap_i64];omega
 rw[hw,hm]
 by_cases h:n % 10=0
 ·rw[h];rfl
 ·have:(n % 10 == 0)=false:=by rw[beq_eq_false_iff_ne];exact h
  rw[this,if_neg h]
  simp[y30]
theorem yrm (n:Int) (h1:0≤n) (h2:n≤600):zwb n=secT n++[115]:=by
 unfold zwb secT
 have hd:n.tdiv 10=n / 10:=Int.tdiv_eq_ediv_of_nonneg h1
 have hm:n.tmod 10=n % 10:=Int.tmod_eq_emod_of_nonneg h1
 have hw:IntKind.wrap .i64 (n.tdiv 10)=n / 10:=by rw[IntKind.wrap_i64];omega
 rw[hw,hm,y1f _ (by omega) (by omega),y1f _ (by omega) (by omega)]
 by_cases h:n % 10=0
 ·rw[h];rfl
 ·have:(n % 10 == 0)=false:=by rw[beq_eq_false_iff_ne];exact h
  rw[this,if_neg h]
  simp
theorem y9x (c:Character) (hk:1≤c.Kind∧c.Kind≤8):zgd c=yvd c:=by
 unfold zgd yvd
 rw[y15 _ hk]
 by_cases h8:c.Kind=8
 ·rw[h8];simp
 ·have e8:(c.Kind == 8)=false:=by rw[beq_eq_false_iff_ne];exact h8
  rw[e8,if_neg h8]
  simp only[cond_false]
  have hl:=yxc (y3l c) (fun j=>[Lib.itoa (c.Group.getD j default)]) c.Group.length 0 [] (fun j s _ _=>rfl)
  rw[yhf c.Group default Lib.itoa,List.nil_append]at hl
  simp only[Nat.sub_zero]
  rw[hl]
  unfold grpT
  by_cases hg:c.Group=[]
  ·rw[hg]
   by_cases hL:c.Letter=[]
   ·rw[hL];simp
   ·have:(c.Letter != [])=true:=by simpa using hL
    rw[this,if_neg hL];simp
  ·have hpos:0<c.Group.length:=List.length_pos_iff.2 hg
   rw[if_neg hg,decide_eq_true (show 0<(c.Group.length:Int)by omega)]
   have ej:zub (c.Group.map Lib.itoa) [43]=Lib.join (c.Group.map Lib.itoa) [43]:=rfl
   by_cases hL:c.Letter=[]
   ·rw[hL];simp[ej]
   ·have:(c.Letter != [])=true:=by simpa using hL
    rw[this,if_neg hL];simp[ej]
theorem y2j (c:Character) (h:zw c=true):zrc c=chrT c:=by
 have hk:=yld c (y6b c h)
 have hp:=yfd c h
 have hp2:=(y0c c h).2.2
 unfold zrc chrT perT
 rw[h,y9x c hk,yts _ hp hp2]
 by_cases h0:c.Period=0
 ·rw[h0];simp
 ·have:(c.Period != 0)=true:=by rw[bne_iff_ne];exact h0
  rw[this,if_neg h0];simp
theorem y0y (x:Int) (r:List Int):(List.range' 1 r.length).flatMap (fun j=>(43:UInt8)::Lib.itoa ((x::r).getD j default))=Lib.joinTail [43] (r.map Lib.itoa):=by
 unfold Lib.joinTail
 rw[List.map_map, ← List.flatMap_def]
 have h:(List.range' 1 r.length).flatMap (fun j=>(43:UInt8)::Lib.itoa ((x::r).getD j default))=(List.range' 0 r.length).flatMap (fun j=>(43:UInt8)::Lib.itoa (r.getD j default)):=by
  rw[List.flatMap_def,List.flatMap_def]
  congr 1
  apply List.ext_getElem
  ·simp
  ·intro i h1 h2
   simp[List.getElem_range',Nat.add_comm 1 i]
 rw[h]
 rw[List.flatMap_def,List.flatMap_def]
 congr 1
 apply List.ext_getElem
 ·simp
 ·intro i h1 h2
  simp only[List.length_map]at h2
  simp[List.getD_eq_getElem?_getD,h2]
def grp0 (g:List Int):List UInt8:=if g=[]then[]else 40::Lib.join (g.map Lib.itoa) [43]
theorem yot (c : Character) (h2 : ∀ v ∈ c.Group, 1 ≤ v ∧ v ≤ 9) (b : Nat → List UInt8 → Except (List UInt8) (List UInt8))
  (hb:∀ j s,b j s=bif ((j:Int) == 0)then .ok (s++([40]++(zi (c.Group.getD j default))))else .ok (s++([43]++(zi (c.Group.getD j default))))) (s:List UInt8) :
  yd b (c.Group.length-0) 0 s=.ok (s++grp0 c.Group):=by
 have hl:=yxc b (fun j=>(if j=0 then(40:UInt8)else 43)::Lib.itoa (c.Group.getD j default)) c.Group.length 0 s (fun j s _ _=>by
  have hr:=yuf h2 j
  rw[hb,y1f _ (by omega) (by omega)]
  by_cases h:j=0
  ·subst h;rfl
  ·have:((j:Int) == 0)=false:=by rw[beq_eq_false_iff_ne];omega
   rw[this,if_neg h];rfl)
 rw[Nat.sub_zero,hl]
 congr 2
 generalize c.Group=g
 cases g with
 | nil=>rfl
 | cons x r=>
  unfold grp0
  rw[if_neg (by simp),List.length_cons,List.range'_succ,List.flatMap_cons,List.map_cons,Lib.join_cons]
  have:(List.range' (0+1) r.length).flatMap (fun j=>(if j=0 then(40:UInt8)else 43)::Lib.itoa ((x::r).getD j default))=(List.range' 1 r.length).flatMap (fun j=>(43:UInt8)::Lib.itoa ((x::r).getD j default)):=by
   rw[List.flatMap_def,List.flatMap_def]
   congr 1
   apply List.map_congr_left
   intro j hj
   rw[List.mem_range'_1]at hj
   rw[if_neg (by omega)]
  rw[this,y0y]
  simp
theorem yck (c:Character) (h:zw c=true):zfb c=chrT c:=by
 have hf:=y6b c h
 have hk:=yld c hf
 have hp:=yfd c h
 obtain⟨g1,g2,hp2⟩:=y0c c h
 have hsec:∀ s:List UInt8,(bif decide (0<c.Period)then s++([32]++(zwb c.Period))else s)=s++perT c.Period:=by
  intro s
  unfold perT
  by_cases h0:c.Period=0
  ·rw[h0];simp
  ·rw[decide_eq_true (show 0<c.Period by omega),if_neg h0,yrm _ hp hp2];simp
 unfold zfb chrT yvd
 rw[yrz,yot c g2 (ycp c) (fun j s=>rfl),yot c g2 (y6n c) (fun j s=>rfl)]
 by_cases h8:c.Kind=8
 ·have hg:c.Group=[]:=by
   unfold zbb at hf
   rw[h8]at hf
   have hf:(((znb c.Letter) != []) && ((c.Group.length:Int) == 0))=true:=hf
   rw[Bool.and_eq_true,beq_iff_eq]at hf
   exact List.length_eq_zero_iff.1 (by omega)
  rw[h8,hg]
  have e1:((8:Int) == 8)=true:=rfl
  have e2:((8:Int) != 8)=false:=rfl
  have e3:decide (0<((([]:List Int).length:Int)))=false:=rfl
  simp only[e1,e2,e3,cond_true,cond_false,Bool.and_false,if_true,grp0,hsec]
  simp
 ·have e8:(c.Kind == 8)=false:=by rw[beq_eq_false_iff_ne];exact h8
  have e9:(c.Kind != 8)=true:=by rw[bne_iff_ne];exact h8
  have hL:(c.Letter == [76])=(c.Letter != []):=(yhp c hf h8).symm
  rw[e8,e9,if_neg h8,hL]
  simp only[cond_false,Bool.and_true,hsec]
  by_cases hg:c.Group=[]
  ·rw[hg]
   have e3:decide (0<((([]:List Int).length:Int)))=false:=rfl
   simp only[e3,cond_false,grp0,grpT,if_true]
   by_cases hl:c.Letter=[]
   ·rw[hl];simp
   ·have:(c.Letter != [])=true:=by simpa using hl
    rw[this,if_neg hl];simp
  ·have hpos:0<c.Group.length:=List.length_pos_iff.2 hg
   rw[decide_eq_true (show 0<(c.Group.length:Int)by omega)]
   simp only[cond_true,grp0,grpT,if_neg hg]
   by_cases hl:c.Letter=[]
   ·rw[hl];simp
   ·have:(c.Letter != [])=true:=by simpa using hl
    rw[this,if_neg hl];simp
end Go.Ab

namespace Go.Ab
open Go Go.Proofs
def u8D (k:Nat):UInt8:=UInt8.ofNat (48+k)
theorem y2h {k:Nat} (h:k<10):(u8D k).toNat=48+k:=yjl k h
def pad2 (m:Nat):List UInt8:=[u8D (m / 10),u8D (m % 10)]
def pad4 (y:Nat):List UInt8:=[u8D (y / 1000),u8D (y / 100 % 10),u8D (y / 10 % 10),u8D (y % 10)]
theorem y5i {m:Nat} (h:m<100):yed (pad2 m)∧digV 0 (pad2 m)=m:=by
 have h1:=y2h (k:=m / 10) (by omega)
 have h2:=y2h (k:=m % 10) (by omega)
 refine⟨fun b hb => ?_,?_⟩
 ·simp only[pad2,List.mem_cons,List.not_mem_nil,or_false]at hb
  rcases hb with rfl|rfl<;>omega
 ·unfold pad2
  rw[ykb,ykb,ynd,h1,h2];omega
theorem ynu {y:Nat} (h:y<10000):yed (pad4 y)∧digV 0 (pad4 y)=y:=by
 have h1:=y2h (k:=y / 1000) (by omega)
 have h2:=y2h (k:=y / 100 % 10) (by omega)
 have h3:=y2h (k:=y / 10 % 10) (by omega)
 have h4:=y2h (k:=y % 10) (by omega)
 refine⟨fun b hb => ?_,?_⟩
 ·simp only[pad4,List.mem_cons,List.not_mem_nil,or_false]at hb
  rcases hb with rfl|rfl|rfl|rfl<;>omega
 ·unfold pad4
  rw[ykb,ykb,ykb,ykb,ynd,h1,h2,h3,h4];omega
theorem yn3 {y:Nat} (h1:1000≤y) (h2:y<10000):Lib.decDigits y=pad4 y:=by
 rw[ydb y (by omega),ydb (y / 10) (by omega),ydb (y / 10 / 10) (by omega),Lib.decDigits_one (by omega)]
 unfold pad4 u8D
 rw[show y / 10 / 10 / 10=y / 1000 by omega,show y / 10 / 10 % 10=y / 100 % 10 by omega]
 rfl
theorem yzj {m:Nat} (h:m<100):zmg (m:Int) 2=pad2 m:=by
 unfold zmg
 rw[y30,yie]
 by_cases h10:m<10
 ·rw[Lib.decDigits_one h10]
  unfold pad2 u8D
  rw[show m / 10=0 by omega,show m % 10=m by omega]
  rfl
 ·rw[ydb m h10,Lib.decDigits_one (by omega)]
  rfl
def D10 (y m d:Nat):List UInt8:=pad4 y++45::(pad2 m++45::pad2 d)
theorem ymi {a:Int} (h1:0≤a) (h2:a≤99999):∃ y m d:Nat,zxe a=((y:Int),(m:Int),(d:Int))∧2000≤y∧y≤2273∧1≤m∧m≤12∧1≤d∧d≤31∧ynp a y m d∧zkg a=D10 y m d:=by
 obtain⟨y,m,d,e,hy,hd⟩:=y76 a h1 h2
 have hm:=yv7 (l:=y4b y) hd.2.1 hd.2.2.1
 obtain⟨q1,q2,q3,q4,q5,q6⟩:=hd
 refine⟨y.toNat,m.toNat,d.toNat,?_,by omega,by omega,by omega,by omega,by omega,by omega,?_,?_⟩
 ·rw[e,show(y.toNat:Int)=y by omega,show(m.toNat:Int)=m by omega,show(d.toNat:Int)=d by omega]
 ·rw[show(y.toNat:Int)=y by omega,show(m.toNat:Int)=m by omega,show(d.toNat:Int)=d by omega]
  exact⟨q1,q2,q3,q4,q5,q6⟩
 ·unfold zkg zpg zf
  simp only[h1,h2,decide_true,Bool.and_self,Bool.not_true,cond_false,e]
  conv=>lhs;rw[show y=(y.toNat:Int)by omega,show m=(m.toNat:Int)by omega,show d=(d.toNat:Int)by omega]
  rw[y30,yie,yn3 (by omega) (by omega),yzj (by omega),yzj (by omega)]
  unfold D10
  simp
theorem yz2 (x:Int):(decide (x<48) || decide (57<x)) = !(decide (48≤x) && decide (x≤57)):=by
 apply Bool.eq_iff_iff.2
 simp only[Bool.or_eq_true,decide_eq_true_eq,Bool.not_eq_true',Bool.and_eq_false_iff,decide_eq_false_iff_not]
 omega
end Go.Ab
