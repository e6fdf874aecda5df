/- A part of a proof: walks of functions and lemmas of our own. No conditions. -/
import Derived.Test.YtopoomikfjodkaaGreatDoorUAl
import Derived.Test.YtopoomikfjodkaaGreatDoorUAq
import Derived.Test.YtopoomikfjodkaaGreatDoorUAv
import Derived.Test.YtopoomikfjodkaaGreatDoorUAw
import Derived.Test.YtopoomikfjodkaaGreatDoorUAt
import Derived.Test.YtopoomikfjodkaaGreatDoorUAr
import Derived.Test.YtopoomikfjodkaaGreatDoorUAs
import Derived.Test.YtopoomikfjodkaaGreatDoorUAo
import Derived.Test.YtopoomikfjodkaaGreatDoorUAn
set_option linter.unusedSectionVars false
set_option linter.unusedVariables false
set_option linter.unusedSimpArgs false
set_option maxHeartbeats 1000000
namespace Go.Ab
open Go Go.Proofs
def zld (a0:Int):(List UInt8):=
 (bif ((a0.tmod 10) == 0)then(zn (IntKind.wrap .i64 (a0.tdiv 10)))else((zn (IntKind.wrap .i64 (a0.tdiv 10)))++[46])++(zn (a0.tmod 10)))
namespace N218
theorem DD:DOk Tryz.prog (Go.Ab.DD [(107,dP D_zn)]):=ya yjj.e <| ye _
theorem dn:type_of% (@D_zn.eq_1):=by and_intros<;>intros<;>rfl
theorem gr {p:Prop} (h:p:=by(grind [yqe]);first|done|fail):p:=h
set_option maxHeartbeats 400000 in
set_option maxRecDepth 20000 in
theorem den (a0:Int) (hp0 : -9223372036854775808≤a0) (hp1:a0≤9223372036854775807):Den Tryz.prog 218 [.int .i64 a0] (.str (zld a0)):=by
 generalize hR:zld a0=r
 unfold zld at hR
 refine di Tryz.func218 Tryz.ntmps218 Tryz.results218 ?_
 intro c hL hc hk
 clear hL
 simp only[pars,Nat.zero_add]
 have h1:=ytk (a0.tdiv 10)
 have ht:=yqi a0
 have h2:=yoe (a0.tmod 10) (by omega) (by omega)
 iterate 2 refine rS ?_
 refine AWP.cond rfl (fun hb => ?_) (fun hb => ?_)
 ·replace hR:=ct hR
  refine rS ?_
  refine AWP.ret ?_
  subst hR
  exact es
 ·replace hR:=cf hR
  refine rS ?_
  refine AWP.ret ?_
  subst hR
  exact es
end N218
def D_zld : DF
 | [x0]=>some (.str (zld (rdI x0)),false,[wI .i64 x0,-9223372036854775808≤(rdI x0),(rdI x0)≤9223372036854775807])
 | _=>none
theorem yys:OkD Tryz.prog 218 D_zld:=by unfold D_zld;exact dk N218.den
end Go.Ab

namespace Go.Ab
open Go Go.Proofs
theorem yxb (a:Character) (h:zw a=true):zbb a=true:=by
 unfold zw at h
 cases hf:zbb a with
 | true=>rfl
 | false=>rw[hf]at h;simp at h
theorem yoz (a:Character) (h:zw a=true):a.Period≤600:=by
 unfold zw at h
 cases h1:((!(znb a.Colors)) || (!(zbb a)))with
 | true=>rw[h1]at h;cases h
 | false=>
  rw[h1]at h
  cases h2:zmc a with
  | true=>rw[h2]at h;simp at h;omega
  | false=>rw[h2]at h;simp[zh]at h;omega
theorem ync (a:Character) (h:zw a=true):a.Group.length≤4∧(∀ v∈a.Group,1≤v∧v≤9)∧a.Period≤600:=by
 have h1:=y9c a (yxb a h)
 exact⟨h1.1,h1.2,yoz a h⟩
theorem y1m (a:Character) (h1:a.Group.length≤4) (h2:∀ v∈a.Group,1≤v∧v≤9):(zuc a).length≤200+a.Letter.length:=by
 unfold zuc
 have hk:=yit a.Kind
 obtain⟨t,q1,q2,q3⟩:=y5 (b:=y6k a) (fun i s=>s.length=i∧∀ v∈s,v.length≤20) (k:=a.Group.length-0) (i:=0) (s:=[]) ⟨rfl,by simp⟩ (fun j u _ _ h=>⟨_,rfl,by simp[h.1],fun v hv=>by
  rcases List.mem_append.1 hv with h9|h9
  ·exact h.2 v h9
  ·rw[List.mem_singleton]at h9;subst h9
   have:=y9e h2 j
   exact yoe _ (by omega) (by omega)⟩)
 rw[q1]
 have hj:=(yzj t q3).1
 simp only[Bool.cond_eq_ite]
 repeat' split
 all_goals ((try simp only[List.length_append,List.length_cons,List.length_nil]);omega)
theorem yxn (a:Character) (h:zw a=true):(zmc a=true∧a.Period=0)∨(zmc a=false∧0<a.Period∧a.Period≤600):=by
 have hf:=yxb a h
 unfold zw at h
 cases h1:((!(znb a.Colors)) || (!(zbb a)))with
 | true=>rw[h1]at h;cases h
 | false=>
  rw[h1]at h
  cases h2:zmc a with
  | true=>rw[h2]at h;left;simpa using h
  | false=>
   rw[h2,y7r a hf h2]at h
   have:=y8v a hf h2
   right
   simp[zh]at h
   exact⟨rfl,by omega,by omega⟩
theorem y4c (a:Character) (h:zw a=true):0≤a.Period:=by
 rcases yxn a h with⟨_,h⟩|⟨_,h,_⟩<;>omega
theorem ybd (a:Character) (h:zbb a=true):1≤a.Kind∧a.Kind≤8:=by
 unfold zbb at h
 simp only[Bool.cond_eq_ite]at h
 repeat' split at h
 all_goals (try simp only[beq_iff_eq]at *)
 all_goals first|omega|(cases h;done)
theorem yvw (a:Character) (hl:a.Colors.length<9223372036854775808) (h:zlb a=true):a.Group.length≤4∧(∀ v∈a.Group,1≤v∧v≤9)∧1≤a.Kind∧a.Kind≤8∧0≤a.Period∧a.Period≤600:=by
 rw[← y6e a hl]at h
 have h1:=ync a h
 have h2:=ybd a (yxb a h)
 exact⟨h1.1,h1.2.1,h2.1,h2.2,y4c a h,h1.2.2⟩
theorem ynq (n:Int) (h1 : -9223372036854775808≤n) (h2:n≤9223372036854775807):(zld n).length≤41:=by
 unfold zld
 have h3:=ytk (n.tdiv 10)
 have ht:=yqi n
 have h4:=yoe (n.tmod 10) (by omega) (by omega)
 simp only[Bool.cond_eq_ite]
 split
 ·omega
 ·simp only[List.length_append,List.length_cons,List.length_nil];omega
end Go.Ab

namespace Go.Ab
open Go Go.Proofs
theorem ypv {p:Point} (h:zwb p=true):0≤p.X∧p.X≤200000∧0≤p.Y∧p.Y≤200000:=by
 simp[zwb,zl]at h;omega
theorem yee {a:List Sector} (h:zq a=true):a.length≤12∧∀ i,i<a.length→zjc (a.getD i default)=true:=by
 unfold zq at h
 cases h12:decide (12<(a.length:Int))with
 | true=>rw[h12]at h;cases h
 | false=>
  rw[h12]at h
  have h12:=of_decide_eq_false h12
  refine⟨by omega,fun i hi => ?_⟩
  rcases y8e (b:=yru a) (secQ a) (fun _ u=>u) false (k:=a.length-0) (i:=0) (s:=()) (fun j u _ _=>by cases u;rfl)with⟨_,e1⟩|⟨hq,_⟩
  ·rw[e1]at h;cases h
  ·exact((yzs a i (by omega)).1 (hq i (Nat.zero_le _) (by omega))).1
theorem yer {c:List UInt8} (h:zke c=true):c=[87]∨c=[82]∨c=[71]∨c=[89]:=by
 unfold zke at h
 simp only[Bool.or_eq_true,beq_iff_eq]at h
 rcases h with((h|h)|h)|h
 ·exact .inl h
 ·exact .inr (.inl h)
 ·exact .inr (.inr (.inl h))
 ·exact .inr (.inr (.inr h))
theorem yyf {a:List Sector} (h:zq a=true):a.length≤12∧∀ i,0≤(a.getD i default).From∧(a.getD i default).From≤359∧0≤(a.getD i default).To∧(a.getD i default).To≤359∧(a.getD i default).Color.length≤1:=by
 obtain⟨h1,h2⟩:=yee h
 refine⟨h1,fun i => ?_⟩
 by_cases hi:i<a.length
 ·have h3:=h2 i hi
  have hb:=y0q h3
  unfold zjc at h3
  rw[Bool.and_eq_true]at h3
  refine⟨hb.1.1,hb.1.2,hb.2.1,hb.2.2,?_⟩
  rcases yer h3.2 with h|h|h|h<;>rw[h]<;>decide
 ·rw[List.getD_eq_getElem?_getD,List.getElem?_eq_none (by omega)]
  decide
theorem ywk {m:Mark} (h:zoc m=true):(m.Kind=0∧m.Colors=[]∧m.Shape=[]∧m.Topmark=[]) ∨
  (zsb m.Kind=true∧m.Colors=zud m.Kind∧(m.Topmark=[]∨m.Topmark=zae m.Kind)∧m.Shape∈zib m.Kind):=by
 rw[show zoc m=zz m from rfl]at h
 unfold zz at h
 by_cases hk:m.Kind=0
 ·left
  rw[show(m.Kind == 0)=true by simp[hk]]at h
  simp only[cond_true,Bool.and_eq_true,beq_iff_eq]at h
  exact⟨hk,h.2.1,h.2.2.1,h.2.2.2⟩
 ·right
  rw[show(m.Kind == 0)=false by simp[hk],cond_false]at h
  cases hc:(((!(zsb m.Kind)) || (m.Colors != (zud m.Kind))) || ((m.Topmark != []) && (m.Topmark != (zae m.Kind))))with
  | true=>rw[hc]at h;cases h
  | false=>
   rw[hc,cond_false]at h
   have h:=(yrk m).symm.trans h
   rw[List.any_eq_true]at h
   simp only[Bool.or_eq_false_iff,Bool.not_eq_false',Bool.and_eq_false_iff,bne_eq_false_iff_eq]at hc
   obtain⟨y,hy,he⟩:=h
   exact⟨hc.1.1,hc.1.2,hc.2,by rw[← eq_of_beq he];exact hy⟩
theorem y1f {m:Mark} (h:zoc m=true):0≤m.Kind∧m.Kind≤9∧m.Colors.length≤3∧m.Shape.length≤6∧m.Topmark.length≤5:=by
 rcases ywk h with⟨h1,h2,h3,h4⟩|⟨h1,h2,h3,h4⟩
 ·rw[h1,h2,h3,h4];simp
 ·have hk:=h1
  unfold zsb zl at hk
  simp only[Bool.and_eq_true,decide_eq_true_eq]at hk
  refine⟨by omega,by omega,?_,?_,?_⟩
  ·rw[h2];rcases yvf h1 with e|e|e|e|e|e|e|e|e<;>rw[e]<;>decide
  ·have hs:∀ y∈zib m.Kind,y.length≤6:=by rcases yvf h1 with e|e|e|e|e|e|e|e|e<;>rw[e]<;>decide
   exact hs _ h4
  ·rcases h3 with e|e
   ·rw[e];decide
   ·rw[e];rcases yvf h1 with e|e|e|e|e|e|e|e|e<;>rw[e]<;>decide
theorem ygr:zq []=true:=by decide
theorem yve {a:Aid} (h:zxb a=true):1≤a.Number∧a.Number≤9999∧zdc a.Name=true∧zwb a.At=true∧0≤a.Height∧a.Height≤3000∧zoc a.Mark=true ∧
  (zmf a=true→zlb a.Light=true)∧zq a.Sectors=true∧0≤a.Intensity∧a.Intensity≤100000000:=by
 unfold zxb at h
 cases hc:(((((!(zl a.Number 1 9999)) || (!(zdc a.Name))) || (!(zwb a.At))) || (!(zl a.Height 0 3000))) || (!(zoc a.Mark)))with
 | true=>rw[hc]at h;cases h
 | false=>
  rw[hc,cond_false]at h
  simp only[Bool.or_eq_false_iff,Bool.not_eq_false']at hc
  obtain⟨⟨⟨⟨c1,c2⟩,c3⟩,c4⟩,c5⟩:=hc
  simp only[zl,Bool.and_eq_true,decide_eq_true_eq]at c1 c4
  have fin:(zmf a=true→zlb a.Light=true)∧zq a.Sectors=true∧0≤a.Intensity∧a.Intensity≤100000000:=by
   cases hp:zyc a.Light with
   | true=>
    rw[hp,cond_true,Bool.and_eq_true,beq_iff_eq,beq_iff_eq]at h
    have hs:a.Sectors=[]:=List.length_eq_zero_iff.1 (by omega)
    refine⟨fun hl => ?_,by rw[hs];exact ygr,by omega,by omega⟩
    unfold zyc at hp
    simp only[Bool.and_eq_true,beq_iff_eq]at hp
    unfold zmf at hl
    rw[bne_iff_ne]at hl
    exact absurd hp.1.1.1.1 hl
   | false=>
    rw[hp,cond_false]at h
    cases hd:(((!(zlb a.Light)) || (!(zl a.Intensity 1 100000000))) || (!(zq a.Sectors)))with
    | true=>rw[hd]at h;cases h
    | false=>
     simp only[Bool.or_eq_false_iff,Bool.not_eq_false',zl,Bool.and_eq_true,decide_eq_true_eq]at hd
     exact⟨fun _=>hd.1.1,hd.2,by omega,by omega⟩
  exact⟨c1.1,c1.2,c2,c3,c4.1,c4.2,c5,fin⟩
theorem yc0 {s:List UInt8} (h:zdc s=true):s.length≤10:=((y9j s).1 h).2.1
theorem y11 {a:Aid} (h:zxb a=true) (hl:a.Light.Colors.length<9223372036854775808):zqd a=zmf a:=by
 have hr:=yve h
 have hsl:=(yyf hr.2.2.2.2.2.2.2.2.1).1
 unfold zxb at h
 cases hc:(((((!(zl a.Number 1 9999)) || (!(zdc a.Name))) || (!(zwb a.At))) || (!(zl a.Height 0 3000))) || (!(zoc a.Mark)))with
 | true=>rw[hc]at h;cases h
 | false=>
  rw[hc,cond_false]at h
  cases hp:zyc a.Light with
  | true=>
   have h1:=ymo _ hp
   unfold zqd zmf
   rw[h1]
   unfold zyc at hp
   simp only[Bool.and_eq_true,beq_iff_eq]at hp
   rw[hp.1.1.1.1]
   rfl
  | false=>
   rw[hp,cond_false]at h
   cases hd:(((!(zlb a.Light)) || (!(zl a.Intensity 1 100000000))) || (!(zq a.Sectors)))with
   | true=>rw[hd]at h;cases h
   | false=>
    rw[hd,cond_false]at h
    simp only[Bool.or_eq_false_iff,Bool.not_eq_false']at hd
    have hk:=(yvw a.Light hl hd.1.1).2.2.1
    unfold zqd zmf
    have e4:zbf a.Intensity=zl a.Intensity 1 100000000:=rfl
    rw[y6e _ hl,hd.1.1,e4,hd.1.2,yhb _ (by omega),hd.2,y2h]
    simp only[Bool.not_true,Bool.or_self,cond_false]
    rw[h]
    symm
    rw[bne_iff_ne];omega
theorem yk3 {p:Point} (h:(!zrc p)=false):0≤p.X∧p.X≤200000∧0≤p.Y∧p.Y≤200000:=by
 have h2:zrc p=true:=by simpa using h
 exact ypv (p:=p) h2
theorem y7v {m:Mark} (h:(!zhc m)=false):0≤m.Kind∧m.Kind≤9∧m.Colors.length≤3∧m.Shape.length≤6∧m.Topmark.length≤5:=y1f (by rw[← yfd];simpa using h)
theorem yty {a:List Sector} (hl:a.length<1099511627776) (h:(!zx a)=false):a.length≤12∧∀ i,0≤(a.getD i default).From∧(a.getD i default).From≤359∧0≤(a.getD i default).To∧(a.getD i default).To≤359∧(a.getD i default).Color.length≤1:=yyf (by rw[← yhb a (by omega)];simpa using h)
theorem y3r {a:Aid} (hb:bdAid a) (h:(!zxe a)=false):zxb a=true:=by
 rw[← yof a (Nat.lt_of_lt_of_le hb.2.2.1.2.2 (by decide)) (Nat.lt_of_lt_of_le hb.2.2.2.1 (by decide))];simpa using h
theorem yqw (k:Int):(znc k).length≤100:=y5x _ _ (by decide)
theorem ypy (n:Nat):(zdb.getD n default).length≤100:=ysj _ (by decide) n
end Go.Ab

namespace Go.Ab
open Go Go.Proofs
def ysd (m:Nat):List Int:=if h:m=0 then[]else(48+(m % 10:Nat):Int)::ysd (m / 10)
termination_by m
decreasing_by omega
theorem ypf:ysd 0=[]:=by rw[ysd];simp
theorem yjh {m:Nat} (h:m≠0):ysd m=(48+(m % 10:Nat):Int)::ysd (m / 10):=by rw[ysd];simp[h]
theorem yxl:∀ (m:Nat),m≠0→(ysd m).reverse.map (fun z=>UInt8.ofNat z.toNat)=Go.Lib.decDigits m:=by
 intro m
 induction m using Nat.strongRecOn with
 | ind m ih=>
  intro h
  rw[yjh h,Go.Lib.decDigits]
  have e3:UInt8.ofNat (48+((m % 10:Nat):Int)).toNat=UInt8.ofNat (48+m % 10):=by congr 1
  split
  ·rename_i h10
   have e:m / 10=0:=by omega
   have e2:m % 10=m:=Nat.mod_eq_of_lt h10
   rw[e2]at e3 ⊢
   simp only[e,ypf,List.reverse_cons,List.reverse_nil,List.nil_append,List.map_cons,List.map_nil]
   rw[e3]
  ·rw[← ih (m / 10) (by omega) (by omega)]
   simp only[List.reverse_cons,List.map_append,List.map_cons,List.map_nil,e3]
theorem yk0 (x:Int):(x.tdiv 10).natAbs=x.natAbs / 10:=by
 rcases yij x with⟨h,e⟩|⟨h,e⟩<;>rw[e]<;>omega
theorem y93 (x:Int):x.tmod 10=x-10 * x.tdiv 10:=Int.tmod_def x 10
theorem y03 (a0:Int) (m:Int) (ds:List Int) (h1 : -1000000000000≤m) (h2:m≤1000000000000) (h:m≠0) :
  yap a0 (m,ds)=.ok (m.tdiv 10,ds++[48+((m.natAbs % 10:Nat):Int)]):=by
 have e1:=y93 m
 have e2:=yij m
 have hn:(m != 0)=true:=by simpa using h
 unfold yap
 simp only[hn,cond_true]
 have w1:IntKind.wrap .i64 (m.tdiv 10)=m.tdiv 10:=by rw[IntKind.wrap_i64];omega
 rw[w1]
 by_cases hm:m.tmod 10<0
 ·simp only[hm,decide_true,cond_true]
  have w2:IntKind.wrap .u8 (IntKind.wrap .i64 (48+(IntKind.wrap .i64 (0-(m.tmod 10)))))=48+((m.natAbs % 10:Nat):Int):=by
   simp only[IntKind.wrap_i64,IntKind.wrap_u8]
   omega
  rw[w2]
 ·simp only[hm,decide_false,cond_false]
  have w2:IntKind.wrap .u8 (IntKind.wrap .i64 (48+(m.tmod 10)))=48+((m.natAbs % 10:Nat):Int):=by
   simp only[IntKind.wrap_i64,IntKind.wrap_u8]
   omega
  rw[w2]
theorem yuo (a0:Int):∀ (k:Nat) (m:Int) (ds:List Int),-1000000000000≤m→m≤1000000000000→m.natAbs<k →
  y6 (yap a0) k (m,ds)=.error (.inr (0,ds++ysd m.natAbs))
 | 0,m,ds,_,_,h=>by omega
 | k+1,m,ds,h1,h2,h=>by
  by_cases hm:m=0
  ·subst hm
   simp[y6,yap,ypf]
  ·have e2:=yij m
   simp only[y6,y03 a0 m ds h1 h2 hm]
   rw[yuo a0 k (m.tdiv 10) _ (by omega) (by omega) (by omega),yk0,List.append_assoc,List.singleton_append, ← yjh (by omega)]
theorem yju:∀ (m:Nat),(ysd m).length≤m:=by
 intro m
 induction m using Nat.strongRecOn with
 | ind m ih=>
  by_cases h:m=0
  ·subst h;simp[ypf]
  ·rw[yjh h]
   have:=ih (m / 10) (by omega)
   simp only[List.length_cons]
   omega
theorem y8s {α:Type} (L:List α) (d:α) (k:Nat) (h:k<L.length):L.getD k d::(L.take k).reverse=(L.take (k+1)).reverse:=by
 rw[List.take_add_one,List.reverse_append]
 simp[List.getD,List.getElem?_eq_getElem h]
theorem ypo (a0:Int) (s1:Int×List Int):∀ (f k:Nat) (out:List Int),k<f→k≤s1.2.length+1→k≤1000000000001 →
  y6 (y3q a0 s1) f ((k:Int)-1,out)=.error (.inr (-1,out++((s1.2++[45]).take k).reverse))
 | 0,k,out,h,_,_=>by omega
 | f+1,0,out,_,_,_=>by simp[y6,y3q]
 | f+1,k+1,out,h,hk,hb=>by
  have e1:IntKind.wrap .i64 (((k+1:Nat):Int)-1-1)=(k:Int)-1:=by rw[IntKind.wrap_i64];omega
  have e2:(((k+1:Nat):Int)-1).toNat=k:=by omega
  have e3:decide (0≤((k+1:Nat):Int)-1)=true:=by simp
  simp only[y6,y3q,e3,cond_true,e1,e2]
  rw[ypo a0 s1 f k _ (by omega) (by omega) (by omega),List.append_assoc,List.singleton_append,y8s _ _ _ (by simp;omega)]
theorem yio (a0:Int) (s1:Int×List Int):∀ (f k:Nat) (out:List Int),k<f→k≤s1.2.length→k≤1000000000001 →
  y6 (y8p a0 s1) f ((k:Int)-1,out)=.error (.inr (-1,out++(s1.2.take k).reverse))
 | 0,k,out,h,_,_=>by omega
 | f+1,0,out,_,_,_=>by simp[y6,y8p]
 | f+1,k+1,out,h,hk,hb=>by
  have e1:IntKind.wrap .i64 (((k+1:Nat):Int)-1-1)=(k:Int)-1:=by rw[IntKind.wrap_i64];omega
  have e2:(((k+1:Nat):Int)-1).toNat=k:=by omega
  have e3:decide (0≤((k+1:Nat):Int)-1)=true:=by simp
  simp only[y6,y8p,e3,cond_true,e1,e2]
  rw[yio a0 s1 f k _ (by omega) (by omega) (by omega),List.append_assoc,List.singleton_append,y8s _ _ _ (by omega)]
theorem ygf (n:Int) (h1 : -1000000000000≤n) (h2:n≤1000000000000):zi n=Go.Lib.itoa n:=by
 unfold zi Go.Lib.itoa
 by_cases h0:n=0
 ·subst h0
  simp[Go.Lib.decDigits]
 have hn:(n == 0)=false:=by simpa using h0
 rw[hn,cond_false,yuo n _ n [] h1 h2 (by omega)]
 have hl:=yju n.natAbs
 have hr:=yxl n.natAbs (by omega)
 simp only[List.nil_append]
 by_cases hneg:n<0
 ·have e1:IntKind.wrap .i64 (((ysd n.natAbs).length+1:Int)-1)=((((ysd n.natAbs).length+1:Nat)):Int)-1:=by rw[IntKind.wrap_i64];omega
  simp only[hneg,decide_true,cond_true,e1,if_true]
  rw[ypo n _ _ _ _ (by omega) (by simp) (by omega)]
  simp only[List.nil_append]
  rw[List.take_of_length_le (by simp),List.reverse_append,List.map_append,hr]
  rfl
 ·have e1:IntKind.wrap .i64 (((ysd n.natAbs).length:Int)-1)=(((ysd n.natAbs).length:Nat):Int)-1:=by rw[IntKind.wrap_i64];omega
  simp only[hneg,decide_false,cond_false,e1,if_false]
  rw[yio n _ _ _ _ (by omega) (by simp) (by omega)]
  simp only[List.nil_append]
  rw[List.take_of_length_le (by simp),hr]
  congr 1
  omega
theorem yuv (n:Int) (h1 : -1000000000000≤n) (h2:n≤1000000000000):(zi n).length≤n.natAbs+2:=by
 rw[ygf n h1 h2]
 exact ylo n
end Go.Ab

namespace Go.Ab
open Go Go.Proofs
def zqb (a0:Int):(List UInt8):=
 (bif ((a0.tmod 10) == 0)then(zi (IntKind.wrap .i64 (a0.tdiv 10)))++[115]else(((zi (IntKind.wrap .i64 (a0.tdiv 10)))++[46])++(zi (a0.tmod 10)))++[115])
namespace N280
theorem DD:DOk Tryz.prog (Go.Ab.DD [(166,dP D_zi)]):=ya yzq.e <| ye _
theorem dn:type_of% (@D_zi.eq_1):=by and_intros<;>intros<;>rfl
set_option maxHeartbeats 400000 in
set_option maxRecDepth 20000 in
theorem den (a0:Int) (hp0:0≤a0) (hp1:a0≤1000000):Den Tryz.prog 280 [.int .i64 a0] (.str (zqb a0)):=by
 generalize hR:zqb a0=r
 unfold zqb at hR
 refine di Tryz.func280 Tryz.ntmps280 Tryz.results280 ?_
 intro c hL hc hk
 clear hL
 simp only[pars,Nat.zero_add]
 have hd:a0.tdiv 10=a0 / 10:=Int.tdiv_eq_ediv_of_nonneg hp0
 have hw:IntKind.wrap .i64 (a0.tdiv 10)=a0 / 10:=by rw[IntKind.wrap_i64];omega
 have ht:=yqi a0
 have h1:=yuv (IntKind.wrap .i64 (a0.tdiv 10)) (by omega) (by omega)
 have h2:=yuv (a0.tmod 10) (by omega) (by omega)
 have h3:(IntKind.wrap .i64 (a0.tdiv 10)).natAbs≤100000:=by omega
 have h4:(a0.tmod 10).natAbs≤10:=by omega
 iterate 2 refine rS ?_
 refine AWP.cond rfl (fun hb => ?_) (fun hb => ?_)
 ·replace hR:=ct hR
  refine rS ?_
  refine AWP.ret ?_
  subst hR
  exact es
 ·replace hR:=cf hR
  refine rS ?_
  refine AWP.ret ?_
  subst hR
  exact es
end N280
def D_zqb : DF
 | [x0]=>some (.str (zqb (rdI x0)),false,[wI .i64 x0,0≤(rdI x0),(rdI x0)≤1000000])
 | _=>none
theorem yvm:OkD Tryz.prog 280 D_zqb:=by unfold D_zqb;exact dk N280.den
end Go.Ab

namespace Go.Ab
open Go Go.Proofs
theorem yaq (n:Nat):(zm.getD n default).length≤3:=by
 rw[List.getD_eq_getElem?_getD]
 have h:∀ x∈zm,x.length≤3:=by decide
 cases hg:zm[n]? with
 | none=>show(0:Nat)≤3;omega
 | some x=>exact h x (List.mem_of_getElem? hg)
theorem y9t (n:Int) (h1:0≤n) (h2:n≤1000000):(zqb n).length≤43:=by
 unfold zqb
 have hd:n.tdiv 10=n / 10:=Int.tdiv_eq_ediv_of_nonneg h1
 have hw:IntKind.wrap .i64 (n.tdiv 10)=n / 10:=by rw[IntKind.wrap_i64];omega
 have ht:=yqi n
 rw[hw,ygf _ (by omega) (by omega),ygf _ (by omega) (by omega)]
 have h3:=ypd (n / 10) (by omega) (by omega)
 have h4:=ypd (n.tmod 10) (by omega) (by omega)
 simp only[Bool.cond_eq_ite]
 split
 ·simp only[List.length_append,List.length_cons,List.length_nil];omega
 ·simp only[List.length_append,List.length_cons,List.length_nil];omega
end Go.Ab

namespace Go.Ab
open Go Go.Proofs
def yeo (a0:Character) (i1:Nat) (s1:List UInt8):Except ((List UInt8)) (List UInt8):=
 (bif ((i1:Int) == 0)then .ok (s1++([40]++(zi (a0.Group.getD i1 default))))else .ok (s1++([43]++(zi (a0.Group.getD i1 default)))))
def yen (a0:Character) (i2:Nat) (s2:List UInt8):Except ((List UInt8)) (List UInt8):=
 (bif ((i2:Int) == 0)then .ok (s2++([40]++(zi (a0.Group.getD i2 default))))else .ok (s2++([43]++(zi (a0.Group.getD i2 default)))))
def zcb (a0:Character):(List UInt8):=
 (bif (a0.Kind == 8)then(match yd (yeo a0) (a0.Group.length-0) 0 (((zm ).getD ((a0.Kind).toNat) default)++(([40]++a0.Letter)++[41]))with|.error e=>e|.ok s1=>(bif decide (0<(a0.Group.length:Int))then(bif ((a0.Letter == [76]) && (a0.Kind != 8))then(bif decide (0<a0.Period)then(((s1++[41])++[43,76,70,108])++([32]++a0.Colors))++([32]++(zqb a0.Period))else((s1++[41])++[43,76,70,108])++([32]++a0.Colors))else(bif decide (0<a0.Period)then((s1++[41])++([32]++a0.Colors))++([32]++(zqb a0.Period))else(s1++[41])++([32]++a0.Colors)))else(bif ((a0.Letter == [76]) && (a0.Kind != 8))then(bif decide (0<a0.Period)then((s1++[43,76,70,108])++([32]++a0.Colors))++([32]++(zqb a0.Period))else(s1++[43,76,70,108])++([32]++a0.Colors))else(bif decide (0<a0.Period)then(s1++([32]++a0.Colors))++([32]++(zqb a0.Period))else s1++([32]++a0.Colors)))))else(match yd (yen a0) (a0.Group.length-0) 0 ((zm ).getD ((a0.Kind).toNat) default)with|.error e=>e|.ok s2=>(bif decide (0<(a0.Group.length:Int))then(bif ((a0.Letter == [76]) && (a0.Kind != 8))then(bif decide (0<a0.Period)then(((s2++[41])++[43,76,70,108])++([32]++a0.Colors))++([32]++(zqb a0.Period))else((s2++[41])++[43,76,70,108])++([32]++a0.Colors))else(bif decide (0<a0.Period)then((s2++[41])++([32]++a0.Colors))++([32]++(zqb a0.Period))else(s2++[41])++([32]++a0.Colors)))else(bif ((a0.Letter == [76]) && (a0.Kind != 8))then(bif decide (0<a0.Period)then((s2++[43,76,70,108])++([32]++a0.Colors))++([32]++(zqb a0.Period))else(s2++[43,76,70,108])++([32]++a0.Colors))else(bif decide (0<a0.Period)then(s2++([32]++a0.Colors))++([32]++(zqb a0.Period))else s2++([32]++a0.Colors))))))
namespace N203
theorem DD:DOk Tryz.prog (Go.Ab.DD [(166,dP D_zi),(279,dP D_zm),(280,dP D_zqb)]):=ya yzq.e <| ya y9u.e <| ya yvm.e <| ye _
theorem DZ:DOk Tryz.prog (Go.Ab.DD [(166,dP D_zi),(279,dP Dz_zm),(280,dP D_zqb)]):=ya yzq.e <| ya ywz.e <| ya yvm.e <| ye _
theorem dn:type_of% (And.intro @D_zi.eq_1 <| And.intro @D_zm.eq_1 <| And.intro @D_zqb.eq_1 <| @Dz_zm.eq_1):=by and_intros<;>intros<;>rfl
theorem o0 {p:Prop} (h:p:=by(first|(and_intros<;>(first|omega|((try simp only[List.length_append,List.length_cons,List.length_nil,List.length_singleton]);omega)|(have h9:=hg9 i1;omega)|(have h9:=hg9 i2;omega)|(have h9:=hd9 i1;(try simp only[List.length_append,List.length_cons,List.length_nil,List.length_singleton]);omega)|(have h9:=hd9 i2;(try simp only[List.length_append,List.length_cons,List.length_nil,List.length_singleton]);omega)|exact hp1|((try simp only[List.length_append,List.length_cons,List.length_nil,List.length_singleton]at *);omega))));first|done|fail):p:=h
set_option maxHeartbeats 1000000 in
set_option maxRecDepth 20000 in
theorem den (a0:Character) (hb0:bdCharacter a0) (hp0:a0.Group.length≤4) (hp1:∀ v∈a0.Group,1≤v∧v≤9) (hp2:1≤a0.Kind) (hp3:a0.Kind≤8) (hp4:0≤a0.Period) (hp5:a0.Period≤600):Den Tryz.prog 203 [.ep (yf a0)] (.str (zcb a0)):=by
 generalize hR:zcb a0=r
 unfold zcb at hR
 refine di Tryz.func203 Tryz.ntmps203 Tryz.results203 ?_
 intro c hL hc hk
 obtain⟨hL0,_⟩:=hL
 have hw0:bwCharacter a0:=yn a0 hL0
 clear hL0
 simp only[pars,Nat.zero_add]
 have hg9:∀ i:Nat,0≤a0.Group.getD i default∧a0.Group.getD i default≤9:=fun i=>y9e hp1 i
 have hd9:∀ i:Nat,(zi (a0.Group.getD i default)).length≤11:=fun i=>by have h1:=hg9 i;have h2:=yuv (a0.Group.getD i default) (by omega) (by omega);omega
 have hk9:=yaq a0.Kind.toNat
 have hk8:zm.length=9:=rfl
 have hs9:=y9t a0.Period (by omega) (by omega)
 have hbL:a0.Letter.length<1099511627776:=hb0.2.1
 have hbC:a0.Colors.length<1099511627776:=hb0.2.2
 refine rS ?_
 refine rZ 7 ?_
 refine rS ?_
 refine AWP.cond rfl (fun hb => ?_) (fun hb => ?_)
 ·replace hR:=ct hR
  iterate 2 refine rS ?_
  refine AWP.block ?_
  generalize hz1:yd (yeo a0) (a0.Group.length-0) 0 (((zm ).getD ((a0.Kind).toNat) default)++(([40]++a0.Letter)++[41]))=z1 at hR
  refine AWP.range (yeo a0) (fun i1 s1=>⟨[(0,.ep (yf a0)),(3,.str s1),(4,.int .i64 (i1:Int))],[]⟩) (fun i1 s1=>s1.length≤9+a0.Letter.length+12 * i1) (a0.Group.length) 0 (((zm ).getD ((a0.Kind).toNat) default)++(([40]++a0.Letter)++[41])) [] hz1 ot (by((try simp only[List.length_append,List.length_cons,List.length_nil,List.length_singleton]);omega)) sm ?_
  clear hz1
  intro i1 s1 hi1 hW1 hz1
  refine rS ?_
  refine AWP.cond rfl (fun hb => ?_) (fun hb => ?_)
  ·have hlt1:i1<a0.Group.length:=ot
   rw[yh hlt1]at hz1;simp only[yeo]at hz1
   iterate 2 refine rS ?_
   refine AWP.cond rfl (fun hb => ?_) (fun hb => ?_)
   ·simp only[hb,cond_true]at hz1
    iterate 3 refine rS ?_
    exact⟨_,[],hlt1,by(have h9:=hd9 i1;and_intros<;>first|omega|((try simp only[List.length_append,List.length_cons,List.length_nil,List.length_singleton]);omega)|((try simp only[List.length_append,List.length_cons,List.length_nil,List.length_singleton]at *);omega)),hz1,sm⟩
   ·simp only[hb,cond_false]at hz1
    iterate 2 refine rS ?_
    exact⟨_,[],hlt1,by(have h9:=hd9 i1;and_intros<;>first|omega|((try simp only[List.length_append,List.length_cons,List.length_nil,List.length_singleton]);omega)|((try simp only[List.length_append,List.length_cons,List.length_nil,List.length_singleton]at *);omega)),hz1,sm⟩
  ·obtain rfl:i1=a0.Group.length:=ot
   rw[yg (Nat.le_refl _)]at hz1;subst hz1;dsimp only at hR
   refine AWP.exit ?_;refine yb ?_
   refine rS ?_
   refine AWP.cond rfl (fun hb => ?_) (fun hb => ?_)
   ·replace hR:=ct hR
    iterate 2 refine rS ?_
    refine AWP.cond rfl (fun hb => ?_) (fun hb => ?_)
    ·replace hR:=ct hR
     iterate 3 refine rS ?_
     refine AWP.cond rfl (fun hb => ?_) (fun hb => ?_)
     ·replace hR:=ct hR
      iterate 2 refine rS ?_
      refine AWP.ret ?_
      subst hR
      exact es
     ·replace hR:=cf hR
      refine rS ?_
      refine AWP.ret ?_
      subst hR
      exact es
    ·replace hR:=cf hR
     iterate 2 refine rS ?_
     refine AWP.cond rfl (fun hb => ?_) (fun hb => ?_)
     ·replace hR:=ct hR
      iterate 2 refine rS ?_
      refine AWP.ret ?_
      subst hR
      exact es
     ·replace hR:=cf hR
      refine rS ?_
      refine AWP.ret ?_
      subst hR
      exact es
   ·replace hR:=cf hR
    refine rS ?_
    refine AWP.cond rfl (fun hb => ?_) (fun hb => ?_)
    ·replace hR:=ct hR
     iterate 3 refine rS ?_
     refine AWP.cond rfl (fun hb => ?_) (fun hb => ?_)
     ·replace hR:=ct hR
      iterate 2 refine rS ?_
      refine AWP.ret ?_
      subst hR
      exact es
     ·replace hR:=cf hR
      refine rS ?_
      refine AWP.ret ?_
      subst hR
      exact es
    ·replace hR:=cf hR
     iterate 2 refine rS ?_
     refine AWP.cond rfl (fun hb => ?_) (fun hb => ?_)
     ·replace hR:=ct hR
      iterate 2 refine rS ?_
      refine AWP.ret ?_
      subst hR
      exact es
     ·replace hR:=cf hR
      refine rS ?_
      refine AWP.ret ?_
      subst hR
      exact es
 ·replace hR:=cf hR
  refine rS ?_
  refine AWP.block ?_
  generalize hz2:yd (yen a0) (a0.Group.length-0) 0 ((zm ).getD ((a0.Kind).toNat) default)=z2 at hR
  refine AWP.range (yen a0) (fun i2 s2=>⟨[(0,.ep (yf a0)),(3,.str s2),(4,.int .i64 (i2:Int))],[]⟩) (fun i2 s2=>s2.length≤9+a0.Letter.length+12 * i2) (a0.Group.length) 0 ((zm ).getD ((a0.Kind).toNat) default) [] hz2 ot (by((try simp only[List.length_append,List.length_cons,List.length_nil,List.length_singleton]);omega)) sm ?_
  clear hz2
  intro i2 s2 hi2 hW2 hz2
  refine rS ?_
  refine AWP.cond rfl (fun hb => ?_) (fun hb => ?_)
  ·have hlt2:i2<a0.Group.length:=ot
   rw[yh hlt2]at hz2;simp only[yen]at hz2
   iterate 2 refine rS ?_
   refine AWP.cond rfl (fun hb => ?_) (fun hb => ?_)
   ·simp only[hb,cond_true]at hz2
    iterate 3 refine rS ?_
    exact⟨_,[],hlt2,by(have h9:=hd9 i2;and_intros<;>first|omega|((try simp only[List.length_append,List.length_cons,List.length_nil,List.length_singleton]);omega)|((try simp only[List.length_append,List.length_cons,List.length_nil,List.length_singleton]at *);omega)),hz2,sm⟩
   ·simp only[hb,cond_false]at hz2
    iterate 2 refine rS ?_
    exact⟨_,[],hlt2,by(have h9:=hd9 i2;and_intros<;>first|omega|((try simp only[List.length_append,List.length_cons,List.length_nil,List.length_singleton]);omega)|((try simp only[List.length_append,List.length_cons,List.length_nil,List.length_singleton]at *);omega)),hz2,sm⟩
  ·obtain rfl:i2=a0.Group.length:=ot
   rw[yg (Nat.le_refl _)]at hz2;subst hz2;dsimp only at hR
   refine AWP.exit ?_;refine yb ?_
   refine rS ?_
   refine AWP.cond rfl (fun hb => ?_) (fun hb => ?_)
   ·replace hR:=ct hR
    iterate 2 refine rS ?_
    refine AWP.cond rfl (fun hb => ?_) (fun hb => ?_)
    ·replace hR:=ct hR
     iterate 3 refine rS ?_
     refine AWP.cond rfl (fun hb => ?_) (fun hb => ?_)
     ·replace hR:=ct hR
      iterate 2 refine rS ?_
      refine AWP.ret ?_
      subst hR
      exact es
     ·replace hR:=cf hR
      refine rS ?_
      refine AWP.ret ?_
      subst hR
      exact es
    ·replace hR:=cf hR
     iterate 2 refine rS ?_
     refine AWP.cond rfl (fun hb => ?_) (fun hb => ?_)
     ·replace hR:=ct hR
      iterate 2 refine rS ?_
      refine AWP.ret ?_
      subst hR
      exact es
     ·replace hR:=cf hR
      refine rS ?_
      refine AWP.ret ?_
      subst hR
      exact es
   ·replace hR:=cf hR
    refine rS ?_
    refine AWP.cond rfl (fun hb => ?_) (fun hb => ?_)
    ·replace hR:=ct hR
     iterate 3 refine rS ?_
     refine AWP.cond rfl (fun hb => ?_) (fun hb => ?_)
     ·replace hR:=ct hR
      iterate 2 refine rS ?_
      refine AWP.ret ?_
      subst hR
      exact es
     ·replace hR:=cf hR
      refine rS ?_
      refine AWP.ret ?_
      subst hR
      exact es
    ·replace hR:=cf hR
     iterate 2 refine rS ?_
     refine AWP.cond rfl (fun hb => ?_) (fun hb => ?_)
     ·replace hR:=ct hR
      iterate 2 refine rS ?_
      refine AWP.ret ?_
      subst hR
      exact es
     ·replace hR:=cf hR
      refine rS ?_
      refine AWP.ret ?_
      subst hR
      exact es
end N203
def D_zcb : DF
 | [x0]=>some (.str (zcb (rdP yc x0)),false,[wP yf yc x0,bdCharacter (rdP yc x0),(rdP yc x0).Group.length≤4,∀ v∈(rdP yc x0).Group,1≤v∧v≤9,1≤(rdP yc x0).Kind,(rdP yc x0).Kind≤8,0≤(rdP yc x0).Period,(rdP yc x0).Period≤600])
 | _=>none
theorem yn0:OkD Tryz.prog 203 D_zcb:=by unfold D_zcb;exact dk N203.den
end Go.Ab

namespace Go.Ab
open Go Go.Proofs
def zkc (a0:Character):(List UInt8):=
 (bif (!(zw a0))then[]else(bif (a0.Period != 0)then(((zuc a0)++[32])++a0.Colors)++(([32]++(zld a0.Period))++[115])else((zuc a0)++[32])++a0.Colors))
namespace N106
theorem DD:DOk Tryz.prog (Go.Ab.DD [(217,dP D_zuc),(218,dP D_zld),(91,dP D_zw)]):=ya y6x.e <| ya yys.e <| ya yxp.e <| ye _
theorem dn:type_of% (And.intro @D_zuc.eq_1 <| And.intro @D_zld.eq_1 <| @D_zw.eq_1):=by and_intros<;>intros<;>rfl
theorem o0 {p:Prop} (h:p:=by(first|(have q9 := ‹(!zw a0)=false›;have q8:zw a0=true:=(by simpa using q9);have h9:=ync a0 q8;have h8:=y1m a0 h9.1 h9.2.1;have h7:=y4c a0 q8;have h6:=ynq a0.Period (by omega) (by omega);first|(refine⟨hb0,h9.1,h9.2.1,?_,?_⟩<;>first|omega|(simp only[List.length_append,List.length_cons,List.length_nil];omega))|(and_intros<;>first|omega|(simp only[List.length_append,List.length_cons,List.length_nil];omega))));first|done|fail):p:=h
set_option maxHeartbeats 400000 in
set_option maxRecDepth 20000 in
theorem den (a0:Character) (hb0:bdCharacter a0):Den Tryz.prog 106 [.agg (yf a0)] (.str (zkc a0)):=by
 generalize hR:zkc a0=r
 unfold zkc at hR
 refine di Tryz.func106 Tryz.ntmps106 Tryz.results106 ?_
 intro c hL hc hk
 obtain⟨hL0,_⟩:=hL
 have hw0:bwCharacter a0:=yn a0 hL0
 clear hL0
 simp only[pars,Nat.zero_add]
 have hbL:a0.Letter.length<1099511627776:=hb0.2.1
 have hbC:a0.Colors.length<1099511627776:=hb0.2.2
 iterate 2 refine rS ?_
 refine AWP.cond rfl (fun hb => ?_) (fun hb => ?_)
 ·replace hR:=ct hR
  refine rS ?_
  refine AWP.ret ?_
  subst hR
  exact es
 ·replace hR:=cf hR
  refine rD 5 ?_
  refine rS ?_
  refine AWP.cond rfl (fun hb => ?_) (fun hb => ?_)
  ·replace hR:=ct hR
   iterate 2 refine rS ?_
   refine AWP.ret ?_
   subst hR
   exact es
  ·replace hR:=cf hR
   refine rS ?_
   refine AWP.ret ?_
   subst hR
   exact es
end N106
def D_zkc : DF
 | [x0]=>some (.str (zkc (rdG yc x0)),false,[wG yf yc x0,bdCharacter (rdG yc x0)])
 | _=>none
theorem yot:OkD Tryz.prog 106 D_zkc:=by unfold D_zkc;exact dk N106.den
end Go.Ab

namespace Go.Ab
open Go Go.Proofs
def kt (k:Int):List UInt8:=([[],[70],[79,99],[73,115,111],[70,108],[76,70,108],[81],[86,81],[77,111]]:List (List UInt8)).getD k.toNat []
def grpT (g:List Int):List UInt8:=if g=[]then[]else 40::(Lib.join (g.map Lib.itoa) [43]++[41])
def yjd (c:Character):List UInt8:=
 if c.Kind=8 then kt 8++(40::(c.Letter++[41]))else kt c.Kind++(grpT c.Group++(if c.Letter=[]then[]else[43,76,70,108]))
def secT (n:Int):List UInt8:=if n.tmod 10=0 then Lib.itoa (n / 10)else Lib.itoa (n / 10)++(46::Lib.itoa (n % 10))
def perT (n:Int):List UInt8:=if n=0 then[]else 32::(secT n++[115])
def chrT (c:Character):List UInt8:=yjd c++(32::(c.Colors++perT c.Period))
theorem yr2 (k:Int) (h:1≤k∧k≤8):zub k=kt k:=by
 rcases(show k=1∨k=2∨k=3∨k=4∨k=5∨k=6∨k=7∨k=8 by omega)with h|h|h|h|h|h|h|h<;>subst h<;>rfl
theorem ysy (k:Int):zm.getD k.toNat default=kt k:=rfl
theorem yvs (n:Int) (h1:0≤n) (h2:n≤600):zld n=secT n:=by
 unfold zld secT
 have hd:n.tdiv 10=n / 10:=Int.tdiv_eq_ediv_of_nonneg h1
 have hm:n.tmod 10=n % 10:=Int.tmod_eq_emod_of_nonneg h1
 have hw:IntKind.wrap .i64 (n.tdiv 10)=n / 10:=by rw[IntKind.wrap_i64];omega
 rw[hw,hm]
 by_cases h:n % 10=0
 ·rw[h];rfl
 ·have:(n % 10 == 0)=false:=by rw[beq_eq_false_iff_ne];exact h
  rw[this,if_neg h]
  simp[yhy]
theorem yvl (n:Int) (h1:0≤n) (h2:n≤600):zqb n=secT n++[115]:=by
 unfold zqb secT
 have hd:n.tdiv 10=n / 10:=Int.tdiv_eq_ediv_of_nonneg h1
 have hm:n.tmod 10=n % 10:=Int.tmod_eq_emod_of_nonneg h1
 have hw:IntKind.wrap .i64 (n.tdiv 10)=n / 10:=by rw[IntKind.wrap_i64];omega
 rw[hw,hm,ygf _ (by omega) (by omega),ygf _ (by omega) (by omega)]
 by_cases h:n % 10=0
 ·rw[h];rfl
 ·have:(n % 10 == 0)=false:=by rw[beq_eq_false_iff_ne];exact h
  rw[this,if_neg h]
  simp
theorem y0w (c:Character) (hk:1≤c.Kind∧c.Kind≤8):zuc c=yjd c:=by
 unfold zuc yjd
 rw[yr2 _ hk]
 by_cases h8:c.Kind=8
 ·rw[h8];simp
 ·have e8:(c.Kind == 8)=false:=by rw[beq_eq_false_iff_ne];exact h8
  rw[e8,if_neg h8]
  simp only[cond_false]
  have hl:=yjc (y6k c) (fun j=>[Lib.itoa (c.Group.getD j default)]) c.Group.length 0 [] (fun j s _ _=>rfl)
  rw[yne c.Group default Lib.itoa,List.nil_append]at hl
  simp only[Nat.sub_zero]
  rw[hl]
  unfold grpT
  by_cases hg:c.Group=[]
  ·rw[hg]
   by_cases hL:c.Letter=[]
   ·rw[hL];simp
   ·have:(c.Letter != [])=true:=by simpa using hL
    rw[this,if_neg hL];simp
  ·have hpos:0<c.Group.length:=List.length_pos_iff.2 hg
   rw[if_neg hg,decide_eq_true (show 0<(c.Group.length:Int)by omega)]
   have ej:zob (c.Group.map Lib.itoa) [43]=Lib.join (c.Group.map Lib.itoa) [43]:=rfl
   by_cases hL:c.Letter=[]
   ·rw[hL];simp[ej]
   ·have:(c.Letter != [])=true:=by simpa using hL
    rw[this,if_neg hL];simp[ej]
theorem ycj (c:Character) (h:zw c=true):zkc c=chrT c:=by
 have hk:=ybd c (yxb c h)
 have hp:=y4c c h
 have hp2:=(ync c h).2.2
 unfold zkc chrT perT
 rw[h,y0w c hk,yvs _ hp hp2]
 by_cases h0:c.Period=0
 ·rw[h0];simp
 ·have:(c.Period != 0)=true:=by rw[bne_iff_ne];exact h0
  rw[this,if_neg h0];simp
theorem ysv (x:Int) (r:List Int):(List.range' 1 r.length).flatMap (fun j=>(43:UInt8)::Lib.itoa ((x::r).getD j default))=Lib.joinTail [43] (r.map Lib.itoa):=by
 unfold Lib.joinTail
 rw[List.map_map, ← List.flatMap_def]
 have h:(List.range' 1 r.length).flatMap (fun j=>(43:UInt8)::Lib.itoa ((x::r).getD j default))=(List.range' 0 r.length).flatMap (fun j=>(43:UInt8)::Lib.itoa (r.getD j default)):=by
  rw[List.flatMap_def,List.flatMap_def]
  congr 1
  apply List.ext_getElem
  ·simp
  ·intro i h1 h2
   simp[List.getElem_range',Nat.add_comm 1 i]
 rw[h]
 rw[List.flatMap_def,List.flatMap_def]
 congr 1
 apply List.ext_getElem
 ·simp
 ·intro i h1 h2
  simp only[List.length_map]at h2
  simp[List.getD_eq_getElem?_getD,h2]
def grp0 (g:List Int):List UInt8:=if g=[]then[]else 40::Lib.join (g.map Lib.itoa) [43]
theorem y0r (c : Character) (h2 : ∀ v ∈ c.Group, 1 ≤ v ∧ v ≤ 9) (b : Nat → List UInt8 → Except (List UInt8) (List UInt8))
  (hb:∀ j s,b j s=bif ((j:Int) == 0)then .ok (s++([40]++(zi (c.Group.getD j default))))else .ok (s++([43]++(zi (c.Group.getD j default))))) (s:List UInt8) :
  yd b (c.Group.length-0) 0 s=.ok (s++grp0 c.Group):=by
 have hl:=yjc b (fun j=>(if j=0 then(40:UInt8)else 43)::Lib.itoa (c.Group.getD j default)) c.Group.length 0 s (fun j s _ _=>by
  have hr:=y9e h2 j
  rw[hb,ygf _ (by omega) (by omega)]
  by_cases h:j=0
  ·subst h;rfl
  ·have:((j:Int) == 0)=false:=by rw[beq_eq_false_iff_ne];omega
   rw[this,if_neg h];rfl)
 rw[Nat.sub_zero,hl]
 congr 2
 generalize c.Group=g
 cases g with
 | nil=>rfl
 | cons x r=>
  unfold grp0
  rw[if_neg (by simp),List.length_cons,List.range'_succ,List.flatMap_cons,List.map_cons,Lib.join_cons]
  have:(List.range' (0+1) r.length).flatMap (fun j=>(if j=0 then(40:UInt8)else 43)::Lib.itoa ((x::r).getD j default))=(List.range' 1 r.length).flatMap (fun j=>(43:UInt8)::Lib.itoa ((x::r).getD j default)):=by
   rw[List.flatMap_def,List.flatMap_def]
   congr 1
   apply List.map_congr_left
   intro j hj
   rw[List.mem_range'_1]at hj
   rw[if_neg (by omega)]
  rw[this,ysv]
  simp
theorem yaj (c:Character) (h:zw c=true):zcb c=chrT c:=by
 have hf:=yxb c h
 have hk:=ybd c hf
 have hp:=y4c c h
 obtain⟨g1,g2,hp2⟩:=ync c h
 have hsec:∀ s:List UInt8,(bif decide (0<c.Period)then s++([32]++(zqb c.Period))else s)=s++perT c.Period:=by
  intro s
  unfold perT
  by_cases h0:c.Period=0
  ·rw[h0];simp
  ·rw[decide_eq_true (show 0<c.Period by omega),if_neg h0,yvl _ hp hp2];simp
 unfold zcb chrT yjd
 rw[ysy,y0r c g2 (yeo c) (fun j s=>rfl),y0r c g2 (yen c) (fun j s=>rfl)]
 by_cases h8:c.Kind=8
 ·have hg:c.Group=[]:=by
   unfold zbb at hf
   rw[h8]at hf
   have hf:(((zkb c.Letter) != []) && ((c.Group.length:Int) == 0))=true:=hf
   rw[Bool.and_eq_true,beq_iff_eq]at hf
   exact List.length_eq_zero_iff.1 (by omega)
  rw[h8,hg]
  have e1:((8:Int) == 8)=true:=rfl
  have e2:((8:Int) != 8)=false:=rfl
  have e3:decide (0<((([]:List Int).length:Int)))=false:=rfl
  simp only[e1,e2,e3,cond_true,cond_false,Bool.and_false,if_true,grp0,hsec]
  simp
 ·have e8:(c.Kind == 8)=false:=by rw[beq_eq_false_iff_ne];exact h8
  have e9:(c.Kind != 8)=true:=by rw[bne_iff_ne];exact h8
  have hL:(c.Letter == [76])=(c.Letter != []):=(ybo c hf h8).symm
  rw[e8,e9,if_neg h8,hL]
  simp only[cond_false,Bool.and_true,hsec]
  by_cases hg:c.Group=[]
  ·rw[hg]
   have e3:decide (0<((([]:List Int).length:Int)))=false:=rfl
   simp only[e3,cond_false,grp0,grpT,if_true]
   by_cases hl:c.Letter=[]
   ·rw[hl];simp
   ·have:(c.Letter != [])=true:=by simpa using hl
    rw[this,if_neg hl];simp
  ·have hpos:0<c.Group.length:=List.length_pos_iff.2 hg
   rw[decide_eq_true (show 0<(c.Group.length:Int)by omega)]
   simp only[cond_true,grp0,grpT,if_neg hg]
   by_cases hl:c.Letter=[]
   ·rw[hl];simp
   ·have:(c.Letter != [])=true:=by simpa using hl
    rw[this,if_neg hl];simp
end Go.Ab

namespace Go.Ab
open Go Go.Proofs
def u8D (k:Nat):UInt8:=UInt8.ofNat (48+k)
theorem ynh {k:Nat} (h:k<10):(u8D k).toNat=48+k:=y8k k h
def pad2 (m:Nat):List UInt8:=[u8D (m / 10),u8D (m % 10)]
def pad4 (y:Nat):List UInt8:=[u8D (y / 1000),u8D (y / 100 % 10),u8D (y / 10 % 10),u8D (y % 10)]
theorem yki {m:Nat} (h:m<100):ytc (pad2 m)∧digV 0 (pad2 m)=m:=by
 have h1:=ynh (k:=m / 10) (by omega)
 have h2:=ynh (k:=m % 10) (by omega)
 refine⟨fun b hb => ?_,?_⟩
 ·simp only[pad2,List.mem_cons,List.not_mem_nil,or_false]at hb
  rcases hb with rfl|rfl<;>omega
 ·unfold pad2
  rw[yfb,yfb,yad,h1,h2];omega
theorem yjs {y:Nat} (h:y<10000):ytc (pad4 y)∧digV 0 (pad4 y)=y:=by
 have h1:=ynh (k:=y / 1000) (by omega)
 have h2:=ynh (k:=y / 100 % 10) (by omega)
 have h3:=ynh (k:=y / 10 % 10) (by omega)
 have h4:=ynh (k:=y % 10) (by omega)
 refine⟨fun b hb => ?_,?_⟩
 ·simp only[pad4,List.mem_cons,List.not_mem_nil,or_false]at hb
  rcases hb with rfl|rfl|rfl|rfl<;>omega
 ·unfold pad4
  rw[yfb,yfb,yfb,yfb,yad,h1,h2,h3,h4];omega
theorem y30 {y:Nat} (h1:1000≤y) (h2:y<10000):Lib.decDigits y=pad4 y:=by
 rw[yab y (by omega),yab (y / 10) (by omega),yab (y / 10 / 10) (by omega),Lib.decDigits_one (by omega)]
 unfold pad4 u8D
 rw[show y / 10 / 10 / 10=y / 1000 by omega,show y / 10 / 10 % 10=y / 100 % 10 by omega]
 rfl
theorem yzi {m:Nat} (h:m<100):zvf (m:Int) 2=pad2 m:=by
 unfold zvf
 rw[yhy,yde]
 by_cases h10:m<10
 ·rw[Lib.decDigits_one h10]
  unfold pad2 u8D
  rw[show m / 10=0 by omega,show m % 10=m by omega]
  rfl
 ·rw[yab m h10,Lib.decDigits_one (by omega)]
  rfl
def D10 (y m d:Nat):List UInt8:=pad4 y++45::(pad2 m++45::pad2 d)
theorem yuh {a:Int} (h1:0≤a) (h2:a≤99999):∃ y m d:Nat,zje a=((y:Int),(m:Int),(d:Int))∧2000≤y∧y≤2273∧1≤m∧m≤12∧1≤d∧d≤31∧yxo a y m d∧ztf a=D10 y m d:=by
 obtain⟨y,m,d,e,hy,hd⟩:=yd4 a h1 h2
 have hm:=yx4 (l:=yyb y) hd.2.1 hd.2.2.1
 obtain⟨q1,q2,q3,q4,q5,q6⟩:=hd
 refine⟨y.toNat,m.toNat,d.toNat,?_,by omega,by omega,by omega,by omega,by omega,by omega,?_,?_⟩
 ·rw[e,show(y.toNat:Int)=y by omega,show(m.toNat:Int)=m by omega,show(d.toNat:Int)=d by omega]
 ·rw[show(y.toNat:Int)=y by omega,show(m.toNat:Int)=m by omega,show(d.toNat:Int)=d by omega]
  exact⟨q1,q2,q3,q4,q5,q6⟩
 ·unfold ztf zyf zh
  simp only[h1,h2,decide_true,Bool.and_self,Bool.not_true,cond_false,e]
  conv=>lhs;rw[show y=(y.toNat:Int)by omega,show m=(m.toNat:Int)by omega,show d=(d.toNat:Int)by omega]
  rw[yhy,yde,y30 (by omega) (by omega),yzi (by omega),yzi (by omega)]
  unfold D10
  simp
end Go.Ab


namespace Go.Ab
open Go Go.Proofs
def y3f (w:List UInt8) (r:Int×Bool):Prop:=
 (∃ a:Int,0≤a∧a≤99999∧w=ztf a∧r=(a,true))∨((∀ a:Int,0≤a→a≤99999→w≠ztf a)∧r=(0,false))
theorem y61 {y m d y' m' d':Nat} (h1:y<10000) (h2:m<100) (h3:d<100) (h1':y'<10000) (h2':m'<100) (h3':d'<100) (h:D10 y m d=D10 y' m' d'):y=y'∧m=m'∧d=d':=by
 have t1:∀ y m d,(D10 y m d).take 4=pad4 y:=fun _ _ _=>rfl
 have t2:∀ y m d,((D10 y m d).take 7).drop 5=pad2 m:=fun _ _ _=>rfl
 have t3:∀ y m d,(D10 y m d).drop 8=pad2 d:=fun _ _ _=>rfl
 have e1:=congrArg (fun l=>digV 0 (List.take 4 l)) h
 have e2:=congrArg (fun l=>digV 0 ((List.take 7 l).drop 5)) h
 have e3:=congrArg (fun l=>digV 0 (List.drop 8 l)) h
 simp only[t1,t2,t3]at e1 e2 e3
 rw[(yjs h1).2,(yjs h1').2]at e1
 rw[(yki h2).2,(yki h2').2]at e2
 rw[(yki h3).2,(yki h3').2]at e3
 exact⟨e1,e2,e3⟩
theorem ypn {a a':Int} (h1:0≤a) (h2:a≤99999) (h1':0≤a') (h2':a'≤99999) (h:ztf a=ztf a'):a=a':=by
 obtain⟨y,m,d,_,_,_,_,_,_,_,hd,e⟩:=yuh h1 h2
 obtain⟨y',m',d',_,_,_,_,_,_,_,hd',e'⟩:=yuh h1' h2'
 rw[e,e']at h
 obtain⟨rfl,rfl,rfl⟩:=y61 (by omega) (by omega) (by omega) (by omega) (by omega) (by omega) h
 have q:=hd.2.2.2.2.2
 have q':=hd'.2.2.2.2.2
 omega
theorem y3f.unique {w:List UInt8} {r r':Int×Bool} (h:y3f w r) (h':y3f w r'):r=r':=by
 rcases h with⟨n,h0,h1,h2,rfl⟩|⟨h1,rfl⟩<;>rcases h' with⟨n',h0',h1',h2',rfl⟩|⟨h1',rfl⟩
 ·rw[ypn h0 h1 h0' h1' (h2.symm.trans h2')]
 ·exact absurd h2 (h1' n h0 h1)
 ·exact absurd h2' (h1 n' h0' h1')
 ·rfl
theorem y3f.of {w:List UInt8} {r:Int×Bool} (h1:r=(0,false)∨∃ a:Int,0≤a∧a≤99999∧w=ztf a) (h2:∀ a:Int,0≤a→a≤99999→w=ztf a→r=(a,true)):y3f w r:=by
 by_cases h:∃ a:Int,0≤a∧a≤99999∧w=ztf a
 ·obtain⟨a,q1,q2,q3⟩:=h
  exact .inl ⟨a,q1,q2,q3,h2 a q1 q2 q3⟩
 ·refine .inr ⟨fun a q1 q2 q3=>h ⟨a,q1,q2,q3⟩,?_⟩
  rcases h1 with h1|h1
  ·exact h1
  ·exact absurd h1 h
end Go.Ab

namespace Go.Ab
open Go Go.Proofs
def ybi (c : UInt8) : List (List UInt8) → List UInt8
 | []=>[]
 | [x]=>x
 | x::y::r=>x++c::ybi c (y::r)
theorem yyd (c : UInt8) : ∀ l, ybi c (yl c l) = l
 | []=>rfl
 | b::l=>by
  have ih:=yyd c l
  simp only[yl]
  split
  ·rename_i h
   obtain⟨x,r,e⟩:=List.exists_cons_of_ne_nil (y0e c l)
   rw[e]at ih ⊢
   simp only[ybi,List.nil_append]
   rw[ih,h]
  ·obtain⟨x,r,e⟩:=List.exists_cons_of_ne_nil (y0e c l)
   rw[e]at ih ⊢
   simp only
   cases r with
   | nil=>simp only[ybi]at ih ⊢;rw[ih]
   | cons y r=>simp only[ybi,List.cons_append]at ih ⊢;rw[ih]
theorem y1j (n:Int):(32:UInt8)∉Lib.itoa n∧Lib.itoa n≠[]:=by
 obtain⟨d1,_,d3,_⟩:=y4 n.natAbs
 by_cases h:n<0
 ·rw[ymb h]
  refine⟨fun hm => ?_,by simp⟩
  rcases List.mem_cons.1 hm with hm|hm
  ·simp at hm
  ·have:=d1 32 hm;simp at this
 ·rw[ykd h]
  exact⟨fun hm=>by have:=d1 32 hm;simp at this,d3⟩
theorem ykx {n:Int} (h:n.natAbs<E18) (hl:(Lib.itoa n).length≤1048576):zg (Lib.itoa n)=(n,true):=by
 rcases y2b (Lib.itoa n) hl with⟨n',h',e,hr⟩|⟨hn,_⟩
 ·rw[hr,y9l e]
 ·exact absurd rfl (hn n h)
end Go.Ab

namespace Go.Ab
open Go Go.Proofs
def zmd (a0:(List UInt8)):(Int×Bool):=
 (bif (!((zb a0 [46]).2.2))then(IntKind.wrap .i64 ((IntKind.wrap .i64 (10 * ((zk ((zb a0 [46]).1)).1)))+((zk [48]).1)),(((((zk ((zb a0 [46]).1)).2 && (zk [48]).2) && (zh ((zk ((zb a0 [46]).1)).1) 0 1200)) && (zh ((zk [48]).1) 0 9)) && ((zld (IntKind.wrap .i64 ((IntKind.wrap .i64 (10 * ((zk ((zb a0 [46]).1)).1)))+((zk [48]).1)))) == a0)))else(IntKind.wrap .i64 ((IntKind.wrap .i64 (10 * ((zk ((zb a0 [46]).1)).1)))+((zk ((zb a0 [46]).2.1)).1)),(((((zk ((zb a0 [46]).1)).2 && (zk ((zb a0 [46]).2.1)).2) && (zh ((zk ((zb a0 [46]).1)).1) 0 1200)) && (zh ((zk ((zb a0 [46]).2.1)).1) 0 9)) && ((zld (IntKind.wrap .i64 ((IntKind.wrap .i64 (10 * ((zk ((zb a0 [46]).1)).1)))+((zk ((zb a0 [46]).2.1)).1)))) == a0))))
namespace N186
theorem DD:DOk Tryz.prog (Go.Ab.DD [(136,dP D_zk),(181,dP D_zh),(184,dP D_zb),(218,dP D_zld)]):=ya ymj.e <| ya yxc.e <| ya y2j.e <| ya yys.e <| ye _
theorem dn:type_of% (And.intro @D_zk.eq_1 <| And.intro @D_zh.eq_1 <| And.intro @D_zb.eq_1 <| @D_zld.eq_1):=by and_intros<;>intros<;>rfl
theorem ol:type_of% (@zh.eq_1):=@zh.eq_1
theorem gr {p:Prop} (h:p:=by(grind [yle]);first|done|fail):p:=h
set_option maxHeartbeats 400000 in
set_option maxRecDepth 20000 in
theorem den (a0:(List UInt8)) (hb0:a0.length<1099511627776) (hp0:a0.length≤1048576):Den Tryz.prog 186 [.str a0] (.tup [.int .i64 ((zmd a0).1),.bool ((zmd a0).2)]):=by
 generalize hR:zmd a0=r
 unfold zmd at hR
 refine di Tryz.func186 Tryz.ntmps186 Tryz.results186 ?_
 intro c hL hc hk
 obtain⟨hL0,_⟩:=hL
 have hw0:a0.length<9223372036854775808:=Nat.lt_succ_of_le hL0
 clear hL0
 simp only[pars,Nat.zero_add]
 iterate 3 refine rS ?_
 refine AWP.cond rfl (fun hb => ?_) (fun hb => ?_)
 ·replace hR:=ct hR
  iterate 5 refine rS ?_
  refine AWP.ret ?_
  subst hR
  exact es
 ·replace hR:=cf hR
  iterate 4 refine rS ?_
  refine AWP.ret ?_
  subst hR
  exact es
end N186
def D_zmd : DF
 | [x0]=>some (.tup [.int .i64 ((zmd (rdS x0)).1),.bool ((zmd (rdS x0)).2)],false,[wS x0,(rdS x0).length<1099511627776,(rdS x0).length≤1048576])
 | _=>none
theorem ymx:OkD Tryz.prog 186 D_zmd:=by unfold D_zmd;exact dk N186.den
end Go.Ab
