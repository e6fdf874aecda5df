/- A part of a proof: walks of functions and lemmas of our own. No conditions. -/
import Derived.Test.YtjngmicjnheliaaGreatDoorQAl
import Derived.Test.YtjngmicjnheliaaGreatDoorQAr
import Derived.Test.YtjngmicjnheliaaGreatDoorQAi
import Derived.Test.YtjngmicjnheliaaGreatDoorQAn
import Derived.Test.YtjngmicjnheliaaGreatDoorQAo
set_option linter.unusedSectionVars false
set_option linter.unusedVariables false
set_option linter.unusedSimpArgs false
set_option maxHeartbeats 1000000
namespace Go.Ab
open Go Go.Proofs
def zmd (a0:Character):Int:=
 (bif (zdb a0)then 0 else(bif (a0.Kind == 3)then 20 else IntKind.wrap .i64 ((zp (za a0))+(zxc a0))))
namespace N62
theorem DD:DOk Tryz.prog (Go.Ab.DD [(100,dP D_zp),(101,dP D_za),(102,dP D_zxc),(61,dP D_zdb)]):=ya y7s.e <| ya y2s.e <| ya y0u.e <| ya y6j.e <| ye _
theorem dn:type_of% (And.intro @D_zp.eq_1 <| And.intro @D_za.eq_1 <| And.intro @D_zxc.eq_1 <| @D_zdb.eq_1):=by and_intros<;>intros<;>rfl
theorem den (a0:Character) (hb0:bdCharacter a0) (hp0:a0.Group.length<=4) (hp1:∀ v∈a0.Group,v<=9) (hp2:a0.Kind=8->a0.Letter.length=1/\65<=(a0.Letter.getD 0 0).toNat/\(a0.Letter.getD 0 0).toNat<=90):Den Tryz.prog 62 [.ep (eCharacter a0)] (.int .i64 (zmd a0)):=by
 generalize hR:zmd a0=r;unfold zmd at hR;refine di Tryz.func62 Tryz.ntmps62 Tryz.results62 ?_;intro c hL hc hk;obtain⟨hL0,_⟩:=hL;have hw0:bwCharacter a0:=yj a0 hL0;clear hL0;simp only[pars,Nat.zero_add];iterate 2 refine rS ?_
 refine AWP.cond rfl (fun hb => ?_) (fun hb => ?_)
 ·replace hR:=ct hR
  refine rS ?_;refine AWP.ret ?_;subst hR;exact es
 ·replace hR:=cf hR
  refine rS ?_;refine AWP.cond rfl (fun hb => ?_) (fun hb => ?_)
  ·replace hR:=ct hR
   refine rS ?_;refine AWP.ret ?_;subst hR;exact es
  ·replace hR:=cf hR
   refine rS ?_;refine AWP.ret ?_;subst hR;exact es
end N62
def D_zmd : DF
 | [x0]=>some (.int .i64 (zmd (rdP yb x0)),false,[wP eCharacter yb x0,bdCharacter (rdP yb x0),(rdP yb x0).Group.length<=4,∀ v∈(rdP yb x0).Group,v<=9,(rdP yb x0).Kind=8->(rdP yb x0).Letter.length=1/\65<=((rdP yb x0).Letter.getD 0 0).toNat/\((rdP yb x0).Letter.getD 0 0).toNat<=90])
 | _=>none
theorem yav:OkD Tryz.prog 62 D_zmd:=by unfold D_zmd;exact dk N62.den
def TmP (l:List Int) (n:Nat):Prop:=l.length<=n/\∀ v∈l,2<=v/\v<=40
theorem TmP.nil (n:Nat):TmP [] n:=⟨Nat.zero_le _,fun v h=>by cases h⟩
theorem TmP.snoc {l:List Int} {n m:Nat} {x:Int} (h:TmP l n) (h1:2<=x) (h2:x<=40) (hm:n+1<=m):TmP (l++[x]) m:=by
 refine⟨by rw[List.length_append,List.length_singleton];have:=h.1;omega,fun v hv => ?_⟩;rcases List.mem_append.1 hv with hv|hv
 ·exact h.2 v hv
 ·rw[List.mem_singleton]at hv;subst hv;exact⟨h1,h2⟩
theorem TmP.mono {l:List Int} {n m:Nat} (h:TmP l n) (hm:n<=m):TmP l m:=⟨Nat.le_trans h.1 hm,h.2⟩
theorem yvg (k:Int):3<=zk k/\zk k<=20:=by
 unfold zk;simp only[Bool.cond_eq_ite]
 (repeat' split)<;>decide
theorem ymi (k:Int):2<=zhb k/\zhb k<=20:=by
 unfold zhb;simp only[Bool.cond_eq_ite]
 (repeat' split)<;>decide
theorem ygv (a:Int):TmP (zo a) 4:=by
 refine⟨yvh a,?_⟩;unfold zo
 obtain⟨t,h1,h2⟩:=yl (b:=yvk a) (fun _ s=>∀ v∈s,2<=v/\v<=40) (k:=((([[46,45],[45,46,46,46],[45,46,45,46],[45,46,46],[46],[46,46,45,46],[45,45,46],[46,46,46,46],[46,46],[46,45,45,45],[45,46,45],[46,45,46,46],[45,45],[45,46],[45,45,45],[46,45,45,46],[45,45,46,45],[46,45,46],[46,46,46],[45],[46,46,45],[46,46,46,45],[46,45,45],[45,46,46,45],[45,46,45,45],[45,45,46,46]]:List (List UInt8)).getD ((IntKind.wrap .u8 (a-65)).toNat) default).length)-0) (i:=0) (s:=[]) (fun v h=>by cases h) (by
  intro j s _ _ hs;unfold yvk
  have e:∀ x:Int,2<=x->x<=40->∀ v∈s++[x],2<=v/\v<=40:=fun x h1 h2 v hv=>by
   rcases List.mem_append.1 hv with hv|hv
   ·exact hs v hv
   ·rw[List.mem_singleton]at hv;subst hv;exact⟨h1,h2⟩
  simp only[Bool.cond_eq_ite];split
  ·exact⟨_,rfl,e 5 (by decide) (by decide)⟩
  ·exact⟨_,rfl,e 15 (by decide) (by decide)⟩)
 rw[h1];exact h2
theorem y8n (b : Nat -> List Int -> Except (List Int) (List Int)) (f g : Int) (hf : 2 <= f /\ f <= 20) (hg : 3 <= g /\ g <= 20)
  (hb:∀ j s,b j s=.ok ((s++[g])++[f])\/b j s=.ok ((s++[IntKind.wrap .i64 (g+20)])++[f])\/b j s=.ok (s++[f])) (n:Nat) {s:List Int} {m:Nat} (hs:TmP s m) :
  ∃ t,yf b (n-0) 0 s=.ok t/\TmP t (m+2 * n):=by
 obtain⟨t,h1,h2⟩:=yl (b:=b) (fun j t=>TmP t (m+2 * j)) (k:=n-0) (i:=0) (s:=s) (hs.mono (by omega)) (by
  intro j t _ _ ht;have hw:IntKind.wrap .i64 (g+20)=g+20:=by rw[IntKind.wrap_i64];omega
  rcases hb j t with e|e|e
  ·exact⟨_,e,(ht.snoc (m:=m+2 * j+1) (by omega) (by omega) (by omega)).snoc (by omega) (by omega) (by omega)⟩
  ·rw[hw]at e
   exact⟨_,e,(ht.snoc (m:=m+2 * j+1) (by omega) (by omega) (by omega)).snoc (by omega) (by omega) (by omega)⟩
  ·exact⟨_,e,(ht.snoc (m:=m+2 * j+1) (by omega) (by omega) (by omega)).mono (by omega)⟩)
 exact⟨t,h1,h2.mono (by omega)⟩
theorem y1e (c:Character) (hl:c.Group.length<=4) (hv:∀ v∈c.Group,1<=v/\v<=9):TmP (za c) 100:=by
 have hf:=ymi c.Kind;have hg:=yvg c.Kind
 have fin:∀ {s:List Int},TmP s 90->TmP (bif (c.Letter == [76])then s++([(zk c.Kind),20]:List Int)else s) 100:=fun {s} h=>by
  cases(c.Letter == [76])with
  | true=>
   have h1:=(h.snoc (x:=zk c.Kind) (m:=91) (by omega) (by omega) (by omega)).snoc (x:=20) (m:=100) (by omega) (by omega) (by omega);rw[List.append_assoc]at h1;exact h1
  | false=>exact h.mono (by omega)
 unfold za
 cases(c.Kind == 8)with
 | true=>
  have hm:=ygv ((c.Letter.getD 0 0).toNat:Int)
  obtain⟨t,h1,h2⟩:=yl (b:=yig c) (fun j t=>TmP t (2 * j)) (k:=(zo ((c.Letter.getD 0 0).toNat:Int)).length-0) (i:=0) (s:=[]) (TmP.nil _) (by
   intro j t _ hj ht;have hx:=hm.2 _ (ysb (l:=zo ((c.Letter.getD 0 0).toNat:Int)) (i:=j) (by omega));unfold yig
   cases decide (0<(j:Int))with
   | true=>exact⟨_,rfl,(ht.snoc (m:=2 * j+1) (by omega) (by omega) (by omega)).snoc hx.1 hx.2 (by omega)⟩
   | false=>exact⟨_,rfl,(ht.snoc (m:=2 * j+1) hx.1 hx.2 (by omega)).mono (by omega)⟩)
  rw[cond_true,h1];exact h2.mono (by have:=hm.1;omega)
 | false=>
  rw[cond_false]
  cases hz:((c.Group.length:Int) == 0)with
  | true=>
   rw[cond_true]
   obtain⟨t,h1,h2⟩:=yl (b:=yne c) (fun j t=>TmP t (20 * j)) (k:=1-0) (i:=0) (s:=[]) (TmP.nil _) (by
    intro j t _ hj ht;have:j=0:=by omega
    subst this
    obtain⟨u,e1,e2⟩:=y8n (yzf c 0 t) (zhb c.Kind) (zk c.Kind) hf hg (fun j s=>by
     unfold yzf
     cases decide (0<(j:Int))with
     | true=>exact .inl rfl
     | false=>exact .inr (.inr rfl)) (([1]:List Int).getD 0 default).toNat ht
    unfold yne;rw[e1]
    exact⟨_,rfl,e2.mono (by decide)⟩)
   rw[h1];exact fin (h2.mono (by omega))
  | false=>
   rw[cond_false]
   obtain⟨t,h1,h2⟩:=yl (b:=yfg c) (fun j t=>TmP t (18 * j)) (k:=c.Group.length-0) (i:=0) (s:=[]) (TmP.nil _) (by
    intro j t _ hj ht;have hx:=hv _ (ysb (l:=c.Group) (i:=j) (by omega))
    obtain⟨u,e1,e2⟩:=y8n (yjg c j t) (zhb c.Kind) (zk c.Kind) hf hg (fun q s=>by
     unfold yjg
     cases decide (0<(q:Int))with
     | true=>exact .inl rfl
     | false=>
      cases decide (0<(j:Int))with
      | true=>exact .inr (.inl rfl)
      | false=>exact .inr (.inr rfl)) (c.Group.getD j default).toNat ht
    unfold yfg;rw[e1]
    exact⟨_,rfl,e2.mono (by omega)⟩)
   rw[h1];exact fin (h2.mono (by omega))
theorem ykt {l:List Int} {n:Nat} (h:TmP l n) (hn:n<=1000):zp l=l.sum/\2 * (l.length:Int)<=l.sum/\l.sum<=40 * (l.length:Int):=by
 have hs:∀ j,j<=l.length->2 * (j:Int)<=(l.take j).sum/\(l.take j).sum<=40 * (j:Int):=fun j=>by
  induction j with
  | zero=>intro _;simp
  | succ j ih=>
   intro hj;have:=ih (by omega);rw[y6b l j (by omega),List.sum_append];have hx:=h.2 _ (ysb (l:=l) (i:=j) (by omega));simp only[List.sum_cons,List.sum_nil];omega
 have hl:=h.1;have hs2:=hs l.length (Nat.le_refl _);rw[List.take_length]at hs2;refine⟨?_,hs2⟩;unfold zp
 obtain⟨t,h1,h2⟩:=yl (b:=yqq l) (fun j s=>s=(l.take j).sum) (k:=l.length-0) (i:=0) (s:=0) (by simp) (by
  rintro j _ _ hj rfl
  have hx:=h.2 _ (ysb (l:=l) (i:=j) (by omega));have h9:=hs j (by omega);refine⟨_,rfl,?_⟩;rw[y6b l j (by omega),List.sum_append];simp only[List.sum_cons,List.sum_nil];rw[IntKind.wrap_i64]
  omega)
 rw[h1,h2,show 0+(l.length-0)=l.length by omega,List.take_length]
def zwe (a0:Sector):Bool:=
 ((zb a0.From 0 359) && (zb a0.To 0 359))
namespace N103
theorem DD:DOk Tryz.prog (Go.Ab.DD [(29,dP D_zb)]):=ya yfd.e <| ye _
theorem dn:type_of% (@D_zb.eq_1):=by and_intros<;>intros<;>rfl
theorem ol:type_of% (@zb.eq_1):=@zb.eq_1
theorem den (a0:Sector)  : Den Tryz.prog 103 [.ep (eSector a0)] (.bool (zwe a0)):=by
 generalize hR:zwe a0=r;unfold zwe at hR;refine di Tryz.func103 Tryz.ntmps103 Tryz.results103 ?_;intro c hL hc hk;obtain⟨hL0,_⟩:=hL;have hw0:bwSector a0:=yr a0 hL0;clear hL0;simp only[pars,Nat.zero_add];iterate 2 refine rS ?_
 refine AWP.ret ?_;subst hR;exact es
end N103
def D_zwe : DF
 | [x0]=>some (.bool (zwe (rdP yp x0)),false,[wP eSector yp x0])
 | _=>none
theorem ylt:OkD Tryz.prog 103 D_zwe:=by unfold D_zwe;exact dk N103.den
def zxd (a0:(List UInt8)):Bool:=
 ((((a0 == [87]) || (a0 == [82])) || (a0 == [71])) || (a0 == [89]))
namespace N104
theorem DD:DOk Tryz.prog (Go.Ab.DD []):=ye _
theorem den (a0:(List UInt8))  : Den Tryz.prog 104 [.str a0] (.bool (zxd a0)):=by
 generalize hR:zxd a0=r;unfold zxd at hR;refine di Tryz.func104 Tryz.ntmps104 Tryz.results104 ?_;intro c hL hc hk;obtain⟨hL0,_⟩:=hL;have hw0:a0.length<9223372036854775808:=Nat.lt_succ_of_le hL0;clear hL0;simp only[pars,Nat.zero_add];iterate 2 refine rS ?_
 refine AWP.ret ?_;subst hR;exact es
end N104
def D_zxd : DF
 | [x0]=>some (.bool (zxd (rdS x0)),false,[wS x0])
 | _=>none
theorem yfv:OkD Tryz.prog 104 D_zxd:=by unfold D_zxd;exact dk N104.den
def zrc (a0:Sector):Bool:=
 ((zwe a0) && (zxd a0.Color))
namespace N63
theorem DD:DOk Tryz.prog (Go.Ab.DD [(103,dP D_zwe),(104,dP D_zxd)]):=ya ylt.e <| ya yfv.e <| ye _
theorem dn:type_of% (And.intro @D_zwe.eq_1 <| @D_zxd.eq_1):=by and_intros<;>intros<;>rfl
theorem den (a0:Sector)  : Den Tryz.prog 63 [.ep (eSector a0)] (.bool (zrc a0)):=by
 generalize hR:zrc a0=r;unfold zrc at hR;refine di Tryz.func63 Tryz.ntmps63 Tryz.results63 ?_;intro c hL hc hk;obtain⟨hL0,_⟩:=hL;have hw0:bwSector a0:=yr a0 hL0;clear hL0;simp only[pars,Nat.zero_add];iterate 2 refine rS ?_
 refine AWP.ret ?_;subst hR;exact es
end N63
def D_zrc : DF
 | [x0]=>some (.bool (zrc (rdP yp x0)),false,[wP eSector yp x0])
 | _=>none
theorem yit:OkD Tryz.prog 63 D_zrc:=by unfold D_zrc;exact dk N63.den
def zxe (a0:Sector):Int:=
 (bif (((IntKind.wrap .i64 ((IntKind.wrap .i64 (a0.To-a0.From))+360)).tmod 360) == 0)then 360 else(IntKind.wrap .i64 ((IntKind.wrap .i64 (a0.To-a0.From))+360)).tmod 360)
namespace N64
theorem DD:DOk Tryz.prog (Go.Ab.DD []):=ye _
theorem den (a0:Sector)  : Den Tryz.prog 64 [.ep (eSector a0)] (.int .i64 (zxe a0)):=by
 generalize hR:zxe a0=r;unfold zxe at hR;refine di Tryz.func64 Tryz.ntmps64 Tryz.results64 ?_;intro c hL hc hk;obtain⟨hL0,_⟩:=hL;have hw0:bwSector a0:=yr a0 hL0;clear hL0;simp only[pars,Nat.zero_add];refine rS ?_;refine rD 11 ?_;refine rS ?_;refine AWP.cond rfl (fun hb => ?_) (fun hb => ?_)
 ·replace hR:=ct hR
  refine rS ?_;refine AWP.ret ?_;subst hR;exact es
 ·replace hR:=cf hR
  refine rS ?_;refine AWP.ret ?_;subst hR;exact es
end N64
def D_zxe : DF
 | [x0]=>some (.int .i64 (zxe (rdP yp x0)),false,[wP eSector yp x0])
 | _=>none
theorem ygt:OkD Tryz.prog 64 D_zxe:=by unfold D_zxe;exact dk N64.den
def y3p (a0:(List Sector)) (i1:Nat) (s1:Unit):Except (Bool) (Unit):=
 (bif ((!(zrc (a0.getD i1 default))) || (decide (0<(i1:Int)) && decide (((a0.getD i1 default).From)<=((a0.getD ((IntKind.wrap .i64 ((i1:Int)-1)).toNat) default).From))))then .error false else .ok ())
def y5m (a0:(List Sector)) (s1:Unit) (s2:Int):Except (Sum (Bool) (Int)) (Int):=
 (bif (decide (s2<(a0.length:Int)) && decide (1<(a0.length:Int)))then(bif decide (((IntKind.wrap .i64 ((IntKind.wrap .i64 (((a0.getD (((IntKind.wrap .i64 (s2+1)).tmod (a0.length:Int)).toNat) default).From)-((a0.getD ((s2).toNat) default).From)))+360)).tmod 360)<(zxe (a0.getD ((s2).toNat) default)))then .error (.inl false)else .ok (IntKind.wrap .i64 (s2+1)))else .error (.inr s2))
def zu (a0:(List Sector)):Bool:=
 (bif decide (12<(a0.length:Int))then false else(match yf (y3p a0) (a0.length-0) 0 ()with|.error e=>e|.ok s1=>(match ync (y5m a0 s1) ((a0.length-((0:Int)).toNat)+1) 0 with|.error (.inl e)=>e|.error (.inr s2)=>true|.ok _=>default)))
namespace N35
theorem DD:DOk Tryz.prog (Go.Ab.DD [(63,dP D_zrc),(64,dP D_zxe)]):=ya yit.e <| ya ygt.e <| ye _
theorem dn:type_of% (And.intro @D_zrc.eq_1 <| @D_zxe.eq_1):=by and_intros<;>intros<;>rfl
theorem o0 {p:Prop} (h:p:=by(first|(have hb2:=hb;simp only[Bool.and_eq_true,decide_eq_true_eq]at hb2;have h9:=ytz hW2.1 hb2.1 (by omega);and_intros<;>first|omega|exact h9.1|exact h9.2));first|done|fail):p:=h
theorem den (a0:(List Sector))  : Den Tryz.prog 35 [encL 3 eSector a0] (.bool (zu a0)):=by
 generalize hR:zu a0=r;unfold zu at hR;refine di Tryz.func35 Tryz.ntmps35 Tryz.results35 ?_;intro c hL hc hk;obtain⟨hL0,_⟩:=hL;have hw0:a0.length<9223372036854775808:=Nat.lt_succ_of_le (yd hL0).1;have hw1:∀ v∈a0,bwSector v:=fun v hv=>yr v ((yd hL0).2 v hv)
 clear hL0;simp only[pars,Nat.zero_add];iterate 3 refine rS ?_
 refine AWP.cond rfl (fun hb => ?_) (fun hb => ?_)
 ·replace hR:=ct hR
  refine rS ?_;refine AWP.ret ?_;subst hR;exact es
 ·replace hR:=cf hR
  refine rS ?_;refine AWP.block ?_;generalize hz1:yf (y3p a0) (a0.length-0) 0 ()=z1 at hR;refine AWP.range (y3p a0) (fun i1 s1=>⟨[(0,encL 3 eSector a0),(3,.int .i64 (a0.length:Int)),(4,.int .i64 (i1:Int))],[]⟩) (fun i1 s1=>True) (a0.length) 0 () [] hz1 ot wt sm ?_;clear hz1;intro i1 s1 hi1 hW1 hz1;refine rS ?_;refine AWP.cond rfl (fun hb => ?_) (fun hb => ?_)
  ·have hlt1:i1<a0.length:=ot
   rw[yg hlt1]at hz1;simp only[y3p]at hz1;refine rD 23 ?_;refine AWP.cond rfl (fun hb => ?_) (fun hb => ?_)
   ·simp only[hb,cond_true]at hz1
    refine rS ?_;refine AWP.ret ?_;subst hz1;dsimp only at hR;subst hR;exact es
   ·simp only[hb,cond_false]at hz1
    refine rS ?_;exact⟨_,[],hlt1,wt,hz1,sm⟩
  ·obtain rfl:i1=a0.length:=ot
   rw[yh (Nat.le_refl _)]at hz1;subst hz1;dsimp only at hR;refine AWP.exit ?_;refine yc ?_;refine rS ?_;refine AWP.block ?_;generalize hz2:ync (y5m a0 s1) ((a0.length-((0:Int)).toNat)+1) 0=z2 at hR;refine AWP.whileW (y5m a0 s1) (fun s2=>⟨[(0,encL 3 eSector a0),(3,.int .i64 (a0.length:Int)),(5,.int .i64 s2)],[]⟩) (fun s2=>0<=s2/\s2<=a0.length) (fun s2=>a0.length-(s2).toNat) ((a0.length-((0:Int)).toNat)+1) 0 [] hz2 m0 wt sm ?_;clear hz2;intro s2 k2 hW2 hm2 hz2;simp only[y5m]at hz2;refine rS ?_;refine AWP.cond rfl (fun hb => ?_) (fun hb => ?_)
   ·simp only[hb,cond_true]at hz2
    refine rD 21 ?_;refine AWP.cond rfl (fun hb => ?_) (fun hb => ?_)
    ·simp only[hb,cond_true]at hz2
     refine rS ?_;refine AWP.ret ?_;subst hz2;dsimp only at hR;subst hR;exact es
    ·simp only[hb,cond_false]at hz2
     refine rS ?_;exact⟨_,[],ms,wt,hz2,sm⟩
   ·simp only[hb,cond_false]at hz2
    refine AWP.exit ?_;refine yc ?_;subst hz2;dsimp only at hR;refine rS ?_;refine AWP.ret ?_;subst hR;exact es
end N35
def D_zu : DF
 | [x0]=>some (.bool (zu (rdL yp x0)),false,[wL 3 eSector yp x0])
 | _=>none
theorem ymy:OkD Tryz.prog 35 D_zu:=by unfold D_zu;exact dk N35.den
def ygl (a0:(List Sector)) (i1:Nat) (s1:List UInt8) (i2:Nat) (s2:List UInt8):Except (Sum ((List UInt8)) (List UInt8)) (List UInt8):=
 (bif (((a0.getD i2 default).Color) == ([[87],[82],[71],[89]].getD i1 default))then .error (.inr (s2++([[87],[82],[71],[89]].getD i1 default)))else .ok s2)
def yzi (a0:(List Sector)) (i1:Nat) (s1:List UInt8):Except ((List UInt8)) (List UInt8):=
 (match yf (ygl a0 i1 s1) (a0.length-0) 0 s1 with|.error (.inl e)=>.error e|.error (.inr s2)=>.ok s2|.ok s2=>.ok s2)
def zob (a0:(List Sector)):(List UInt8):=
 (match yf (yzi a0) (4-0) 0 []with|.error e=>e|.ok s1=>s1)
namespace N36
theorem DD:DOk Tryz.prog (Go.Ab.DD []):=ye _
theorem o0 {p:Prop} (h:p:=by(first|(have h4:=hq4 i1;have h1:=hW1;have h2:=hW2;and_intros<;>omega));first|done|fail):p:=h
theorem lx {p:Prop} (h:p:=by(exact lxx);first|done|fail):p:=h
theorem den (a0:(List Sector)) (hb0:a0.length<1099511627776) (hb1:∀ v∈a0,bdSector v):Den Tryz.prog 36 [encL 3 eSector a0] (.str (zob a0)):=by
 generalize hR:zob a0=r;unfold zob at hR;refine di Tryz.func36 Tryz.ntmps36 Tryz.results36 ?_;intro c hL hc hk;obtain⟨hL0,_⟩:=hL;have hw0:a0.length<9223372036854775808:=Nat.lt_succ_of_le (yd hL0).1;have hw1:∀ v∈a0,bwSector v:=fun v hv=>yr v ((yd hL0).2 v hv)
 clear hL0;simp only[pars,Nat.zero_add];have hq4:∀ i:Nat,(([[87],[82],[71],[89]]:List (List UInt8)).getD i default).length<=1:=fun i=>by rcases i with _|_|_|_|i<;>first|exact Nat.le_refl _|exact Nat.zero_le _
 iterate 4 refine rS ?_
 refine AWP.block ?_;generalize hz1:yf (yzi a0) (4-0) 0 []=z1 at hR;refine AWP.range (yzi a0) (fun i1 s1=>⟨[(0,encL 3 eSector a0),(3,.str s1),(4,.ref 0 1 0 4),(5,.int .i64 (i1:Int))],[.arr 9 1 [[87],[82],[71],[89]].length (fun j=>eS ([[87],[82],[71],[89]].getD j default))]⟩) (fun i1 s1=>s1.length<=i1) (4) 0 [] [0] hz1 ot (by(simp)) sm ?_;clear hz1;intro i1 s1 hi1 hW1 hz1;refine rS ?_;refine AWP.cond rfl (fun hb => ?_) (fun hb => ?_)
 ·have hlt1:i1<4:=ot
  rw[yg hlt1]at hz1;simp only[yzi]at hz1;refine rS ?_;refine AWP.block ?_;generalize hz2:yf (ygl a0 i1 s1) (a0.length-0) 0 s1=z2 at hz1;refine AWP.range (ygl a0 i1 s1) (fun i2 s2=>⟨[(0,encL 3 eSector a0),(3,.str s2),(4,.ref 0 1 0 4),(5,.int .i64 (i1:Int)),(6,.int .i64 (i2:Int))],[.arr 9 1 [[87],[82],[71],[89]].length (fun j=>eS ([[87],[82],[71],[89]].getD j default))]⟩) (fun i2 s2=>s2.length<=i1) (a0.length) 0 s1 [0] hz2 ot (by(exact hW1)) sm ?_;clear hz2;intro i2 s2 hi2 hW2 hz2;refine rS ?_;refine AWP.cond rfl (fun hb => ?_) (fun hb => ?_)
  ·have hlt2:i2<a0.length:=ot
   rw[yg hlt2]at hz2;simp only[ygl]at hz2;refine rD 9 ?_;refine AWP.cond rfl (fun hb => ?_) (fun hb => ?_)
   ·simp only[hb,cond_true]at hz2
    refine rS ?_;refine AWP.exit ?_;refine ymd rfl ?_;refine yc ?_;subst hz2;dsimp only at hz1;refine rS ?_;exact⟨_,[0],hlt1,by(have h4:=hq4 i1;simp only[ln]at *;omega),hz1,sm⟩
   ·simp only[hb,cond_false]at hz2
    refine rS ?_;exact⟨_,[0],hlt2,by(first|exact hW2|assumption),hz2,sm⟩
  ·obtain rfl:i2=a0.length:=ot
   rw[yh (Nat.le_refl _)]at hz2;subst hz2;dsimp only at hz1;refine AWP.exit ?_;refine yc ?_;refine rS ?_;exact⟨_,[0],hlt1,by(have h4:=hq4 i1;simp only[ln]at *;omega),hz1,sm⟩
 ·obtain rfl:i1=4:=ot
  rw[yh (Nat.le_refl _)]at hz1;subst hz1;dsimp only at hR;refine AWP.exit ?_;refine yc ?_;refine rS ?_;refine AWP.ret ?_;subst hR;exact es
end N36
def D_zob : DF
 | [x0]=>some (.str (zob (rdL yp x0)),false,[wL 3 eSector yp x0,(rdL yp x0).length<1099511627776,∀ v∈(rdL yp x0),bdSector v])
 | _=>none
theorem ypt:OkD Tryz.prog 36 D_zob:=by unfold D_zob;exact dk N36.den
def ylm (a0:(List UInt8)) (a1:(List UInt8)) (i1:Nat) (s1:Unit):Except (Bool) (Unit):=
 (bif (((a0.take ((IntKind.wrap .i64 ((i1:Int)+1)).toNat)).drop i1) == a1)then .error true else .ok ())
def zdd (a0:(List UInt8)) (a1:(List UInt8)):Bool:=
 (match yf (ylm a0 a1) (a0.length-0) 0 ()with|.error e=>e|.ok s1=>false)
namespace N65
theorem DD:DOk Tryz.prog (Go.Ab.DD []):=ye _
theorem den (a0:(List UInt8)) (a1:(List UInt8))  : Den Tryz.prog 65 [.str a0,.str a1] (.bool (zdd a0 a1)):=by
 generalize hR:zdd a0 a1=r;unfold zdd at hR;refine di Tryz.func65 Tryz.ntmps65 Tryz.results65 ?_;intro c hL hc hk;obtain⟨hL0,hL1,_⟩:=hL;have hw0:a0.length<9223372036854775808:=Nat.lt_succ_of_le hL0;have hw1:a1.length<9223372036854775808:=Nat.lt_succ_of_le hL1;clear hL0 hL1;simp only[pars,Nat.zero_add];iterate 2 refine rS ?_
 refine AWP.block ?_;generalize hz1:yf (ylm a0 a1) (a0.length-0) 0 ()=z1 at hR;refine AWP.range (ylm a0 a1) (fun i1 s1=>⟨[(0,.str a0),(1,.str a1),(5,.int .i64 (i1:Int))],[]⟩) (fun i1 s1=>True) (a0.length) 0 () [] hz1 ot wt sm ?_;clear hz1;intro i1 s1 hi1 hW1 hz1;refine rS ?_;refine AWP.cond rfl (fun hb => ?_) (fun hb => ?_)
 ·have hlt1:i1<a0.length:=ot
  rw[yg hlt1]at hz1;simp only[ylm]at hz1;refine rS ?_;refine AWP.cond rfl (fun hb => ?_) (fun hb => ?_)
  ·simp only[hb,cond_true]at hz1
   refine rS ?_;refine AWP.ret ?_;subst hz1;dsimp only at hR;subst hR;exact es
  ·simp only[hb,cond_false]at hz1
   refine rS ?_;exact⟨_,[],hlt1,wt,hz1,sm⟩
 ·obtain rfl:i1=a0.length:=ot
  rw[yh (Nat.le_refl _)]at hz1;subst hz1;dsimp only at hR;refine AWP.exit ?_;refine yc ?_;refine rS ?_;refine AWP.ret ?_;subst hR;exact es
end N65
def D_zdd : DF
 | [x0,x1]=>some (.bool (zdd (rdS x0) (rdS x1)),false,[wS x0,wS x1])
 | _=>none
theorem yku:OkD Tryz.prog 65 D_zdd:=by unfold D_zdd;exact dk N65.den
def zsc (a0:Int):Bool:=
 (zb a0 1 9)
namespace N93
theorem DD:DOk Tryz.prog (Go.Ab.DD [(29,dP D_zb)]):=ya yfd.e <| ye _
theorem dn:type_of% (@D_zb.eq_1):=by and_intros<;>intros<;>rfl
theorem ol:type_of% (@zb.eq_1):=@zb.eq_1
theorem den (a0:Int)  : Den Tryz.prog 93 [.int .i64 a0] (.bool (zsc a0)):=by
 generalize hR:zsc a0=r;unfold zsc at hR;refine di Tryz.func93 Tryz.ntmps93 Tryz.results93 ?_;intro c hL hc hk;clear hL;simp only[pars,Nat.zero_add];iterate 2 refine rS ?_
 refine AWP.ret ?_;subst hR;exact es
end N93
def D_zsc : DF
 | [x0]=>some (.bool (zsc (rdI x0)),false,[wI .i64 x0])
 | _=>none
theorem y6t:OkD Tryz.prog 93 D_zsc:=by unfold D_zsc;exact dk N93.den
def zne (a0:Int):(List UInt8):=
 (([[],[82],[71],[66,89],[66,89,66],[89,66],[89,66,89],[66,82,66],[82,87],[89]]:List (List UInt8)).getD ((a0).toNat) default)
namespace N94
theorem DD:DOk Tryz.prog (Go.Ab.DD []):=ye _
theorem lx {p:Prop} (h:p:=by(exact lxx);first|done|fail):p:=h
theorem den (a0:Int) (hp0:0<=a0) (hp1:a0<=9):Den Tryz.prog 94 [.int .i64 a0] (.str (zne a0)):=by
 generalize hR:zne a0=r;unfold zne at hR;refine di Tryz.func94 Tryz.ntmps94 Tryz.results94 ?_;intro c hL hc hk;clear hL;simp only[pars,Nat.zero_add];iterate 2 refine rS ?_
 refine AWP.ret ?_;subst hR;exact es
end N94
def D_zne : DF
 | [x0]=>some (.str (zne (rdI x0)),false,[wI .i64 x0,0<=(rdI x0),(rdI x0)<=9])
 | _=>none
theorem ytt:OkD Tryz.prog 94 D_zne:=by unfold D_zne;exact dk N94.den
def zoe (a0:Int):(List UInt8):=
 (([[],[99,97,110],[99,111,110,101],[117,112],[98,97,115,101],[100,111,119,110],[112,111,105,110,116],[98,97,108,108,115],[98,97,108,108],[99,114,111,115,115]]:List (List UInt8)).getD ((a0).toNat) default)
namespace N95
theorem DD:DOk Tryz.prog (Go.Ab.DD []):=ye _
theorem lx {p:Prop} (h:p:=by(exact lxx);first|done|fail):p:=h
theorem den (a0:Int) (hp0:0<=a0) (hp1:a0<=9):Den Tryz.prog 95 [.int .i64 a0] (.str (zoe a0)):=by
 generalize hR:zoe a0=r;unfold zoe at hR;refine di Tryz.func95 Tryz.ntmps95 Tryz.results95 ?_;intro c hL hc hk;clear hL;simp only[pars,Nat.zero_add];iterate 2 refine rS ?_
 refine AWP.ret ?_;subst hR;exact es
end N95
def D_zoe : DF
 | [x0]=>some (.str (zoe (rdI x0)),false,[wI .i64 x0,0<=(rdI x0),(rdI x0)<=9])
 | _=>none
theorem y1w:OkD Tryz.prog 95 D_zoe:=by unfold D_zoe;exact dk N95.den
def zeb (a0:Int):(List (List UInt8)):=
 (bif (a0 == 1)then[[99,97,110],[112,105,108,108,97,114],[115,112,97,114]]else(bif (a0 == 2)then[[99,111,110,101],[112,105,108,108,97,114],[115,112,97,114]]else(bif (a0 == 8)then[[115,112,104,101,114,101],[112,105,108,108,97,114],[115,112,97,114]]else(bif (a0 == 9)then[[99,97,110],[99,111,110,101],[112,105,108,108,97,114],[115,112,97,114],[115,112,104,101,114,101]]else[[112,105,108,108,97,114],[115,112,97,114]]))))
namespace N96
theorem DD:DOk Tryz.prog (Go.Ab.DD []):=ye _
theorem lx {p:Prop} (h:p:=by(exact lxx);first|done|fail):p:=h
theorem den (a0:Int)  : Den Tryz.prog 96 [.int .i64 a0] (ownL 9 1 eS (zeb a0)):=by
 generalize hR:zeb a0=r;unfold zeb at hR;refine di Tryz.func96 Tryz.ntmps96 Tryz.results96 ?_;intro c hL hc hk;clear hL;simp only[pars,Nat.zero_add];iterate 3 refine rS ?_
 refine AWP.cond rfl (fun hb => ?_) (fun hb => ?_)
 ·replace hR:=ct hR
  refine rS ?_;refine AWP.ret ?_;subst hR;exact es
 ·replace hR:=cf hR
  refine rS ?_;refine AWP.cond rfl (fun hb => ?_) (fun hb => ?_)
  ·replace hR:=ct hR
   refine rS ?_;refine AWP.ret ?_;subst hR;exact es
  ·replace hR:=cf hR
   refine rS ?_;refine AWP.cond rfl (fun hb => ?_) (fun hb => ?_)
   ·replace hR:=ct hR
    refine rS ?_;refine AWP.ret ?_;subst hR;exact es
   ·replace hR:=cf hR
    refine rS ?_;refine AWP.cond rfl (fun hb => ?_) (fun hb => ?_)
    ·replace hR:=ct hR
     refine rS ?_;refine AWP.ret ?_;subst hR;exact es
    ·replace hR:=cf hR
     refine rS ?_;refine AWP.ret ?_;subst hR;exact es
end N96
def D_zeb : DF
 | [x0]=>some (ownL 9 1 eS (zeb (rdI x0)),false,[wI .i64 x0])
 | _=>none
theorem yiv:OkD Tryz.prog 96 D_zeb:=by unfold D_zeb;exact dk N96.den
def yqh (a0:Mark) (i1:Nat) (s1:Unit):Except (Bool) (Unit):=
 (bif (((zeb a0.Kind).getD i1 default) == a0.Shape)then .error true else .ok ())
def zyc (a0:Mark):Bool:=
 (bif (a0.Kind == 0)then(a0.Kind == 0 && (a0.Colors == [] && (a0.Shape == [] && a0.Topmark == [])))else(bif (((!(zsc a0.Kind)) || (a0.Colors != (zne a0.Kind))) || ((a0.Topmark != []) && (a0.Topmark != (zoe a0.Kind))))then false else(match yf (yqh a0) (((zeb a0.Kind).length)-0) 0 ()with|.error e=>e|.ok s1=>false)))
namespace N59
theorem DD:DOk Tryz.prog (Go.Ab.DD [(93,dP D_zsc),(94,dP D_zne),(95,dP D_zoe),(96,dP D_zeb)]):=ya y6t.e <| ya ytt.e <| ya y1w.e <| ya yiv.e <| ye _
theorem dn:type_of% (And.intro @D_zsc.eq_1 <| And.intro @D_zne.eq_1 <| And.intro @D_zoe.eq_1 <| @D_zeb.eq_1):=by and_intros<;>intros<;>rfl
theorem o0 {p:Prop} (h:p:=by(first|(simp only[zsc,zb];refine⟨fun h => ?_,fun h _ => ?_⟩<;>(simp at h;omega)));first|done|fail):p:=h
theorem den (a0:Mark)  : Den Tryz.prog 59 [.ep (eMark a0)] (.bool (zyc a0)):=by
 generalize hR:zyc a0=r;unfold zyc at hR;refine di Tryz.func59 Tryz.ntmps59 Tryz.results59 ?_;intro c hL hc hk;obtain⟨hL0,_⟩:=hL;have hw0:bwMark a0:=yec a0 hL0;clear hL0;simp only[pars,Nat.zero_add];have hs5:(zeb a0.Kind).length<=5:=by unfold zeb;simp only[Bool.cond_eq_ite];(repeat' split)<;>simp
 iterate 2 refine rS ?_
 refine AWP.cond rfl (fun hb => ?_) (fun hb => ?_)
 ·replace hR:=ct hR
  refine rS ?_;refine AWP.ret ?_;subst hR;exact es
 ·replace hR:=cf hR
  refine rD 37 ?_;refine AWP.cond rfl (fun hb => ?_) (fun hb => ?_)
  ·replace hR:=ct hR
   refine rS ?_;refine AWP.ret ?_;subst hR;exact es
  ·replace hR:=cf hR
   iterate 2 refine rS ?_
   refine AWP.block ?_;generalize hz1:yf (yqh a0) (((zeb a0.Kind).length)-0) 0 ()=z1 at hR;refine AWP.range (yqh a0) (fun i1 s1=>⟨[(0,.ep (eMark a0)),(3,.ref 0 1 0 ((zeb a0.Kind).length)),(4,.int .i64 (i1:Int))],[.arr 9 1 (zeb a0.Kind).length (fun j=>eS ((zeb a0.Kind).getD j default))]⟩) (fun i1 s1=>True) (((zeb a0.Kind).length)) 0 () [0] hz1 ot wt sm ?_;clear hz1;intro i1 s1 hi1 hW1 hz1;refine rS ?_;refine AWP.cond rfl (fun hb => ?_) (fun hb => ?_)
   ·have hlt1:i1<((zeb a0.Kind).length):=ot
    rw[yg hlt1]at hz1;simp only[yqh]at hz1;refine rD 8 ?_;refine AWP.cond rfl (fun hb => ?_) (fun hb => ?_)
    ·simp only[hb,cond_true]at hz1
     refine rS ?_;refine AWP.ret ?_;subst hz1;dsimp only at hR;subst hR;exact es
    ·simp only[hb,cond_false]at hz1
     refine rS ?_;exact⟨_,[0],hlt1,wt,hz1,sm⟩
   ·obtain rfl:i1=((zeb a0.Kind).length):=ot
    rw[yh (Nat.le_refl _)]at hz1;subst hz1;dsimp only at hR;refine AWP.exit ?_;refine yc ?_;refine rS ?_;refine AWP.ret ?_;subst hR;exact es
end N59
def D_zyc : DF
 | [x0]=>some (.bool (zyc (rdP yzd x0)),false,[wP eMark yzd x0])
 | _=>none
theorem y0t:OkD Tryz.prog 59 D_zyc:=by unfold D_zyc;exact dk N59.den
def zfd (a0:Mark):Bool:=
 (zyc a0)
namespace N32
theorem DD:DOk Tryz.prog (Go.Ab.DD [(59,dP D_zyc)]):=ya y0t.e <| ye _
theorem dn:type_of% (@D_zyc.eq_1):=by and_intros<;>intros<;>rfl
theorem den (a0:Mark)  : Den Tryz.prog 32 [.agg (eMark a0)] (.bool (zfd a0)):=by
 generalize hR:zfd a0=r;unfold zfd at hR;refine di Tryz.func32 Tryz.ntmps32 Tryz.results32 ?_;intro c hL hc hk;obtain⟨hL0,_⟩:=hL;have hw0:bwMark a0:=yec a0 hL0;clear hL0;simp only[pars,Nat.zero_add];iterate 2 refine rS ?_
 refine AWP.ret ?_;subst hR;exact es
end N32
def D_zfd : DF
 | [x0]=>some (.bool (zfd (rdG yzd x0)),false,[wG eMark yzd x0])
 | _=>none
theorem yev:OkD Tryz.prog 32 D_zfd:=by unfold D_zfd;exact dk N32.den
def zgd (a0:Int):Bool:=
 (decide (97<=a0) && decide (a0<=122))
namespace N57
theorem DD:DOk Tryz.prog (Go.Ab.DD []):=ye _
theorem den (a0:Int)  : Den Tryz.prog 57 [.int .u8 a0] (.bool (zgd a0)):=by
 generalize hR:zgd a0=r;unfold zgd at hR;refine di Tryz.func57 Tryz.ntmps57 Tryz.results57 ?_;intro c hL hc hk;clear hL;simp only[pars,Nat.zero_add];iterate 2 refine rS ?_
 refine AWP.ret ?_;subst hR;exact es
end N57
def D_zgd : DF
 | [x0]=>some (.bool (zgd (rdI x0)),false,[wI .u8 x0])
 | _=>none
theorem yju:OkD Tryz.prog 57 D_zgd:=by unfold D_zgd;exact dk N57.den
def zye (a0:Int):Bool:=
 (decide (48<=a0) && decide (a0<=57))
namespace N58
theorem DD:DOk Tryz.prog (Go.Ab.DD []):=ye _
theorem den (a0:Int)  : Den Tryz.prog 58 [.int .u8 a0] (.bool (zye a0)):=by
 generalize hR:zye a0=r;unfold zye at hR;refine di Tryz.func58 Tryz.ntmps58 Tryz.results58 ?_;intro c hL hc hk;clear hL;simp only[pars,Nat.zero_add];iterate 2 refine rS ?_
 refine AWP.ret ?_;subst hR;exact es
end N58
def D_zye : DF
 | [x0]=>some (.bool (zye (rdI x0)),false,[wI .u8 x0])
 | _=>none
theorem yaw:OkD Tryz.prog 58 D_zye:=by unfold D_zye;exact dk N58.den
def yro (a0:(List UInt8)) (i1:Nat) (s1:Unit):Except (Bool) (Unit):=
 (bif ((!(zgd ((a0.getD i1 0).toNat:Int))) && (!(zye ((a0.getD i1 0).toNat:Int))))then .error false else .ok ())
def zac (a0:(List UInt8)):Bool:=
 (bif (((a0 == []) || decide (10<(a0.length:Int))) || (!(zgd ((a0.getD 0 0).toNat:Int))))then false else(match yf (yro a0) (a0.length-0) 0 ()with|.error e=>e|.ok s1=>true))
namespace N30
theorem DD:DOk Tryz.prog (Go.Ab.DD [(57,dP D_zgd),(58,dP D_zye)]):=ya yju.e <| ya yaw.e <| ye _
theorem dn:type_of% (And.intro @D_zgd.eq_1 <| @D_zye.eq_1):=by and_intros<;>intros<;>rfl
theorem den (a0:(List UInt8))  : Den Tryz.prog 30 [.str a0] (.bool (zac a0)):=by
 generalize hR:zac a0=r;unfold zac at hR;refine di Tryz.func30 Tryz.ntmps30 Tryz.results30 ?_;intro c hL hc hk;obtain⟨hL0,_⟩:=hL;have hw0:a0.length<9223372036854775808:=Nat.lt_succ_of_le hL0;clear hL0;simp only[pars,Nat.zero_add];iterate 2 refine rS ?_
 refine AWP.cond rfl (fun hb => ?_) (fun hb => ?_)
 ·replace hR:=ct hR
  refine rS ?_;refine AWP.ret ?_;subst hR;exact es
 ·replace hR:=cf hR
  refine rS ?_;refine AWP.block ?_;generalize hz1:yf (yro a0) (a0.length-0) 0 ()=z1 at hR;refine AWP.range (yro a0) (fun i1 s1=>⟨[(0,.str a0),(3,.int .i64 (i1:Int))],[]⟩) (fun i1 s1=>True) (a0.length) 0 () [] hz1 ot wt sm ?_;clear hz1;intro i1 s1 hi1 hW1 hz1;refine rS ?_;refine AWP.cond rfl (fun hb => ?_) (fun hb => ?_)
  ·have hlt1:i1<a0.length:=ot
   rw[yg hlt1]at hz1;simp only[yro]at hz1;refine rS ?_;refine AWP.cond rfl (fun hb => ?_) (fun hb => ?_)
   ·simp only[hb,cond_true]at hz1
    refine rS ?_;refine AWP.ret ?_;subst hz1;dsimp only at hR;subst hR;exact es
   ·simp only[hb,cond_false]at hz1
    refine rS ?_;exact⟨_,[],hlt1,wt,hz1,sm⟩
  ·obtain rfl:i1=a0.length:=ot
   rw[yh (Nat.le_refl _)]at hz1;subst hz1;dsimp only at hR;refine AWP.exit ?_;refine yc ?_;refine rS ?_;refine AWP.ret ?_;subst hR;exact es
end N30
def D_zac : DF
 | [x0]=>some (.bool (zac (rdS x0)),false,[wS x0])
 | _=>none
theorem yuw:OkD Tryz.prog 30 D_zac:=by unfold D_zac;exact dk N30.den
def znd (a0:Point):Bool:=
 ((zb a0.X 0 200000) && (zb a0.Y 0 200000))
namespace N31
theorem DD:DOk Tryz.prog (Go.Ab.DD [(29,dP D_zb)]):=ya yfd.e <| ye _
theorem dn:type_of% (@D_zb.eq_1):=by and_intros<;>intros<;>rfl
theorem ol:type_of% (@zb.eq_1):=@zb.eq_1
theorem den (a0:Point)  : Den Tryz.prog 31 [.agg (ePoint a0)] (.bool (znd a0)):=by
 generalize hR:znd a0=r;unfold znd at hR;refine di Tryz.func31 Tryz.ntmps31 Tryz.results31 ?_;intro c hL hc hk;clear hL;simp only[pars,Nat.zero_add];iterate 2 refine rS ?_
 refine AWP.ret ?_;subst hR;exact es
end N31
def D_znd : DF
 | [x0]=>some (.bool (znd (rdG yjd x0)),false,[wG ePoint yjd x0])
 | _=>none
theorem yxw:OkD Tryz.prog 31 D_znd:=by unfold D_znd;exact dk N31.den
def zzc (a0:Character):Bool:=
 (((((a0.Kind == 0) && ((a0.Group.length:Int) == 0)) && (a0.Letter == [])) && (a0.Colors == [])) && (a0.Period == 0))
namespace N33
theorem DD:DOk Tryz.prog (Go.Ab.DD []):=ye _
theorem den (a0:Character)  : Den Tryz.prog 33 [.ep (eCharacter a0)] (.bool (zzc a0)):=by
 generalize hR:zzc a0=r;unfold zzc at hR;refine di Tryz.func33 Tryz.ntmps33 Tryz.results33 ?_;intro c hL hc hk;obtain⟨hL0,_⟩:=hL;have hw0:bwCharacter a0:=yj a0 hL0;clear hL0;simp only[pars,Nat.zero_add];iterate 2 refine rS ?_
 refine AWP.ret ?_;subst hR;exact es
end N33
def D_zzc : DF
 | [x0]=>some (.bool (zzc (rdP yb x0)),false,[wP eCharacter yb x0])
 | _=>none
theorem y9u:OkD Tryz.prog 33 D_zzc:=by unfold D_zzc;exact dk N33.den
def zhc (a0:Aid):Bool:=
 (a0.Light.Kind != 0)
namespace N37
theorem DD:DOk Tryz.prog (Go.Ab.DD []):=ye _
theorem den (a0:Aid)  : Den Tryz.prog 37 [.ep (eAid a0)] (.bool (zhc a0)):=by
 generalize hR:zhc a0=r;unfold zhc at hR;refine di Tryz.func37 Tryz.ntmps37 Tryz.results37 ?_;intro c hL hc hk;obtain⟨hL0,_⟩:=hL;have hw0:bwAid a0:=ydb a0 hL0;clear hL0;simp only[pars,Nat.zero_add];iterate 2 refine rS ?_
 refine AWP.ret ?_;subst hR;exact es
end N37
def D_zhc : DF
 | [x0]=>some (.bool (zhc (rdP dAid x0)),false,[wP eAid dAid x0])
 | _=>none
theorem yeu:OkD Tryz.prog 37 D_zhc:=by unfold D_zhc;exact dk N37.den
def zyd (a0:Int):Bool:=
 (zb a0 0 20)
namespace N13
theorem DD:DOk Tryz.prog (Go.Ab.DD [(29,dP D_zb)]):=ya yfd.e <| ye _
theorem dn:type_of% (@D_zb.eq_1):=by and_intros<;>intros<;>rfl
theorem ol:type_of% (@zb.eq_1):=@zb.eq_1
theorem den (a0:Int)  : Den Tryz.prog 13 [.int .i64 a0] (.bool (zyd a0)):=by
 generalize hR:zyd a0=r;unfold zyd at hR;refine di Tryz.func13 Tryz.ntmps13 Tryz.results13 ?_;intro c hL hc hk;clear hL;simp only[pars,Nat.zero_add];iterate 2 refine rS ?_
 refine AWP.ret ?_;subst hR;exact es
end N13
def D_zyd : DF
 | [x0]=>some (.bool (zyd (rdI x0)),false,[wI .i64 x0])
 | _=>none
theorem yqw:OkD Tryz.prog 13 D_zyd:=by unfold D_zyd;exact dk N13.den
end Go.Ab
