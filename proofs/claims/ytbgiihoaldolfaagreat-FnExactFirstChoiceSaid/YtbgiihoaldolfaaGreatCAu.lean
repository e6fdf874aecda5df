/- A part of a proof: walks of functions and lemmas of our own. No conditions. -/
import Derived.Test.YtbgiihoaldolfaaGreatCAl
import Derived.Test.YtbgiihoaldolfaaGreatCAt
import Derived.Test.YtbgiihoaldolfaaGreatCAi
import Derived.Test.YtbgiihoaldolfaaGreatCAo
set_option linter.unusedSectionVars false
set_option linter.unusedVariables false
set_option linter.unusedSimpArgs false
set_option maxHeartbeats 1000000
namespace Go.Ab
open Go Go.Proofs
def zmd (a0:Character):Int:=
 (bif (zhb a0)then 0 else(bif (a0.Kind == 3)then 20 else IntKind.wrap .i64 ((zcb (za a0))+(zdd a0))))
namespace N62
theorem DD:DOk Tryz.prog (Go.Ab.DD [(61,dP D_zhb),(89,dP D_zcb),(90,dP D_za),(91,dP D_zdd)]):=yd yvm.e <| yd ylr.e <| yd ycw.e <| yd ytw.e <| yj _
theorem dn:type_of% (And.intro @D_zhb.eq_1 <| And.intro @D_zcb.eq_1 <| And.intro @D_za.eq_1 <| @D_zdd.eq_1):=by and_intros<;>intros<;>rfl
theorem den (a0:Character) (hb0:bdCharacter a0) (hp0:a0.Group.length<=4) (hp1:∀ v∈a0.Group,v<=9) (hp2:a0.Kind=8->a0.Letter.length=1/\65<=(a0.Letter.getD 0 0).toNat/\(a0.Letter.getD 0 0).toNat<=90):Den Tryz.prog 62 [.ep (eCharacter a0)] (.int .i64 (zmd a0)):=by
 generalize hR:zmd a0=r;unfold zmd at hR;refine di Tryz.func62 Tryz.ntmps62 Tryz.results62 ?_;intro c hL hc hk;obtain⟨hL0,_⟩:=hL;have hw0:bwCharacter a0:=yf a0 hL0;clear hL0;simp only[pars,Nat.zero_add];iterate 2 refine rS ?_
 refine AWP.cond rfl (fun hb => ?_) (fun hb => ?_)
 ·replace hR:=ct hR
  refine rS ?_;refine AWP.ret ?_;subst hR;exact es
 ·replace hR:=cf hR
  refine rS ?_;refine AWP.cond rfl (fun hb => ?_) (fun hb => ?_)
  ·replace hR:=ct hR
   refine rS ?_;refine AWP.ret ?_;subst hR;exact es
  ·replace hR:=cf hR
   refine rS ?_;refine AWP.ret ?_;subst hR;exact es
end N62
def D_zmd : DF
 | [x0]=>some (.int .i64 (zmd (rdP ya x0)),false,[wP eCharacter ya x0,bdCharacter (rdP ya x0),(rdP ya x0).Group.length<=4,∀ v∈(rdP ya x0).Group,v<=9,(rdP ya x0).Kind=8->(rdP ya x0).Letter.length=1/\65<=((rdP ya x0).Letter.getD 0 0).toNat/\((rdP ya x0).Letter.getD 0 0).toNat<=90])
 | _=>none
theorem yqy:OkD Tryz.prog 62 D_zmd:=by unfold D_zmd;exact dk N62.den
def TmP (l:List Int) (n:Nat):Prop:=l.length<=n/\∀ v∈l,2<=v/\v<=40
theorem TmP.nil (n:Nat):TmP [] n:=⟨Nat.zero_le _,fun v h=>by cases h⟩
theorem TmP.snoc {l:List Int} {n m:Nat} {x:Int} (h:TmP l n) (h1:2<=x) (h2:x<=40) (hm:n+1<=m):TmP (l++[x]) m:=by
 refine⟨by rw[List.length_append,List.length_singleton];have:=h.1;omega,fun v hv => ?_⟩;rcases List.mem_append.1 hv with hv|hv
 ·exact h.2 v hv
 ·rw[List.mem_singleton]at hv;subst hv;exact⟨h1,h2⟩
theorem TmP.mono {l:List Int} {n m:Nat} (h:TmP l n) (hm:n<=m):TmP l m:=⟨Nat.le_trans h.1 hm,h.2⟩
theorem yxi (k:Int):3<=zu k/\zu k<=20:=by
 unfold zu;simp only[Bool.cond_eq_ite]
 (repeat' split)<;>decide
theorem y4l (k:Int):2<=zsb k/\zsb k<=20:=by
 unfold zsb;simp only[Bool.cond_eq_ite]
 (repeat' split)<;>decide
theorem y1w (a:Int):TmP (zbb a) 4:=by
 refine⟨ycp a,?_⟩;unfold zbb
 obtain⟨t,h1,h2⟩:=ym (b:=y9h a) (fun _ s=>∀ v∈s,2<=v/\v<=40) (k:=((([[46,45],[45,46,46,46],[45,46,45,46],[45,46,46],[46],[46,46,45,46],[45,45,46],[46,46,46,46],[46,46],[46,45,45,45],[45,46,45],[46,45,46,46],[45,45],[45,46],[45,45,45],[46,45,45,46],[45,45,46,45],[46,45,46],[46,46,46],[45],[46,46,45],[46,46,46,45],[46,45,45],[45,46,46,45],[45,46,45,45],[45,45,46,46]]:List (List UInt8)).getD ((IntKind.wrap .u8 (a-65)).toNat) default).length)-0) (i:=0) (s:=[]) (fun v h=>by cases h) (by
  intro j s _ _ hs;unfold y9h
  have e:∀ x:Int,2<=x->x<=40->∀ v∈s++[x],2<=v/\v<=40:=fun x h1 h2 v hv=>by
   rcases List.mem_append.1 hv with hv|hv
   ·exact hs v hv
   ·rw[List.mem_singleton]at hv;subst hv;exact⟨h1,h2⟩
  simp only[Bool.cond_eq_ite];split
  ·exact⟨_,rfl,e 5 (by decide) (by decide)⟩
  ·exact⟨_,rfl,e 15 (by decide) (by decide)⟩)
 rw[h1];exact h2
theorem yps (b : Nat -> List Int -> Except (List Int) (List Int)) (f g : Int) (hf : 2 <= f /\ f <= 20) (hg : 3 <= g /\ g <= 20)
  (hb:∀ j s,b j s=.ok ((s++[g])++[f])\/b j s=.ok ((s++[IntKind.wrap .i64 (g+20)])++[f])\/b j s=.ok (s++[f])) (n:Nat) {s:List Int} {m:Nat} (hs:TmP s m) :
  ∃ t,ye b (n-0) 0 s=.ok t/\TmP t (m+2 * n):=by
 obtain⟨t,h1,h2⟩:=ym (b:=b) (fun j t=>TmP t (m+2 * j)) (k:=n-0) (i:=0) (s:=s) (hs.mono (by omega)) (by
  intro j t _ _ ht;have hw:IntKind.wrap .i64 (g+20)=g+20:=by rw[IntKind.wrap_i64];omega
  rcases hb j t with e|e|e
  ·exact⟨_,e,(ht.snoc (m:=m+2 * j+1) (by omega) (by omega) (by omega)).snoc (by omega) (by omega) (by omega)⟩
  ·rw[hw]at e
   exact⟨_,e,(ht.snoc (m:=m+2 * j+1) (by omega) (by omega) (by omega)).snoc (by omega) (by omega) (by omega)⟩
  ·exact⟨_,e,(ht.snoc (m:=m+2 * j+1) (by omega) (by omega) (by omega)).mono (by omega)⟩)
 exact⟨t,h1,h2.mono (by omega)⟩
theorem yyg (c:Character) (hl:c.Group.length<=4) (hv:∀ v∈c.Group,1<=v/\v<=9):TmP (za c) 100:=by
 have hf:=y4l c.Kind;have hg:=yxi c.Kind
 have fin:∀ {s:List Int},TmP s 90->TmP (bif (c.Letter == [76])then s++([(zu c.Kind),20]:List Int)else s) 100:=fun {s} h=>by
  cases(c.Letter == [76])with
  | true=>
   have h1:=(h.snoc (x:=zu c.Kind) (m:=91) (by omega) (by omega) (by omega)).snoc (x:=20) (m:=100) (by omega) (by omega) (by omega);rw[List.append_assoc]at h1;exact h1
  | false=>exact h.mono (by omega)
 unfold za
 cases(c.Kind == 8)with
 | true=>
  have hm:=y1w ((c.Letter.getD 0 0).toNat:Int)
  obtain⟨t,h1,h2⟩:=ym (b:=yyk c) (fun j t=>TmP t (2 * j)) (k:=(zbb ((c.Letter.getD 0 0).toNat:Int)).length-0) (i:=0) (s:=[]) (TmP.nil _) (by
   intro j t _ hj ht;have hx:=hm.2 _ (yz (l:=zbb ((c.Letter.getD 0 0).toNat:Int)) (i:=j) (by omega));unfold yyk
   cases decide (0<(j:Int))with
   | true=>exact⟨_,rfl,(ht.snoc (m:=2 * j+1) (by omega) (by omega) (by omega)).snoc hx.1 hx.2 (by omega)⟩
   | false=>exact⟨_,rfl,(ht.snoc (m:=2 * j+1) hx.1 hx.2 (by omega)).mono (by omega)⟩)
  rw[cond_true,h1];exact h2.mono (by have:=hm.1;omega)
 | false=>
  rw[cond_false]
  cases hz:((c.Group.length:Int) == 0)with
  | true=>
   rw[cond_true]
   obtain⟨t,h1,h2⟩:=ym (b:=yyh c) (fun j t=>TmP t (20 * j)) (k:=1-0) (i:=0) (s:=[]) (TmP.nil _) (by
    intro j t _ hj ht;have:j=0:=by omega
    subst this
    obtain⟨u,e1,e2⟩:=yps (yjk c 0 t) (zsb c.Kind) (zu c.Kind) hf hg (fun j s=>by
     unfold yjk
     cases decide (0<(j:Int))with
     | true=>exact .inl rfl
     | false=>exact .inr (.inr rfl)) (([1]:List Int).getD 0 default).toNat ht
    unfold yyh;rw[e1]
    exact⟨_,rfl,e2.mono (by decide)⟩)
   rw[h1];exact fin (h2.mono (by omega))
  | false=>
   rw[cond_false]
   obtain⟨t,h1,h2⟩:=ym (b:=y0k c) (fun j t=>TmP t (18 * j)) (k:=c.Group.length-0) (i:=0) (s:=[]) (TmP.nil _) (by
    intro j t _ hj ht;have hx:=hv _ (yz (l:=c.Group) (i:=j) (by omega))
    obtain⟨u,e1,e2⟩:=yps (ywk c j t) (zsb c.Kind) (zu c.Kind) hf hg (fun q s=>by
     unfold ywk
     cases decide (0<(q:Int))with
     | true=>exact .inl rfl
     | false=>
      cases decide (0<(j:Int))with
      | true=>exact .inr (.inl rfl)
      | false=>exact .inr (.inr rfl)) (c.Group.getD j default).toNat ht
    unfold y0k;rw[e1]
    exact⟨_,rfl,e2.mono (by omega)⟩)
   rw[h1];exact fin (h2.mono (by omega))
theorem ywx {l:List Int} {n:Nat} (h:TmP l n) (hn:n<=1000):zcb l=l.sum/\2 * (l.length:Int)<=l.sum/\l.sum<=40 * (l.length:Int):=by
 have hs:∀ j,j<=l.length->2 * (j:Int)<=(l.take j).sum/\(l.take j).sum<=40 * (j:Int):=fun j=>by
  induction j with
  | zero=>intro _;simp
  | succ j ih=>
   intro hj;have:=ih (by omega);rw[ymc l j (by omega),List.sum_append];have hx:=h.2 _ (yz (l:=l) (i:=j) (by omega));simp only[List.sum_cons,List.sum_nil];omega
 have hl:=h.1;have hs2:=hs l.length (Nat.le_refl _);rw[List.take_length]at hs2;refine⟨?_,hs2⟩;unfold zcb
 obtain⟨t,h1,h2⟩:=ym (b:=y4n l) (fun j s=>s=(l.take j).sum) (k:=l.length-0) (i:=0) (s:=0) (by simp) (by
  rintro j _ _ hj rfl
  have hx:=h.2 _ (yz (l:=l) (i:=j) (by omega));have h9:=hs j (by omega);refine⟨_,rfl,?_⟩;rw[ymc l j (by omega),List.sum_append];simp only[List.sum_cons,List.sum_nil];rw[IntKind.wrap_i64]
  omega)
 rw[h1,h2,show 0+(l.length-0)=l.length by omega,List.take_length]
def ynn (a0:(List UInt8)) (a1:(List UInt8)) (i1:Nat) (s1:Unit):Except (Bool) (Unit):=
 (bif (((a0.take ((IntKind.wrap .i64 ((i1:Int)+1)).toNat)).drop i1) == a1)then .error true else .ok ())
def zxc (a0:(List UInt8)) (a1:(List UInt8)):Bool:=
 (match ye (ynn a0 a1) (a0.length-0) 0 ()with|.error e=>e|.ok s1=>false)
namespace N63
theorem DD:DOk Tryz.prog (Go.Ab.DD []):=yj _
theorem den (a0:(List UInt8)) (a1:(List UInt8))  : Den Tryz.prog 63 [.str a0,.str a1] (.bool (zxc a0 a1)):=by
 generalize hR:zxc a0 a1=r;unfold zxc at hR;refine di Tryz.func63 Tryz.ntmps63 Tryz.results63 ?_;intro c hL hc hk;obtain⟨hL0,hL1,_⟩:=hL;have hw0:a0.length<9223372036854775808:=Nat.lt_succ_of_le hL0;have hw1:a1.length<9223372036854775808:=Nat.lt_succ_of_le hL1;clear hL0 hL1;simp only[pars,Nat.zero_add];iterate 2 refine rS ?_
 refine AWP.block ?_;generalize hz1:ye (ynn a0 a1) (a0.length-0) 0 ()=z1 at hR;refine AWP.range (ynn a0 a1) (fun i1 s1=>⟨[(0,.str a0),(1,.str a1),(5,.int .i64 (i1:Int))],[]⟩) (fun i1 s1=>True) (a0.length) 0 () [] hz1 ot wt sm ?_;clear hz1;intro i1 s1 hi1 hW1 hz1;refine rS ?_;refine AWP.cond rfl (fun hb => ?_) (fun hb => ?_)
 ·have hlt1:i1<a0.length:=ot
  rw[yg hlt1]at hz1;simp only[ynn]at hz1;refine rS ?_;refine AWP.cond rfl (fun hb => ?_) (fun hb => ?_)
  ·simp only[hb,cond_true]at hz1
   refine rS ?_;refine AWP.ret ?_;subst hz1;dsimp only at hR;subst hR;exact es
  ·simp only[hb,cond_false]at hz1
   refine rS ?_;exact⟨_,[],hlt1,wt,hz1,sm⟩
 ·obtain rfl:i1=a0.length:=ot
  rw[yh (Nat.le_refl _)]at hz1;subst hz1;dsimp only at hR;refine AWP.exit ?_;refine yb ?_;refine rS ?_;refine AWP.ret ?_;subst hR;exact es
end N63
def D_zxc : DF
 | [x0,x1]=>some (.bool (zxc (rdS x0) (rdS x1)),false,[wS x0,wS x1])
 | _=>none
theorem y9x:OkD Tryz.prog 63 D_zxc:=by unfold D_zxc;exact dk N63.den
def yii (a0:(List (List Int))) (a1:Int) (i1:Nat) (s1:Unit):Except (Bool) (Unit):=
 (bif (((((a0.getD i1 default).length:Int) != 2) || (!(zd ((a0.getD i1 default).getD 0 default) 0 (IntKind.wrap .i64 (a1-1))))) || (!(zd ((a0.getD i1 default).getD 1 default) (IntKind.wrap .i64 (((a0.getD i1 default).getD 0 default)+1)) (IntKind.wrap .i64 (a1-1)))))then .error false else(bif (decide (0<(i1:Int)) && (decide (((a0.getD i1 default).getD 0 default)<((a0.getD ((IntKind.wrap .i64 ((i1:Int)-1)).toNat) default).getD 0 default)) || ((((a0.getD ((IntKind.wrap .i64 ((i1:Int)-1)).toNat) default).getD 0 default) == ((a0.getD i1 default).getD 0 default)) && decide (((a0.getD i1 default).getD 1 default)<=((a0.getD ((IntKind.wrap .i64 ((i1:Int)-1)).toNat) default).getD 1 default)))))then .error false else .ok ()))
def zxb (a0:(List (List Int))) (a1:Int):Bool:=
 (bif (!(zd a1 0 24))then false else(match ye (yii a0 a1) (a0.length-0) 0 ()with|.error e=>e|.ok s1=>true))
namespace N34
theorem DD:DOk Tryz.prog (Go.Ab.DD [(37,dP D_zd)]):=yd y4f.e <| yj _
theorem dn:type_of% (@D_zd.eq_1):=by and_intros<;>intros<;>rfl
theorem ol:type_of% (@zd.eq_1):=@zd.eq_1
theorem o1 {p:Prop} (h:p:=by(first|(have hcx:decide ((0:Int)<(i1:Int))=true:=(by assumption);have hcy:=of_decide_eq_true hcx;have hw9:(IntKind.wrap .i64 ((i1:Int)-1)).toNat=i1-1:=(by rw[IntKind.wrap_i64];omega);have hW9:=hW1 (i1-1) (by omega);simp only[hw9];omega)|(have hcx:decide ((0:Int)<(i1:Int))=true:=(by assumption);have hcy:=of_decide_eq_true hcx;rw[IntKind.wrap_i64];omega)|(have h9:(((((a0.getD i1 default).length:Int) != 2) || (!(zd (((a0.getD i1 default)).getD 0 default) 0 (IntKind.wrap .i64 (a1-1))))) || (!(zd (((a0.getD i1 default)).getD 1 default) (IntKind.wrap .i64 ((((a0.getD i1 default)).getD 0 default)+1)) (IntKind.wrap .i64 (a1-1)))))=false:=(by assumption);simp only[Bool.or_eq_false_iff,bne_eq_false_iff_eq]at h9;have h8:=h9.1.1;omega));first|done|fail):p:=h
theorem den (a0:(List (List Int))) (a1:Int)  : Den Tryz.prog 34 [encL 1 yt a0,.int .i64 a1] (.bool (zxb a0 a1)):=by
 generalize hR:zxb a0 a1=r;unfold zxb at hR;refine di Tryz.func34 Tryz.ntmps34 Tryz.results34 ?_;intro c hL hc hk;obtain⟨hL0,hL1,_⟩:=hL;have hw0:a0.length<9223372036854775808:=Nat.lt_succ_of_le (yc hL0).1;have hw1:∀ v∈a0,bwLIi64 v:=fun v hv=>ynb v ((yc hL0).2 v hv)
 clear hL0 hL1;simp only[pars,Nat.zero_add];iterate 2 refine rS ?_
 refine AWP.cond rfl (fun hb => ?_) (fun hb => ?_)
 ·replace hR:=ct hR
  refine rS ?_;refine AWP.ret ?_;subst hR;exact es
 ·replace hR:=cf hR
  refine rS ?_;refine AWP.block ?_;generalize hz1:ye (yii a0 a1) (a0.length-0) 0 ()=z1 at hR;refine AWP.range (yii a0 a1) (fun i1 s1=>⟨[(0,encL 1 yt a0),(1,.int .i64 a1),(5,.int .i64 (i1:Int))],[]⟩) (fun i1 s1=>∀ j,j<i1->(a0.getD j default).length=2) (a0.length) 0 () [] hz1 ot wt sm ?_;clear hz1;intro i1 s1 hi1 hW1 hz1;refine rS ?_;refine AWP.cond rfl (fun hb => ?_) (fun hb => ?_)
  ·have hlt1:i1<a0.length:=ot
   rw[yg hlt1]at hz1;simp only[yii]at hz1;refine rS ?_;refine rD 25 ?_;refine AWP.cond rfl (fun hb => ?_) (fun hb => ?_)
   ·simp only[hb,cond_true]at hz1
    refine rS ?_;refine AWP.ret ?_;subst hz1;dsimp only at hR;subst hR;exact es
   ·simp only[hb,cond_false]at hz1
    refine rD 41 ?_;refine AWP.cond rfl (fun hb => ?_) (fun hb => ?_)
    ·simp only[hb,cond_true]at hz1
     refine rS ?_;refine AWP.ret ?_;subst hz1;dsimp only at hR;subst hR;exact es
    ·simp only[hb,cond_false]at hz1
     refine rS ?_;exact⟨_,[],hlt1,by(intro j hj;by_cases hji:j<i1;(focus(exact hW1 j hji));rw[show j=i1 by omega];(have h9:(((((a0.getD i1 default).length:Int) != 2) || (!(zd (((a0.getD i1 default)).getD 0 default) 0 (IntKind.wrap .i64 (a1-1))))) || (!(zd (((a0.getD i1 default)).getD 1 default) (IntKind.wrap .i64 ((((a0.getD i1 default)).getD 0 default)+1)) (IntKind.wrap .i64 (a1-1)))))=false:=(by assumption);simp only[Bool.or_eq_false_iff,bne_eq_false_iff_eq]at h9;have h8:=h9.1.1;omega)),hz1,sm⟩
  ·obtain rfl:i1=a0.length:=ot
   rw[yh (Nat.le_refl _)]at hz1;subst hz1;dsimp only at hR;refine AWP.exit ?_;refine yb ?_;refine rS ?_;refine AWP.ret ?_;subst hR;exact es
end N34
def D_zxb : DF
 | [x0,x1]=>some (.bool (zxb (rdL yv x0) (rdI x1)),false,[wL 1 yt yv x0,wI .i64 x1])
 | _=>none
theorem yry:OkD Tryz.prog 34 D_zxb:=by unfold D_zxb;exact dk N34.den
def zud (a0:Int):Bool:=
 (zd a0 0 20)
namespace N36
theorem DD:DOk Tryz.prog (Go.Ab.DD [(37,dP D_zd)]):=yd y4f.e <| yj _
theorem dn:type_of% (@D_zd.eq_1):=by and_intros<;>intros<;>rfl
theorem ol:type_of% (@zd.eq_1):=@zd.eq_1
theorem den (a0:Int)  : Den Tryz.prog 36 [.int .i64 a0] (.bool (zud a0)):=by
 generalize hR:zud a0=r;unfold zud at hR;refine di Tryz.func36 Tryz.ntmps36 Tryz.results36 ?_;intro c hL hc hk;clear hL;simp only[pars,Nat.zero_add];iterate 2 refine rS ?_
 refine AWP.ret ?_;subst hR;exact es
end N36
def D_zud : DF
 | [x0]=>some (.bool (zud (rdI x0)),false,[wI .i64 x0])
 | _=>none
theorem yzw:OkD Tryz.prog 36 D_zud:=by unfold D_zud;exact dk N36.den
def zuc (a0:(List Int)):(List Int):=
 ([]:List Int)++a0
namespace N25
theorem DD:DOk Tryz.prog (Go.Ab.DD []):=yj _
theorem den (a0:(List Int)) (hb0:a0.length<1099511627776):Den Tryz.prog 25 [encL 1 yi a0] (ownL 2 1 yi (zuc a0)):=by
 generalize hR:zuc a0=r;unfold zuc at hR;refine di Tryz.func25 Tryz.ntmps25 Tryz.results25 ?_;intro c hL hc hk;obtain⟨hL0,_⟩:=hL;have hw0:a0.length<9223372036854775808:=Nat.lt_succ_of_le (yc hL0).1;clear hL0;simp only[pars,Nat.zero_add];iterate 2 refine rS ?_
 refine AWP.ret ?_;subst hR;exact es
end N25
def D_zuc : DF
 | [x0]=>some (ownL 2 1 yi (zuc (rdL ydb x0)),false,[wL 1 yi ydb x0,(rdL ydb x0).length<1099511627776])
 | _=>none
theorem yyr:OkD Tryz.prog 25 D_zuc:=by unfold D_zuc;exact dk N25.den
end Go.Ab
