/- A part of a proof: walks of functions and lemmas of our own. No conditions. -/
import Derived.Test.YtcaopagmcldjmaaGreatDoorAAl
import Derived.Test.YtcaopagmcldjmaaGreatDoorAAn
import Derived.Test.YtcaopagmcldjmaaGreatDoorAAo
import Derived.Test.YtcaopagmcldjmaaGreatDoorAAi
set_option linter.unusedSectionVars false
set_option linter.unusedVariables false
set_option linter.unusedSimpArgs false
set_option maxHeartbeats 1000000
namespace Go.Ab
open Go Go.Proofs
def zhg (a0:Int):Bool:=
 (decide (48<=a0) && decide (a0<=57))
namespace N157
theorem DD:DOk Tryz.prog (Go.Ab.DD []):=yd _
theorem den (a0:Int)  : Den Tryz.prog 157 [.int .u8 a0] (.bool (zhg a0)):=by
 generalize hR:zhg a0=r;unfold zhg at hR;refine di Tryz.func157 Tryz.ntmps157 Tryz.results157 ?_;intro c hL hc hk;clear hL;simp only[pars,Nat.zero_add];iterate 2 refine rS ?_
 refine AWP.ret ?_;subst hR;exact es
end N157
def D_zhg : DF
 | [x0]=>some (.bool (zhg (rdI x0)),false,[wI .u8 x0])
 | _=>none
theorem ywz:OkD Tryz.prog 157 D_zhg:=by unfold D_zhg;exact dk N157.den
def zye (a0:Int):Bool:=
 (decide (97<=a0) && decide (a0<=122))
namespace N156
theorem DD:DOk Tryz.prog (Go.Ab.DD []):=yd _
theorem den (a0:Int)  : Den Tryz.prog 156 [.int .u8 a0] (.bool (zye a0)):=by
 generalize hR:zye a0=r;unfold zye at hR;refine di Tryz.func156 Tryz.ntmps156 Tryz.results156 ?_;intro c hL hc hk;clear hL;simp only[pars,Nat.zero_add];iterate 2 refine rS ?_
 refine AWP.ret ?_;subst hR;exact es
end N156
def D_zye : DF
 | [x0]=>some (.bool (zye (rdI x0)),false,[wI .u8 x0])
 | _=>none
theorem yk2:OkD Tryz.prog 156 D_zye:=by unfold D_zye;exact dk N156.den
def y7t (a0:(List UInt8)) (i1:Nat) (s1:Unit):Except (Bool) (Unit):=
 (bif ((!(zye ((a0.getD i1 0).toNat:Int))) && (!(zhg ((a0.getD i1 0).toNat:Int))))then .error false else .ok ())
def ztb (a0:(List UInt8)):Bool:=
 (bif (((a0 == []) || decide (10<(a0.length:Int))) || (!(zye ((a0.getD 0 0).toNat:Int))))then false else(match yf (y7t a0) (a0.length-0) 0 ()with|.error e=>e|.ok s1=>true))
namespace N113
theorem DD:DOk Tryz.prog (Go.Ab.DD [(156,dP D_zye),(157,dP D_zhg)]):=ya yk2.e <| ya ywz.e <| yd _
theorem dn:type_of% (And.intro @D_zye.eq_1 <| @D_zhg.eq_1):=by and_intros<;>intros<;>rfl
theorem den (a0:(List UInt8))  : Den Tryz.prog 113 [.str a0] (.bool (ztb a0)):=by
 generalize hR:ztb a0=r;unfold ztb at hR;refine di Tryz.func113 Tryz.ntmps113 Tryz.results113 ?_;intro c hL hc hk;obtain⟨hL0,_⟩:=hL;have hw0:a0.length<9223372036854775808:=Nat.lt_succ_of_le hL0;clear hL0;simp only[pars,Nat.zero_add];iterate 2 refine rS ?_
 refine AWP.cond rfl (fun hb => ?_) (fun hb => ?_)
 ·replace hR:=ct hR
  refine rS ?_;refine AWP.ret ?_;subst hR;exact es
 ·replace hR:=cf hR
  refine rS ?_;refine AWP.block ?_;generalize hz1:yf (y7t a0) (a0.length-0) 0 ()=z1 at hR;refine AWP.range (y7t a0) (fun i1 s1=>⟨[(0,.str a0),(3,.int .i64 (i1:Int))],[]⟩) (fun i1 s1=>True) (a0.length) 0 () [] hz1 ot wt sm ?_;clear hz1;intro i1 s1 hi1 hW1 hz1;refine rS ?_;refine AWP.cond rfl (fun hb => ?_) (fun hb => ?_)
  ·have hlt1:i1<a0.length:=ot
   rw[yk hlt1]at hz1;simp only[y7t]at hz1;refine rS ?_;refine AWP.cond rfl (fun hb => ?_) (fun hb => ?_)
   ·simp only[hb,cond_true]at hz1
    refine rS ?_;refine AWP.ret ?_;subst hz1;dsimp only at hR;subst hR;exact es
   ·simp only[hb,cond_false]at hz1
    refine rS ?_;exact⟨_,[],hlt1,wt,hz1,sm⟩
  ·obtain rfl:i1=a0.length:=ot
   rw[yl (Nat.le_refl _)]at hz1;subst hz1;dsimp only at hR;refine AWP.exit ?_;refine yb ?_;refine rS ?_;refine AWP.ret ?_;subst hR;exact es
end N113
def D_ztb : DF
 | [x0]=>some (.bool (ztb (rdS x0)),false,[wS x0])
 | _=>none
theorem yf0:OkD Tryz.prog 113 D_ztb:=by unfold D_ztb;exact dk N113.den
def y1j (a0:(List Item)) (a1:Item) (i1:Nat) (s1:Bool×List Item):Except ((List Item)) (Bool×List Item):=
 (bif ((!s1.1) && !(Op.bytesLess ((a0.getD i1 default).Key) a1.Key))then(bif (((a0.getD i1 default).Key) != a1.Key)then .ok (true,(s1.2++[a1])++[(a0.getD i1 default)])else .ok (true,s1.2++[a1]))else(bif (((a0.getD i1 default).Key) != a1.Key)then .ok (s1.1,s1.2++[(a0.getD i1 default)])else .ok (s1.1,s1.2)))
def zgc (a0:(List Item)) (a1:Item):(List Item):=
 (match yf (y1j a0 a1) (a0.length-0) 0 (false,([]:List Item))with|.error e=>e|.ok s1=>(bif (!s1.1)then s1.2++[a1]else s1.2))
namespace N75
theorem DD:DOk Tryz.prog (Go.Ab.DD []):=yd _
theorem den (a0:(List Item)) (a1:Item) (hb0:a0.length<1099511627776) (hb1:∀ v∈a0,bdItem v) (hb2:bdItem a1):Den Tryz.prog 75 [encL 2 yr a0,.agg (yr a1)] (ownL 38 2 yr (zgc a0 a1)):=by
 generalize hR:zgc a0 a1=r;unfold zgc at hR;refine di Tryz.func75 Tryz.ntmps75 Tryz.results75 ?_;intro c hL hc hk;obtain⟨hL0,hL1,_⟩:=hL;have hw0:a0.length<9223372036854775808:=Nat.lt_succ_of_le (yc hL0).1;have hw1:∀ v∈a0,bwItem v:=fun v hv=>y6 v ((yc hL0).2 v hv)
 have hw2:bwItem a1:=y6 a1 hL1;clear hL0 hL1;simp only[pars,Nat.zero_add];iterate 4 refine rS ?_
 refine AWP.block ?_;generalize hz1:yf (y1j a0 a1) (a0.length-0) 0 (false,([]:List Item))=z1 at hR;refine AWP.range (y1j a0 a1) (fun i1 s1=>⟨[(0,encL 2 yr a0),(3,.ptr 0 0),(5,.ref 1 2 0 s1.2.length),(6,.bool s1.1),(7,.int .i64 (i1:Int))],[.box [.str a1.Key,.str a1.Text],.arr 38 2 s1.2.length (fun j=>yr (s1.2.getD j default))]⟩) (fun i1 s1=>s1.2.length<=([]:List Item).length+2 * i1) (a0.length) 0 (false,([]:List Item)) [0,1] hz1 ot wt sm ?_;clear hz1;intro i1 s1 hi1 hW1 hz1;refine rS ?_;refine AWP.cond rfl (fun hb => ?_) (fun hb => ?_)
 ·have hlt1:i1<a0.length:=ot
  rw[yk hlt1]at hz1;simp only[y1j]at hz1;refine rD 12 ?_;refine AWP.cond rfl (fun hb => ?_) (fun hb => ?_)
  ·simp only[hb,cond_true]at hz1
   iterate 2 refine rS ?_
   refine rD 7 ?_;refine AWP.cond rfl (fun hb => ?_) (fun hb => ?_)
   ·simp only[hb,cond_true]at hz1
    iterate 2 refine rS ?_
    exact⟨_,[0,5],hlt1,wt,hz1,sm⟩
   ·simp only[hb,cond_false]at hz1
    refine rS ?_;exact⟨_,[0,3],hlt1,wt,hz1,sm⟩
  ·simp only[hb,cond_false]at hz1
   refine rD 7 ?_;refine AWP.cond rfl (fun hb => ?_) (fun hb => ?_)
   ·simp only[hb,cond_true]at hz1
    iterate 2 refine rS ?_
    exact⟨_,[0,3],hlt1,wt,hz1,sm⟩
   ·simp only[hb,cond_false]at hz1
    refine rS ?_;exact⟨_,[0,1],hlt1,wt,hz1,sm⟩
 ·obtain rfl:i1=a0.length:=ot
  rw[yl (Nat.le_refl _)]at hz1;subst hz1;dsimp only at hR;refine AWP.exit ?_;refine yb ?_;refine rS ?_;refine AWP.cond rfl (fun hb => ?_) (fun hb => ?_)
  ·replace hR:=ct hR
   iterate 2 refine rS ?_
   refine AWP.ret ?_;subst hR;exact es
  ·replace hR:=cf hR
   refine rS ?_;refine AWP.ret ?_;subst hR;exact es
end N75
def D_zgc : DF
 | [x0,x1]=>some (ownL 38 2 yr (zgc (rdL yp x0) (rdG yp x1)),false,[wL 2 yr yp x0,wG yr yp x1,(rdL yp x0).length<1099511627776,∀ v∈(rdL yp x0),bdItem v,bdItem (rdG yp x1)])
 | _=>none
theorem yyz:OkD Tryz.prog 75 D_zgc:=by unfold D_zgc;exact dk N75.den
theorem y8i (a:List Item) (x:Item):(zgc a x).length<=a.length+1/\∀ v,v∈zgc a x->v∈a\/v=x:=by
 unfold zgc
 have key:∀ j (u:Bool×List Item),0<=j->j<0+(a.length-0)->(u.2.length<=j+(bif u.1 then 1 else 0)/\∀ v,v∈u.2->v∈a\/v=x) ->
   ∃ w,y1j a x j u=.ok w/\(w.2.length<=(j+1)+(bif w.1 then 1 else 0)/\∀ v,v∈w.2->v∈a\/v=x):=by
  rintro j ⟨d,l⟩ _ hj ⟨h1,h2⟩
  have hm:a.getD j default∈a:=by
   rw[List.getD_eq_getElem?_getD,List.getElem?_eq_getElem (by omega),Option.getD_some];exact List.getElem_mem _
  have hs:∀ v,v∈l++[x]->v∈a\/v=x:=by
   intro v hv;rcases List.mem_append.1 hv with hv|hv
   ·exact h2 v hv
   ·exact .inr (by simpa using hv)
  have hc:∀ (l:List Item),(∀ v,v∈l->v∈a\/v=x)->∀ v,v∈l++[a.getD j default]->v∈a\/v=x:=by
   intro l hl v hv;rcases List.mem_append.1 hv with hv|hv
   ·exact hl v hv
   ·left;have:v=a.getD j default:=by simpa using hv
    rw[this];exact hm
  simp only[y1j];simp only at h1 h2
  cases d with
  | true=>
   simp only[Bool.not_true,Bool.false_and,cond_false,cond_true]at h1 ⊢
   cases(a.getD j default).Key != x.Key with
   | true=>exact⟨_,rfl,by simp only[cond_true,List.length_append,List.length_cons,List.length_nil];omega,hc _ h2⟩
   | false=>exact⟨_,rfl,by simp only[cond_true];omega,h2⟩
  | false=>
   simp only[Bool.not_false,Bool.true_and,cond_false]at h1 ⊢
   cases !(Op.bytesLess (a.getD j default).Key x.Key)with
   | true=>
    cases(a.getD j default).Key != x.Key with
    | true=>exact⟨_,rfl,by simp only[cond_true,List.length_append,List.length_cons,List.length_nil];omega,hc _ hs⟩
    | false=>exact⟨_,rfl,by simp only[cond_true,List.length_append,List.length_cons,List.length_nil];omega,hs⟩
   | false=>
    cases(a.getD j default).Key != x.Key with
    | true=>exact⟨_,rfl,by simp only[cond_false,List.length_append,List.length_cons,List.length_nil];omega,hc _ h2⟩
    | false=>exact⟨_,rfl,by simp only[cond_false];omega,h2⟩
 obtain⟨t,q1,q2,q3⟩:=yy (b:=y1j a x) (fun i s=>s.2.length<=i+(bif s.1 then 1 else 0)/\∀ v,v∈s.2->v∈a\/v=x) (k:=a.length-0) (i:=0) (s:=(false,[])) (by simp) key;rw[q1];simp only;obtain⟨d,l⟩:=t;simp only at q2 q3
 cases d with
 | true=>simp only[cond_true]at q2;exact⟨by simp only[Bool.not_true,cond_false];omega,q3⟩
 | false=>
  simp only[cond_false]at q2;refine⟨by simp only[Bool.not_false,cond_true,List.length_append,List.length_cons,List.length_nil];omega,?_⟩;intro v hv;simp only[Bool.not_false,cond_true]at hv;rcases List.mem_append.1 hv with hv|hv
  ·exact q3 v hv
  ·exact .inr (by simpa using hv)
def zsc (a0:Item):Bool:=
 ((ztb a0.Key) && decide ((a0.Text.length:Int)<=400))
namespace N73
theorem DD:DOk Tryz.prog (Go.Ab.DD [(113,dP D_ztb)]):=ya yf0.e <| yd _
theorem dn:type_of% (@D_ztb.eq_1):=by and_intros<;>intros<;>rfl
theorem den (a0:Item)  : Den Tryz.prog 73 [.ep (yr a0)] (.bool (zsc a0)):=by
 generalize hR:zsc a0=r;unfold zsc at hR;refine di Tryz.func73 Tryz.ntmps73 Tryz.results73 ?_;intro c hL hc hk;obtain⟨hL0,_⟩:=hL;have hw0:bwItem a0:=y6 a0 hL0;clear hL0;simp only[pars,Nat.zero_add];iterate 2 refine rS ?_
 refine AWP.ret ?_;subst hR;exact es
end N73
def D_zsc : DF
 | [x0]=>some (.bool (zsc (rdP yp x0)),false,[wP yr yp x0])
 | _=>none
theorem y42:OkD Tryz.prog 73 D_zsc:=by unfold D_zsc;exact dk N73.den
def y4e (a0:(List Item)) (i1:Nat) (s1:Unit):Except (Bool) (Unit):=
 (bif ((!(zsc (a0.getD i1 default))) || (decide (0<(i1:Int)) && !(Op.bytesLess ((a0.getD ((IntKind.wrap .i64 ((i1:Int)-1)).toNat) default).Key) ((a0.getD i1 default).Key))))then .error false else .ok ())
def zmb (a0:(List Item)):Bool:=
 (match yf (y4e a0) (a0.length-0) 0 ()with|.error e=>e|.ok s1=>decide ((a0.length:Int)<=40))
namespace N40
theorem DD:DOk Tryz.prog (Go.Ab.DD [(73,dP D_zsc)]):=ya y42.e <| yd _
theorem dn:type_of% (@D_zsc.eq_1):=by and_intros<;>intros<;>rfl
theorem den (a0:(List Item))  : Den Tryz.prog 40 [encL 2 yr a0] (.bool (zmb a0)):=by
 generalize hR:zmb a0=r;unfold zmb at hR;refine di Tryz.func40 Tryz.ntmps40 Tryz.results40 ?_;intro c hL hc hk;obtain⟨hL0,_⟩:=hL;have hw0:a0.length<9223372036854775808:=Nat.lt_succ_of_le (yc hL0).1;have hw1:∀ v∈a0,bwItem v:=fun v hv=>y6 v ((yc hL0).2 v hv)
 clear hL0;simp only[pars,Nat.zero_add];iterate 2 refine rS ?_
 refine AWP.block ?_;generalize hz1:yf (y4e a0) (a0.length-0) 0 ()=z1 at hR;refine AWP.range (y4e a0) (fun i1 s1=>⟨[(0,encL 2 yr a0),(3,.int .i64 (i1:Int))],[]⟩) (fun i1 s1=>True) (a0.length) 0 () [] hz1 ot wt sm ?_;clear hz1;intro i1 s1 hi1 hW1 hz1;refine rS ?_;refine AWP.cond rfl (fun hb => ?_) (fun hb => ?_)
 ·have hlt1:i1<a0.length:=ot
  rw[yk hlt1]at hz1;simp only[y4e]at hz1;refine rD 23 ?_;refine AWP.cond rfl (fun hb => ?_) (fun hb => ?_)
  ·simp only[hb,cond_true]at hz1
   refine rS ?_;refine AWP.ret ?_;subst hz1;dsimp only at hR;subst hR;exact es
  ·simp only[hb,cond_false]at hz1
   refine rS ?_;exact⟨_,[],hlt1,wt,hz1,sm⟩
 ·obtain rfl:i1=a0.length:=ot
  rw[yl (Nat.le_refl _)]at hz1;subst hz1;dsimp only at hR;refine AWP.exit ?_;refine yb ?_;refine rS ?_;refine AWP.ret ?_;subst hR;exact es
end N40
def D_zmb : DF
 | [x0]=>some (.bool (zmb (rdL yp x0)),false,[wL 2 yr yp x0])
 | _=>none
theorem ye3:OkD Tryz.prog 40 D_zmb:=by unfold D_zmb;exact dk N40.den
theorem yfz (a:List Item) (h:zmb a=true):a.length<=40:=by
 unfold zmb at h;rcases ypo (b:=y4e a) (fun i=>((!(zsc (a.getD i default))) || (decide (0<(i:Int)) && !(Op.bytesLess ((a.getD ((IntKind.wrap .i64 ((i:Int)-1)).toNat) default).Key) ((a.getD i default).Key))))) false a.length (fun j u _=>rfl)with⟨_,h2⟩|⟨_,h2⟩
 ·rw[h2]at h
  have:=of_decide_eq_true h;omega
 ·rw[h2]at h
  cases h
def zv (a0:Int) (a1:Int) (a2:Int):Bool:=
 (decide (a1<=a0) && decide (a0<=a2))
namespace N208
theorem DD:DOk Tryz.prog (Go.Ab.DD []):=yd _
theorem den (a0:Int) (a1:Int) (a2:Int)  : Den Tryz.prog 208 [.int .i64 a0,.int .i64 a1,.int .i64 a2] (.bool (zv a0 a1 a2)):=by
 generalize hR:zv a0 a1 a2=r;unfold zv at hR;refine di Tryz.func208 Tryz.ntmps208 Tryz.results208 ?_;intro c hL hc hk;clear hL;simp only[pars,Nat.zero_add];iterate 2 refine rS ?_
 refine AWP.ret ?_;subst hR;exact es
end N208
def D_zv : DF
 | [x0,x1,x2]=>some (.bool (zv (rdI x0) (rdI x1) (rdI x2)),false,[wI .i64 x0,wI .i64 x1,wI .i64 x2])
 | _=>none
theorem yyw:OkD Tryz.prog 208 D_zv:=by unfold D_zv;exact dk N208.den
def zvg (a0:Sector):Bool:=
 ((zv a0.From 0 359) && (zv a0.To 0 359))
def zsg (a0:(List UInt8)):Bool:=
 ((((a0 == [87]) || (a0 == [82])) || (a0 == [71])) || (a0 == [89]))
def zzd (a0:Sector):Bool:=
 ((zvg a0) && (zsg a0.Color))
def zxg (a0:Sector):Int:=
 (bif (((IntKind.wrap .i64 ((IntKind.wrap .i64 (a0.To-a0.From))+360)).tmod 360) == 0)then 360 else(IntKind.wrap .i64 ((IntKind.wrap .i64 (a0.To-a0.From))+360)).tmod 360)
def yct (a0:(List Sector)) (i1:Nat) (s1:Unit):Except (Bool) (Unit):=
 (bif ((!(zzd (a0.getD i1 default))) || (decide (0<(i1:Int)) && decide (((a0.getD i1 default).From)<=((a0.getD ((IntKind.wrap .i64 ((i1:Int)-1)).toNat) default).From))))then .error false else .ok ())
def ydm (a0:(List Sector)) (s1:Unit) (s2:Int):Except (Sum (Bool) (Int)) (Int):=
 (bif (decide (s2<(a0.length:Int)) && decide (1<(a0.length:Int)))then(bif decide (((IntKind.wrap .i64 ((IntKind.wrap .i64 (((a0.getD (((IntKind.wrap .i64 (s2+1)).tmod (a0.length:Int)).toNat) default).From)-((a0.getD ((s2).toNat) default).From)))+360)).tmod 360)<(zxg (a0.getD ((s2).toNat) default)))then .error (.inl false)else .ok (IntKind.wrap .i64 (s2+1)))else .error (.inr s2))
def zpb (a0:(List Sector)):Bool:=
 (bif decide (12<(a0.length:Int))then false else(match yf (yct a0) (a0.length-0) 0 ()with|.error e=>e|.ok s1=>(match yeb (ydm a0 s1) ((a0.length-((0:Int)).toNat)+1) 0 with|.error (.inl e)=>e|.error (.inr s2)=>true|.ok _=>default)))
def zwf (a0:Point):Bool:=
 ((zv a0.X 0 200000) && (zv a0.Y 0 200000))
def ztc (a0:Int):Bool:=
 (zv a0 1 9)
namespace N168
theorem DD:DOk Tryz.prog (Go.Ab.DD [(208,dP D_zv)]):=ya yyw.e <| yd _
theorem dn:type_of% (@D_zv.eq_1):=by and_intros<;>intros<;>rfl
theorem ol:type_of% (@zv.eq_1):=@zv.eq_1
theorem den (a0:Int)  : Den Tryz.prog 168 [.int .i64 a0] (.bool (ztc a0)):=by
 generalize hR:ztc a0=r;unfold ztc at hR;refine di Tryz.func168 Tryz.ntmps168 Tryz.results168 ?_;intro c hL hc hk;clear hL;simp only[pars,Nat.zero_add];iterate 2 refine rS ?_
 refine AWP.ret ?_;subst hR;exact es
end N168
def D_ztc : DF
 | [x0]=>some (.bool (ztc (rdI x0)),false,[wI .i64 x0])
 | _=>none
theorem yqt:OkD Tryz.prog 168 D_ztc:=by unfold D_ztc;exact dk N168.den
def zae (a0:Int):(List UInt8):=
 (([[],[82],[71],[66,89],[66,89,66],[89,66],[89,66,89],[66,82,66],[82,87],[89]]:List (List UInt8)).getD ((a0).toNat) default)
namespace N169
theorem DD:DOk Tryz.prog (Go.Ab.DD []):=yd _
theorem lx {p:Prop} (h:p:=by(exact lxx);first|done|fail):p:=h
theorem den (a0:Int) (hp0:0<=a0) (hp1:a0<=9):Den Tryz.prog 169 [.int .i64 a0] (.str (zae a0)):=by
 generalize hR:zae a0=r;unfold zae at hR;refine di Tryz.func169 Tryz.ntmps169 Tryz.results169 ?_;intro c hL hc hk;clear hL;simp only[pars,Nat.zero_add];iterate 2 refine rS ?_
 refine AWP.ret ?_;subst hR;exact es
end N169
def D_zae : DF
 | [x0]=>some (.str (zae (rdI x0)),false,[wI .i64 x0,0<=(rdI x0),(rdI x0)<=9])
 | _=>none
theorem ygu:OkD Tryz.prog 169 D_zae:=by unfold D_zae;exact dk N169.den
def zqb (a0:Int):(List (List UInt8)):=
 (bif (a0 == 1)then[[99,97,110],[112,105,108,108,97,114],[115,112,97,114]]else(bif (a0 == 2)then[[99,111,110,101],[112,105,108,108,97,114],[115,112,97,114]]else(bif (a0 == 8)then[[115,112,104,101,114,101],[112,105,108,108,97,114],[115,112,97,114]]else(bif (a0 == 9)then[[99,97,110],[99,111,110,101],[112,105,108,108,97,114],[115,112,97,114],[115,112,104,101,114,101]]else[[112,105,108,108,97,114],[115,112,97,114]]))))
namespace N170
theorem DD:DOk Tryz.prog (Go.Ab.DD []):=yd _
theorem lx {p:Prop} (h:p:=by(exact lxx);first|done|fail):p:=h
theorem den (a0:Int)  : Den Tryz.prog 170 [.int .i64 a0] (ownL 9 1 eS (zqb a0)):=by
 generalize hR:zqb a0=r;unfold zqb at hR;refine di Tryz.func170 Tryz.ntmps170 Tryz.results170 ?_;intro c hL hc hk;clear hL;simp only[pars,Nat.zero_add];iterate 3 refine rS ?_
 refine AWP.cond rfl (fun hb => ?_) (fun hb => ?_)
 ·replace hR:=ct hR
  refine rS ?_;refine AWP.ret ?_;subst hR;exact es
 ·replace hR:=cf hR
  refine rS ?_;refine AWP.cond rfl (fun hb => ?_) (fun hb => ?_)
  ·replace hR:=ct hR
   refine rS ?_;refine AWP.ret ?_;subst hR;exact es
  ·replace hR:=cf hR
   refine rS ?_;refine AWP.cond rfl (fun hb => ?_) (fun hb => ?_)
   ·replace hR:=ct hR
    refine rS ?_;refine AWP.ret ?_;subst hR;exact es
   ·replace hR:=cf hR
    refine rS ?_;refine AWP.cond rfl (fun hb => ?_) (fun hb => ?_)
    ·replace hR:=ct hR
     refine rS ?_;refine AWP.ret ?_;subst hR;exact es
    ·replace hR:=cf hR
     refine rS ?_;refine AWP.ret ?_;subst hR;exact es
end N170
def D_zqb : DF
 | [x0]=>some (ownL 9 1 eS (zqb (rdI x0)),false,[wI .i64 x0])
 | _=>none
def Dz_zqb : DF
 | [x0]=>some (ownL 9 1 eS (zqb (rdI x0)),true,[wI .i64 x0])
 | _=>none
theorem yy0:OkD Tryz.prog 170 D_zqb:=by unfold D_zqb;exact dk N170.den
theorem yhz:OkD Tryz.prog 170 Dz_zqb:=by unfold Dz_zqb;exact dk N170.den
def zje (a0:Int):(List UInt8):=
 (([[],[99,97,110],[99,111,110,101],[117,112],[98,97,115,101],[100,111,119,110],[112,111,105,110,116],[98,97,108,108,115],[98,97,108,108],[99,114,111,115,115]]:List (List UInt8)).getD ((a0).toNat) default)
namespace N171
theorem DD:DOk Tryz.prog (Go.Ab.DD []):=yd _
theorem lx {p:Prop} (h:p:=by(exact lxx);first|done|fail):p:=h
theorem den (a0:Int) (hp0:0<=a0) (hp1:a0<=9):Den Tryz.prog 171 [.int .i64 a0] (.str (zje a0)):=by
 generalize hR:zje a0=r;unfold zje at hR;refine di Tryz.func171 Tryz.ntmps171 Tryz.results171 ?_;intro c hL hc hk;clear hL;simp only[pars,Nat.zero_add];iterate 2 refine rS ?_
 refine AWP.ret ?_;subst hR;exact es
end N171
def D_zje : DF
 | [x0]=>some (.str (zje (rdI x0)),false,[wI .i64 x0,0<=(rdI x0),(rdI x0)<=9])
 | _=>none
theorem yqv:OkD Tryz.prog 171 D_zje:=by unfold D_zje;exact dk N171.den
def ytt (a0:Mark) (i1:Nat) (s1:Unit):Except (Bool) (Unit):=
 (bif (((zqb a0.Kind).getD i1 default) == a0.Shape)then .error true else .ok ())
def zmg (a0:Mark):Bool:=
 (bif (a0.Kind == 0)then(a0.Kind == 0 && (a0.Colors == [] && (a0.Shape == [] && a0.Topmark == [])))else(bif (((!(ztc a0.Kind)) || (a0.Colors != (zae a0.Kind))) || ((a0.Topmark != []) && (a0.Topmark != (zje a0.Kind))))then false else(match yf (ytt a0) (((zqb a0.Kind).length)-0) 0 ()with|.error e=>e|.ok s1=>false)))
def znf (a0:Mark):Bool:=
 (zmg a0)
def zif (a0:Character):Bool:=
 (((((a0.Kind == 0) && ((a0.Group.length:Int) == 0)) && (a0.Letter == [])) && (a0.Colors == [])) && (a0.Period == 0))
def zkb (a0:Character):Bool:=
 ((a0.Kind == 1) || (((a0.Kind == 6) || (a0.Kind == 7)) && ((a0.Group.length:Int) == 0)))
namespace N175
theorem DD:DOk Tryz.prog (Go.Ab.DD []):=yd _
theorem den (a0:Character)  : Den Tryz.prog 175 [.ep (yq a0)] (.bool (zkb a0)):=by
 generalize hR:zkb a0=r;unfold zkb at hR;refine di Tryz.func175 Tryz.ntmps175 Tryz.results175 ?_;intro c hL hc hk;obtain⟨hL0,_⟩:=hL;have hw0:bwCharacter a0:=yz a0 hL0;clear hL0;simp only[pars,Nat.zero_add];iterate 2 refine rS ?_
 refine AWP.ret ?_;subst hR;exact es
end N175
def D_zkb : DF
 | [x0]=>some (.bool (zkb (rdP ye x0)),false,[wP yq ye x0])
 | _=>none
theorem yit:OkD Tryz.prog 175 D_zkb:=by unfold D_zkb;exact dk N175.den
def ylr (a0:(List Int)) (i1:Nat) (s1:Int):Except (Int) (Int):=
 .ok (IntKind.wrap .i64 (s1+(a0.getD i1 default)))
def zbe (a0:(List Int)):Int:=
 (match yf (ylr a0) (a0.length-0) 0 0 with|.error e=>e|.ok s1=>s1)
namespace N210
theorem DD:DOk Tryz.prog (Go.Ab.DD []):=yd _
theorem den (a0:(List Int))  : Den Tryz.prog 210 [encL 1 yv a0] (.int .i64 (zbe a0)):=by
 generalize hR:zbe a0=r;unfold zbe at hR;refine di Tryz.func210 Tryz.ntmps210 Tryz.results210 ?_;intro c hL hc hk;obtain⟨hL0,_⟩:=hL;have hw0:a0.length<9223372036854775808:=Nat.lt_succ_of_le (yc hL0).1;clear hL0;simp only[pars,Nat.zero_add];iterate 3 refine rS ?_
 refine AWP.block ?_;generalize hz1:yf (ylr a0) (a0.length-0) 0 0=z1 at hR;refine AWP.range (ylr a0) (fun i1 s1=>⟨[(0,encL 1 yv a0),(3,.int .i64 s1),(4,.int .i64 (i1:Int))],[]⟩) (fun i1 s1=>True) (a0.length) 0 0 [] hz1 ot wt sm ?_;clear hz1;intro i1 s1 hi1 hW1 hz1;refine rS ?_;refine AWP.cond rfl (fun hb => ?_) (fun hb => ?_)
 ·have hlt1:i1<a0.length:=ot
  rw[yk hlt1]at hz1;simp only[ylr]at hz1;iterate 2 refine rS ?_
  exact⟨_,[],hlt1,wt,hz1,sm⟩
 ·obtain rfl:i1=a0.length:=ot
  rw[yl (Nat.le_refl _)]at hz1;subst hz1;dsimp only at hR;refine AWP.exit ?_;refine yb ?_;refine rS ?_;refine AWP.ret ?_;subst hR;exact es
end N210
def D_zbe : DF
 | [x0]=>some (.int .i64 (zbe (rdL yhb x0)),false,[wL 1 yv yhb x0])
 | _=>none
theorem yvz:OkD Tryz.prog 210 D_zbe:=by unfold D_zbe;exact dk N210.den
def ykl (a0:Int) (i1:Nat) (s1:List Int):Except ((List Int)) (List Int):=
 (bif ((((([[46,45],[45,46,46,46],[45,46,45,46],[45,46,46],[46],[46,46,45,46],[45,45,46],[46,46,46,46],[46,46],[46,45,45,45],[45,46,45],[46,45,46,46],[45,45],[45,46],[45,45,45],[46,45,45,46],[45,45,46,45],[46,45,46],[46,46,46],[45],[46,46,45],[46,46,46,45],[46,45,45],[45,46,46,45],[45,46,45,45],[45,45,46,46]]:List (List UInt8)).getD ((IntKind.wrap .u8 (a0-65)).toNat) default).getD i1 0).toNat:Int) == 46)then .ok (s1++([5]:List Int))else .ok (s1++([15]:List Int)))
def zwb (a0:Int):(List Int):=
 (match yf (ykl a0) (((([[46,45],[45,46,46,46],[45,46,45,46],[45,46,46],[46],[46,46,45,46],[45,45,46],[46,46,46,46],[46,46],[46,45,45,45],[45,46,45],[46,45,46,46],[45,45],[45,46],[45,45,45],[46,45,45,46],[45,45,46,45],[46,45,46],[46,46,46],[45],[46,46,45],[46,46,46,45],[46,45,45],[45,46,46,45],[45,46,45,45],[45,45,46,46]]:List (List UInt8)).getD ((IntKind.wrap .u8 (a0-65)).toNat) default).length)-0) 0 ([]:List Int)with|.error e=>e|.ok s1=>s1)
namespace N222
theorem DD:DOk Tryz.prog (Go.Ab.DD []):=yd _
theorem lx {p:Prop} (h:p:=by(exact lxx);first|done|fail):p:=h
theorem den (a0:Int) (hp0:65<=a0) (hp1:a0<=90):Den Tryz.prog 222 [.int .u8 a0] (ownL 2 1 yv (zwb a0)):=by
 generalize hR:zwb a0=r;unfold zwb at hR;refine di Tryz.func222 Tryz.ntmps222 Tryz.results222 ?_;intro c hL hc hk;clear hL;simp only[pars,Nat.zero_add];have hs9:=y31 (IntKind.wrap .u8 (a0-65)).toNat;have hw9:IntKind.wrap .u8 (a0-65)=a0-65:=yvk _ (by omega) (by omega);iterate 5 refine rS ?_
 refine AWP.block ?_;generalize hz1:yf (ykl a0) (((([[46,45],[45,46,46,46],[45,46,45,46],[45,46,46],[46],[46,46,45,46],[45,45,46],[46,46,46,46],[46,46],[46,45,45,45],[45,46,45],[46,45,46,46],[45,45],[45,46],[45,45,45],[46,45,45,46],[45,45,46,45],[46,45,46],[46,46,46],[45],[46,46,45],[46,46,46,45],[46,45,45],[45,46,46,45],[45,46,45,45],[45,45,46,46]]:List (List UInt8)).getD ((IntKind.wrap .u8 (a0-65)).toNat) default).length)-0) 0 ([]:List Int)=z1 at hR;refine AWP.range (ykl a0) (fun i1 s1=>⟨[(4,.str (([[46,45],[45,46,46,46],[45,46,45,46],[45,46,46],[46],[46,46,45,46],[45,45,46],[46,46,46,46],[46,46],[46,45,45,45],[45,46,45],[46,45,46,46],[45,45],[45,46],[45,45,45],[46,45,45,46],[45,45,46,45],[46,45,46],[46,46,46],[45],[46,46,45],[46,46,46,45],[46,45,45],[45,46,46,45],[45,46,45,45],[45,45,46,46]]:List (List UInt8)).getD ((IntKind.wrap .u8 (a0-65)).toNat) default)),(5,.ref 0 1 0 s1.length),(6,.int .i64 (i1:Int))],[.arr 2 1 s1.length (fun j=>yv (s1.getD j default))]⟩) (fun i1 s1=>s1.length<=([]:List Int).length+1 * i1/\s1.length<=i1) (((([[46,45],[45,46,46,46],[45,46,45,46],[45,46,46],[46],[46,46,45,46],[45,45,46],[46,46,46,46],[46,46],[46,45,45,45],[45,46,45],[46,45,46,46],[45,45],[45,46],[45,45,45],[46,45,45,46],[45,45,46,45],[46,45,46],[46,46,46],[45],[46,46,45],[46,46,46,45],[46,45,45],[45,46,46,45],[45,46,45,45],[45,45,46,46]]:List (List UInt8)).getD ((IntKind.wrap .u8 (a0-65)).toNat) default).length)) 0 ([]:List Int) [1] hz1 ot wt sm ?_;clear hz1;intro i1 s1 hi1 hW1 hz1;refine rS ?_;refine AWP.cond rfl (fun hb => ?_) (fun hb => ?_)
 ·have hlt1:i1<((([[46,45],[45,46,46,46],[45,46,45,46],[45,46,46],[46],[46,46,45,46],[45,45,46],[46,46,46,46],[46,46],[46,45,45,45],[45,46,45],[46,45,46,46],[45,45],[45,46],[45,45,45],[46,45,45,46],[45,45,46,45],[46,45,46],[46,46,46],[45],[46,46,45],[46,46,46,45],[46,45,45],[45,46,46,45],[45,46,45,45],[45,45,46,46]]:List (List UInt8)).getD ((IntKind.wrap .u8 (a0-65)).toNat) default).length):=ot
  rw[yk hlt1]at hz1;simp only[ykl]at hz1;refine rS ?_;refine AWP.cond rfl (fun hb => ?_) (fun hb => ?_)
  ·simp only[hb,cond_true]at hz1
   iterate 2 refine rS ?_
   exact⟨_,[2],hlt1,wt,hz1,sm⟩
  ·simp only[hb,cond_false]at hz1
   iterate 2 refine rS ?_
   exact⟨_,[2],hlt1,wt,hz1,sm⟩
 ·obtain rfl:i1=((([[46,45],[45,46,46,46],[45,46,45,46],[45,46,46],[46],[46,46,45,46],[45,45,46],[46,46,46,46],[46,46],[46,45,45,45],[45,46,45],[46,45,46,46],[45,45],[45,46],[45,45,45],[46,45,45,46],[45,45,46,45],[46,45,46],[46,46,46],[45],[46,46,45],[46,46,46,45],[46,45,45],[45,46,46,45],[45,46,45,45],[45,45,46,46]]:List (List UInt8)).getD ((IntKind.wrap .u8 (a0-65)).toNat) default).length):=ot
  rw[yl (Nat.le_refl _)]at hz1;subst hz1;dsimp only at hR;refine AWP.exit ?_;refine yb ?_;refine rS ?_;refine AWP.ret ?_;subst hR;exact es
end N222
def D_zwb : DF
 | [x0]=>some (ownL 2 1 yv (zwb (rdI x0)),false,[wI .u8 x0,65<=(rdI x0),(rdI x0)<=90])
 | _=>none
theorem yw1:OkD Tryz.prog 222 D_zwb:=by unfold D_zwb;exact dk N222.den
def zkc (a0:Int):Int:=
 (bif (a0 == 2)then 10 else(bif (a0 == 4)then 15 else(bif (a0 == 5)then 20 else(bif (a0 == 7)then 3 else 5))))
namespace N223
theorem DD:DOk Tryz.prog (Go.Ab.DD []):=yd _
theorem den (a0:Int)  : Den Tryz.prog 223 [.int .i64 a0] (.int .i64 (zkc a0)):=by
 generalize hR:zkc a0=r;unfold zkc at hR;refine di Tryz.func223 Tryz.ntmps223 Tryz.results223 ?_;intro c hL hc hk;clear hL;simp only[pars,Nat.zero_add];iterate 3 refine rS ?_
 refine AWP.cond rfl (fun hb => ?_) (fun hb => ?_)
 ·replace hR:=ct hR
  refine rS ?_;refine AWP.ret ?_;subst hR;exact es
 ·replace hR:=cf hR
  refine rS ?_;refine AWP.cond rfl (fun hb => ?_) (fun hb => ?_)
  ·replace hR:=ct hR
   refine rS ?_;refine AWP.ret ?_;subst hR;exact es
  ·replace hR:=cf hR
   refine rS ?_;refine AWP.cond rfl (fun hb => ?_) (fun hb => ?_)
   ·replace hR:=ct hR
    refine rS ?_;refine AWP.ret ?_;subst hR;exact es
   ·replace hR:=cf hR
    refine rS ?_;refine AWP.cond rfl (fun hb => ?_) (fun hb => ?_)
    ·replace hR:=ct hR
     refine rS ?_;refine AWP.ret ?_;subst hR;exact es
    ·replace hR:=cf hR
     refine rS ?_;refine AWP.ret ?_;subst hR;exact es
end N223
def D_zkc : DF
 | [x0]=>some (.int .i64 (zkc (rdI x0)),false,[wI .i64 x0])
 | _=>none
theorem yst:OkD Tryz.prog 223 D_zkc:=by unfold D_zkc;exact dk N223.den
def zke (a0:Int):Int:=
 (bif (a0 == 2)then 10 else(bif (a0 == 5)then 20 else(bif (a0 == 7)then 2 else 5)))
namespace N224
theorem DD:DOk Tryz.prog (Go.Ab.DD []):=yd _
theorem den (a0:Int)  : Den Tryz.prog 224 [.int .i64 a0] (.int .i64 (zke a0)):=by
 generalize hR:zke a0=r;unfold zke at hR;refine di Tryz.func224 Tryz.ntmps224 Tryz.results224 ?_;intro c hL hc hk;clear hL;simp only[pars,Nat.zero_add];iterate 3 refine rS ?_
 refine AWP.cond rfl (fun hb => ?_) (fun hb => ?_)
 ·replace hR:=ct hR
  refine rS ?_;refine AWP.ret ?_;subst hR;exact es
 ·replace hR:=cf hR
  refine rS ?_;refine AWP.cond rfl (fun hb => ?_) (fun hb => ?_)
  ·replace hR:=ct hR
   refine rS ?_;refine AWP.ret ?_;subst hR;exact es
  ·replace hR:=cf hR
   refine rS ?_;refine AWP.cond rfl (fun hb => ?_) (fun hb => ?_)
   ·replace hR:=ct hR
    refine rS ?_;refine AWP.ret ?_;subst hR;exact es
   ·replace hR:=cf hR
    refine rS ?_;refine AWP.ret ?_;subst hR;exact es
end N224
def D_zke : DF
 | [x0]=>some (.int .i64 (zke (rdI x0)),false,[wI .i64 x0])
 | _=>none
theorem yh2:OkD Tryz.prog 224 D_zke:=by unfold D_zke;exact dk N224.den
theorem y2f (a:Int):zwb a=(y6c.getD (IntKind.wrap .u8 (a-65)).toNat default).map (fun c=>if c=46 then(5:Int)else 15):=by
 have h:=y3e (ykl a) (fun j=>[if((y6c.getD (IntKind.wrap .u8 (a-65)).toNat default).getD j 0)=46 then(5:Int)else 15]) (y6c.getD (IntKind.wrap .u8 (a-65)).toNat default).length 0 [] (fun j s _ _=>by
  show(bif ((((y6c.getD (IntKind.wrap .u8 (a-65)).toNat default).getD j 0).toNat:Int) == 46)then(.ok (s++[5]):Except (List Int) (List Int))else .ok (s++[15]))=_;generalize (y6c.getD (IntKind.wrap .u8 (a-65)).toNat default).getD j 0=c;by_cases hc:c=46
  ·subst hc;rfl
  ·have:((c.toNat:Int) == 46)=false:=by
    rw[beq_eq_false_iff_ne];intro h;exact hc (UInt8.toNat_inj.1 (by show c.toNat=46;omega))
   rw[this,if_neg hc];rfl)
 have e:zwb a=(match yf (ykl a) (y6c.getD (IntKind.wrap .u8 (a-65)).toNat default).length 0 ([]:List Int)with|.error e=>e|.ok s1=>s1):=rfl;rw[e,h];simp only[List.nil_append];exact yyg _ 0 (fun c=>if c=46 then(5:Int)else 15)
theorem y2o (a:Int):(zwb a).length<=4:=by
 rw[y2f,List.length_map];exact yoj _
def zof (a0:Character):Int:=
 (bif (a0.Kind == 6)then 20 else(bif (a0.Kind == 7)then 10 else(bif (a0.Kind == 8)then 30 else(bif decide (1<(a0.Group.length:Int))then IntKind.wrap .i64 ((IntKind.wrap .i64 ((zkc a0.Kind)+5))+20)else IntKind.wrap .i64 ((zkc a0.Kind)+5)))))
namespace N212
theorem DD:DOk Tryz.prog (Go.Ab.DD [(223,dP D_zkc)]):=ya yst.e <| yd _
theorem dn:type_of% (@D_zkc.eq_1):=by and_intros<;>intros<;>rfl
theorem den (a0:Character)  : Den Tryz.prog 212 [.ep (yq a0)] (.int .i64 (zof a0)):=by
 generalize hR:zof a0=r;unfold zof at hR;refine di Tryz.func212 Tryz.ntmps212 Tryz.results212 ?_;intro c hL hc hk;obtain⟨hL0,_⟩:=hL;have hw0:bwCharacter a0:=yz a0 hL0;clear hL0;simp only[pars,Nat.zero_add];iterate 3 refine rS ?_
 refine AWP.cond rfl (fun hb => ?_) (fun hb => ?_)
 ·replace hR:=ct hR
  refine rS ?_;refine AWP.ret ?_;subst hR;exact es
 ·replace hR:=cf hR
  refine rS ?_;refine AWP.cond rfl (fun hb => ?_) (fun hb => ?_)
  ·replace hR:=ct hR
   refine rS ?_;refine AWP.ret ?_;subst hR;exact es
  ·replace hR:=cf hR
   refine rS ?_;refine AWP.cond rfl (fun hb => ?_) (fun hb => ?_)
   ·replace hR:=ct hR
    refine rS ?_;refine AWP.ret ?_;subst hR;exact es
   ·replace hR:=cf hR
    iterate 2 refine rS ?_
    refine AWP.cond rfl (fun hb => ?_) (fun hb => ?_)
    ·replace hR:=ct hR
     iterate 2 refine rS ?_
     refine AWP.ret ?_;subst hR;exact es
    ·replace hR:=cf hR
     refine rS ?_;refine AWP.ret ?_;subst hR;exact es
end N212
def D_zof : DF
 | [x0]=>some (.int .i64 (zof (rdP ye x0)),false,[wP yq ye x0])
 | _=>none
theorem yr2:OkD Tryz.prog 212 D_zof:=by unfold D_zof;exact dk N212.den
def ybp (a0:(List Int)) (i1:Nat) (s1:Int):Except (Int) (Int):=
 .ok (IntKind.wrap .i64 (s1+(a0.getD i1 default)))
def zre (a0:(List Int)):Int:=
 (bif ((a0.length:Int) == 0)then 1 else(match yf (ybp a0) (a0.length-0) 0 0 with|.error e=>e|.ok s1=>s1))
namespace N209
theorem DD:DOk Tryz.prog (Go.Ab.DD []):=yd _
theorem den (a0:(List Int))  : Den Tryz.prog 209 [encL 1 yv a0] (.int .i64 (zre a0)):=by
 generalize hR:zre a0=r;unfold zre at hR;refine di Tryz.func209 Tryz.ntmps209 Tryz.results209 ?_;intro c hL hc hk;obtain⟨hL0,_⟩:=hL;have hw0:a0.length<9223372036854775808:=Nat.lt_succ_of_le (yc hL0).1;clear hL0;simp only[pars,Nat.zero_add];iterate 2 refine rS ?_
 refine AWP.cond rfl (fun hb => ?_) (fun hb => ?_)
 ·replace hR:=ct hR
  refine rS ?_;refine AWP.ret ?_;subst hR;exact es
 ·replace hR:=cf hR
  iterate 2 refine rS ?_
  refine AWP.block ?_;generalize hz1:yf (ybp a0) (a0.length-0) 0 0=z1 at hR;refine AWP.range (ybp a0) (fun i1 s1=>⟨[(0,encL 1 yv a0),(3,.int .i64 s1),(4,.int .i64 (i1:Int))],[]⟩) (fun i1 s1=>True) (a0.length) 0 0 [] hz1 ot wt sm ?_;clear hz1;intro i1 s1 hi1 hW1 hz1;refine rS ?_;refine AWP.cond rfl (fun hb => ?_) (fun hb => ?_)
  ·have hlt1:i1<a0.length:=ot
   rw[yk hlt1]at hz1;simp only[ybp]at hz1;iterate 2 refine rS ?_
   exact⟨_,[],hlt1,wt,hz1,sm⟩
  ·obtain rfl:i1=a0.length:=ot
   rw[yl (Nat.le_refl _)]at hz1;subst hz1;dsimp only at hR;refine AWP.exit ?_;refine yb ?_;refine rS ?_;refine AWP.ret ?_;subst hR;exact es
end N209
def D_zre : DF
 | [x0]=>some (.int .i64 (zre (rdL yhb x0)),false,[wL 1 yv yhb x0])
 | _=>none
theorem yg0:OkD Tryz.prog 209 D_zre:=by unfold D_zre;exact dk N209.den
def yip (a0:(List Int)) (i1:Nat) (s1:Unit):Except (Bool) (Unit):=
 (bif (!(zv (a0.getD i1 default) 1 9))then .error false else .ok ())
def zlc (a0:(List Int)):Bool:=
 (match yf (yip a0) (a0.length-0) 0 ()with|.error e=>e|.ok s1=>((decide ((a0.length:Int)<=4) && (!(((a0.length:Int) == 1) && ((a0.getD 0 default) == 1)))) && decide ((zre a0)<=12)))
namespace N173
theorem DD:DOk Tryz.prog (Go.Ab.DD [(208,dP D_zv),(209,dP D_zre)]):=ya yyw.e <| ya yg0.e <| yd _
theorem dn:type_of% (And.intro @D_zv.eq_1 <| @D_zre.eq_1):=by and_intros<;>intros<;>rfl
theorem ol:type_of% (@zv.eq_1):=@zv.eq_1
theorem den (a0:(List Int))  : Den Tryz.prog 173 [encL 1 yv a0] (.bool (zlc a0)):=by
 generalize hR:zlc a0=r;unfold zlc at hR;refine di Tryz.func173 Tryz.ntmps173 Tryz.results173 ?_;intro c hL hc hk;obtain⟨hL0,_⟩:=hL;have hw0:a0.length<9223372036854775808:=Nat.lt_succ_of_le (yc hL0).1;clear hL0;simp only[pars,Nat.zero_add];iterate 2 refine rS ?_
 refine AWP.block ?_;generalize hz1:yf (yip a0) (a0.length-0) 0 ()=z1 at hR;refine AWP.range (yip a0) (fun i1 s1=>⟨[(0,encL 1 yv a0),(3,.int .i64 (i1:Int))],[]⟩) (fun i1 s1=>True) (a0.length) 0 () [] hz1 ot wt sm ?_;clear hz1;intro i1 s1 hi1 hW1 hz1;refine rS ?_;refine AWP.cond rfl (fun hb => ?_) (fun hb => ?_)
 ·have hlt1:i1<a0.length:=ot
  rw[yk hlt1]at hz1;simp only[yip]at hz1;refine rS ?_;refine AWP.cond rfl (fun hb => ?_) (fun hb => ?_)
  ·simp only[hb,cond_true]at hz1
   refine rS ?_;refine AWP.ret ?_;subst hz1;dsimp only at hR;subst hR;exact es
  ·simp only[hb,cond_false]at hz1
   refine rS ?_;exact⟨_,[],hlt1,wt,hz1,sm⟩
 ·obtain rfl:i1=a0.length:=ot
  rw[yl (Nat.le_refl _)]at hz1;subst hz1;dsimp only at hR;refine AWP.exit ?_;refine yb ?_;refine rS ?_;refine AWP.ret ?_;subst hR;exact es
end N173
def D_zlc : DF
 | [x0]=>some (.bool (zlc (rdL yhb x0)),false,[wL 1 yv yhb x0])
 | _=>none
theorem y80:OkD Tryz.prog 173 D_zlc:=by unfold D_zlc;exact dk N173.den
def zwg (a0:Int):Bool:=
 (zv a0 1 8)
def zug (a0:Int):Int:=
 (bif (a0 == 87)then 1 else(bif (a0 == 82)then 2 else(bif (a0 == 71)then 3 else(bif (a0 == 89)then 4 else 0))))
def yfh (a0:(List UInt8)) (i1:Nat) (s1:Unit):Except (Bool) (Unit):=
 (bif (((zug ((a0.getD i1 0).toNat:Int)) == 0) || (decide (0<(i1:Int)) && decide ((zug ((a0.getD i1 0).toNat:Int))<=(zug ((a0.getD ((IntKind.wrap .i64 ((i1:Int)-1)).toNat) 0).toNat:Int)))))then .error false else .ok ())
def zmc (a0:(List UInt8)):Bool:=
 (match yf (yfh a0) (a0.length-0) 0 ()with|.error e=>e|.ok s1=>(decide (1<=(a0.length:Int)) && decide ((a0.length:Int)<=3)))
def ztg (a0:Character):Bool:=
 (bif ((!(zwg a0.Kind)) || (!(zmc a0.Colors)))then false else(bif (a0.Kind == 1)then(((a0.Group.length:Int) == 0) && (a0.Letter == []))else(bif (a0.Kind == 3)then(((a0.Group.length:Int) == 0) && (a0.Letter == []))else(bif (a0.Kind == 6)then(bif (a0.Letter == [76])then(((a0.Group.length:Int) == 1) && ((a0.Group.getD 0 default) == 6))else(((a0.Letter == []) && decide ((a0.Group.length:Int)<=1)) && (zlc a0.Group)))else(bif (a0.Kind == 7)then(bif (a0.Letter == [76])then(((a0.Group.length:Int) == 1) && ((a0.Group.getD 0 default) == 6))else(((a0.Letter == []) && decide ((a0.Group.length:Int)<=1)) && (zlc a0.Group)))else(bif (a0.Kind == 8)then(((((a0.Group.length:Int) == 0) && ((a0.Letter.length:Int) == 1)) && decide (65<=((a0.Letter.getD 0 0).toNat:Int))) && decide (((a0.Letter.getD 0 0).toNat:Int)<=90))else((a0.Letter == []) && (zlc a0.Group))))))))
def y7q (a0:(List Sector)) (i1:Nat) (s1:List UInt8) (i2:Nat) (s2:List UInt8):Except (Sum ((List UInt8)) (List UInt8)) (List UInt8):=
 (bif (((a0.getD i2 default).Color) == ([[87],[82],[71],[89]].getD i1 default))then .error (.inr (s2++([[87],[82],[71],[89]].getD i1 default)))else .ok s2)
def yjl (a0:(List Sector)) (i1:Nat) (s1:List UInt8):Except ((List UInt8)) (List UInt8):=
 (match yf (y7q a0 i1 s1) (a0.length-0) 0 s1 with|.error (.inl e)=>.error e|.error (.inr s2)=>.ok s2|.ok s2=>.ok s2)
def zlb (a0:(List Sector)):(List UInt8):=
 (match yf (yjl a0) (4-0) 0 []with|.error e=>e|.ok s1=>s1)
namespace N125
theorem DD:DOk Tryz.prog (Go.Ab.DD []):=yd _
theorem o0 {p:Prop} (h:p:=by(first|(have h4:=hq4 i1;have h1:=hW1;have h2:=hW2;and_intros<;>omega));first|done|fail):p:=h
theorem lx {p:Prop} (h:p:=by(exact lxx);first|done|fail):p:=h
theorem den (a0:(List Sector)) (hb0:a0.length<1099511627776) (hb1:∀ v∈a0,bdSector v):Den Tryz.prog 125 [encL 3 yx a0] (.str (zlb a0)):=by
 generalize hR:zlb a0=r;unfold zlb at hR;refine di Tryz.func125 Tryz.ntmps125 Tryz.results125 ?_;intro c hL hc hk;obtain⟨hL0,_⟩:=hL;have hw0:a0.length<9223372036854775808:=Nat.lt_succ_of_le (yc hL0).1;have hw1:∀ v∈a0,bwSector v:=fun v hv=>yob v ((yc hL0).2 v hv)
 clear hL0;simp only[pars,Nat.zero_add];have hq4:∀ i:Nat,(([[87],[82],[71],[89]]:List (List UInt8)).getD i default).length<=1:=fun i=>by rcases i with _|_|_|_|i<;>first|exact Nat.le_refl _|exact Nat.zero_le _
 iterate 4 refine rS ?_
 refine AWP.block ?_;generalize hz1:yf (yjl a0) (4-0) 0 []=z1 at hR;refine AWP.range (yjl a0) (fun i1 s1=>⟨[(0,encL 3 yx a0),(3,.str s1),(4,.ref 0 1 0 4),(5,.int .i64 (i1:Int))],[.arr 9 1 [[87],[82],[71],[89]].length (fun j=>eS ([[87],[82],[71],[89]].getD j default))]⟩) (fun i1 s1=>s1.length<=i1) (4) 0 [] [0] hz1 ot (by(simp)) sm ?_;clear hz1;intro i1 s1 hi1 hW1 hz1;refine rS ?_;refine AWP.cond rfl (fun hb => ?_) (fun hb => ?_)
 ·have hlt1:i1<4:=ot
  rw[yk hlt1]at hz1;simp only[yjl]at hz1;refine rS ?_;refine AWP.block ?_;generalize hz2:yf (y7q a0 i1 s1) (a0.length-0) 0 s1=z2 at hz1;refine AWP.range (y7q a0 i1 s1) (fun i2 s2=>⟨[(0,encL 3 yx a0),(3,.str s2),(4,.ref 0 1 0 4),(5,.int .i64 (i1:Int)),(6,.int .i64 (i2:Int))],[.arr 9 1 [[87],[82],[71],[89]].length (fun j=>eS ([[87],[82],[71],[89]].getD j default))]⟩) (fun i2 s2=>s2.length<=i1) (a0.length) 0 s1 [0] hz2 ot (by(exact hW1)) sm ?_;clear hz2;intro i2 s2 hi2 hW2 hz2;refine rS ?_;refine AWP.cond rfl (fun hb => ?_) (fun hb => ?_)
  ·have hlt2:i2<a0.length:=ot
   rw[yk hlt2]at hz2;simp only[y7q]at hz2;refine rD 9 ?_;refine AWP.cond rfl (fun hb => ?_) (fun hb => ?_)
   ·simp only[hb,cond_true]at hz2
    refine rS ?_;refine AWP.exit ?_;refine yni rfl ?_;refine yb ?_;subst hz2;dsimp only at hz1;refine rS ?_;exact⟨_,[0],hlt1,by(have h4:=hq4 i1;simp only[ln]at *;omega),hz1,sm⟩
   ·simp only[hb,cond_false]at hz2
    refine rS ?_;exact⟨_,[0],hlt2,by(first|exact hW2|assumption),hz2,sm⟩
  ·obtain rfl:i2=a0.length:=ot
   rw[yl (Nat.le_refl _)]at hz2;subst hz2;dsimp only at hz1;refine AWP.exit ?_;refine yb ?_;refine rS ?_;exact⟨_,[0],hlt1,by(have h4:=hq4 i1;simp only[ln]at *;omega),hz1,sm⟩
 ·obtain rfl:i1=4:=ot
  rw[yl (Nat.le_refl _)]at hz1;subst hz1;dsimp only at hR;refine AWP.exit ?_;refine yb ?_;refine rS ?_;refine AWP.ret ?_;subst hR;exact es
end N125
def D_zlb : DF
 | [x0]=>some (.str (zlb (rdL yab x0)),false,[wL 3 yx yab x0,(rdL yab x0).length<1099511627776,∀ v∈(rdL yab x0),bdSector v])
 | _=>none
theorem yh1:OkD Tryz.prog 125 D_zlb:=by unfold D_zlb;exact dk N125.den
def zng (a0:(List Int)):(List Int):=
 ([]:List Int)++a0
namespace N213
theorem DD:DOk Tryz.prog (Go.Ab.DD []):=yd _
theorem den (a0:(List Int)) (hb0:a0.length<1099511627776):Den Tryz.prog 213 [encL 1 yv a0] (ownL 2 1 yv (zng a0)):=by
 generalize hR:zng a0=r;unfold zng at hR;refine di Tryz.func213 Tryz.ntmps213 Tryz.results213 ?_;intro c hL hc hk;obtain⟨hL0,_⟩:=hL;have hw0:a0.length<9223372036854775808:=Nat.lt_succ_of_le (yc hL0).1;clear hL0;simp only[pars,Nat.zero_add];iterate 2 refine rS ?_
 refine AWP.ret ?_;subst hR;exact es
end N213
def D_zng : DF
 | [x0]=>some (ownL 2 1 yv (zng (rdL yhb x0)),false,[wL 1 yv yhb x0,(rdL yhb x0).length<1099511627776])
 | _=>none
theorem yd3:OkD Tryz.prog 213 D_zng:=by unfold D_zng;exact dk N213.den
def zog (a0:Character):Character:=
 { Kind:=a0.Kind,Group:=(zng a0.Group),Letter:=a0.Letter,Colors:=a0.Colors,Period:=a0.Period:Character }
namespace N177
theorem DD:DOk Tryz.prog (Go.Ab.DD [(213,dP D_zng)]):=ya yd3.e <| yd _
theorem dn:type_of% (@D_zng.eq_1):=by and_intros<;>intros<;>rfl
theorem den (a0:Character) (hb0:bdCharacter a0):Den Tryz.prog 177 [.ep (yq a0)] (.agg (ypb (zog a0))):=by
 generalize hR:zog a0=r;unfold zog at hR;refine di Tryz.func177 Tryz.ntmps177 Tryz.results177 ?_;intro c hL hc hk;obtain⟨hL0,_⟩:=hL;have hw0:bwCharacter a0:=yz a0 hL0;clear hL0;simp only[pars,Nat.zero_add];iterate 4 refine rS ?_
 refine AWP.ret ?_;subst hR;exact es
end N177
def D_zog : DF
 | [x0]=>some (.agg (ypb (zog (rdP ye x0))),false,[wP yq ye x0,bdCharacter (rdP ye x0)])
 | _=>none
theorem yf3:OkD Tryz.prog 177 D_zog:=by unfold D_zog;exact dk N177.den
def zgf (a0:Aid):Aid:=
 { Number:=a0.Number,Name:=a0.Name,At:=a0.At,Height:=a0.Height,Mark:=a0.Mark,Light:=zog a0.Light,Sectors:=([]:List Sector)++a0.Sectors,Intensity:=a0.Intensity:Aid }
namespace N127
theorem DD:DOk Tryz.prog (Go.Ab.DD [(177,dP D_zog)]):=ya yf3.e <| yd _
theorem dn:type_of% (@D_zog.eq_1):=by and_intros<;>intros<;>rfl
theorem den (a0:Aid) (hb0:bdAid a0):Den Tryz.prog 127 [.ep (eAid a0)] (.agg (yud (zgf a0))):=by
 generalize hR:zgf a0=r;unfold zgf at hR;refine di Tryz.func127 Tryz.ntmps127 Tryz.results127 ?_;intro c hL hc hk;obtain⟨hL0,_⟩:=hL;have hw0:bwAid a0:=ylb a0 hL0;clear hL0;simp only[pars,Nat.zero_add];iterate 5 refine rS ?_
 refine AWP.ret ?_;subst hR;exact es
end N127
def D_zgf : DF
 | [x0]=>some (.agg (yud (zgf (rdP dAid x0))),false,[wP eAid dAid x0,bdAid (rdP dAid x0)])
 | _=>none
theorem ybu:OkD Tryz.prog 127 D_zgf:=by unfold D_zgf;exact dk N127.den
def y9l (a0:(List Aid)) (i1:Nat) (s1:List Aid):Except ((List Aid)) (List Aid):=
 .ok (s1++[zgf (a0.getD i1 default)])
def zce (a0:(List Aid)):(List Aid):=
 (match yf (y9l a0) (a0.length-0) 0 ([]:List Aid)with|.error e=>e|.ok s1=>s1)
namespace N126
theorem DD:DOk Tryz.prog (Go.Ab.DD [(127,dP D_zgf)]):=ya ybu.e <| yd _
theorem dn:type_of% (@D_zgf.eq_1):=by and_intros<;>intros<;>rfl
theorem den (a0:(List Aid)) (hb0:a0.length<1099511627776) (hb1:∀ v∈a0,bdAid v) (hp0:a0.length<=1073741824):Den Tryz.prog 126 [encL 16 eAid a0] (ownL 69 16 yud (zce a0)):=by
 generalize hR:zce a0=r;unfold zce at hR;refine di Tryz.func126 Tryz.ntmps126 Tryz.results126 ?_;intro c hL hc hk;obtain⟨hL0,_⟩:=hL;have hw0:a0.length<9223372036854775808:=Nat.lt_succ_of_le (yc hL0).1;have hw1:∀ v∈a0,bwAid v:=fun v hv=>ylb v ((yc hL0).2 v hv)
 clear hL0;simp only[pars,Nat.zero_add];iterate 3 refine rS ?_
 refine AWP.block ?_;generalize hz1:yf (y9l a0) (a0.length-0) 0 ([]:List Aid)=z1 at hR;refine AWP.range (y9l a0) (fun i1 s1=>⟨[(0,encL 16 eAid a0),(3,.ref 0 16 0 s1.length),(4,.int .i64 (i1:Int))],[.arr 69 16 s1.length (fun j=>yud (s1.getD j default))]⟩) (fun i1 s1=>s1.length<=([]:List Aid).length+1 * i1) (a0.length) 0 ([]:List Aid) [0] hz1 ot wt sm ?_;clear hz1;intro i1 s1 hi1 hW1 hz1;refine rS ?_;refine AWP.cond rfl (fun hb => ?_) (fun hb => ?_)
 ·have hlt1:i1<a0.length:=ot
  rw[yk hlt1]at hz1;simp only[y9l]at hz1;iterate 2 refine rS ?_
  exact⟨_,[4],hlt1,wt,hz1,sm⟩
 ·obtain rfl:i1=a0.length:=ot
  rw[yl (Nat.le_refl _)]at hz1;subst hz1;dsimp only at hR;refine AWP.exit ?_;refine yb ?_;refine rS ?_;refine AWP.ret ?_;subst hR;exact es
end N126
def D_zce : DF
 | [x0]=>some (ownL 69 16 yud (zce (rdL dAid x0)),false,[wL 16 eAid dAid x0,(rdL dAid x0).length<1099511627776,∀ v∈(rdL dAid x0),bdAid v,(rdL dAid x0).length<=1073741824])
 | _=>none
theorem yv2:OkD Tryz.prog 126 D_zce:=by unfold D_zce;exact dk N126.den
theorem yk1 {ρ α:Type} [Inhabited α] (l:List α) (b:Nat->List α->Except ρ (List α)) (hb:∀ i s,b i s=.ok (s++[l.getD i default])):yf b (l.length-0) 0 ([]:List α)=.ok l:=by
 obtain⟨t,h1,h2⟩:=yy (b:=b) (fun i s=>s=l.take i) (k:=l.length-0) (i:=0) (s:=[]) (by simp) (by
  intro j u _ hj h;subst h
  exact⟨_,hb j _,(y3k l j (by omega)).symm⟩)
 rw[h1,h2];simp
theorem ydp (a:Aid):zgf a=a:=by simp[zgf,zog,zng]
theorem yjh (l:List Aid):zce l=l:=by
 unfold zce;rw[yk1 l (y9l l) (fun i s=>by simp only[y9l,ydp])]
def y7k (a0:(List Aid)) (a1:Aid) (s1:Int):Except (Sum (((List Aid)×Int)) (Int)) (Int):=
 (bif (decide (s1<(a0.length:Int)) && decide (((a0.getD ((s1).toNat) default).Number)<a1.Number))then .ok (IntKind.wrap .i64 (s1+1))else .error (.inr s1))
def znc (a0:(List Aid)) (a1:Aid):((List Aid)×Int):=
 (match yeb (y7k a0 a1) ((a0.length-((0:Int)).toNat)+1) 0 with|.error (.inl e)=>e|.error (.inr s1)=>(bif (decide (s1<(a0.length:Int)) && (((a0.getD ((s1).toNat) default).Number) == a1.Number))then([],4)else(bif ((a0.length:Int) == 24)then([],5)else(((zce (subL a0 0 ((s1).toNat)))++[zgf a1])++(zce (subL a0 ((s1).toNat) (a0.length-(s1).toNat))),0)))|.ok _=>default)
namespace N84
theorem DD:DOk Tryz.prog (Go.Ab.DD [(126,dP D_zce),(127,dP D_zgf)]):=ya yv2.e <| ya ybu.e <| yd _
theorem dn:type_of% (And.intro @D_zce.eq_1 <| @D_zgf.eq_1):=by and_intros<;>intros<;>rfl
theorem ol:type_of% (@yjh):=@yjh
theorem den (a0:(List Aid)) (a1:Aid) (hb0:a0.length<1099511627776) (hb1:∀ v∈a0,bdAid v) (hb2:bdAid a1) (hp0:a0.length<=1073741824):Den Tryz.prog 84 [encL 16 eAid a0,.ep (eAid a1)] (.tup [ownL 69 16 yud ((znc a0 a1).1),.int .i64 ((znc a0 a1).2)]):=by
 generalize hR:znc a0 a1=r;unfold znc at hR;refine di Tryz.func84 Tryz.ntmps84 Tryz.results84 ?_;intro c hL hc hk;obtain⟨hL0,hL1,_⟩:=hL;have hw0:a0.length<9223372036854775808:=Nat.lt_succ_of_le (yc hL0).1;have hw1:∀ v∈a0,bwAid v:=fun v hv=>ylb v ((yc hL0).2 v hv)
 have hw2:bwAid a1:=ylb a1 hL1;clear hL0 hL1;simp only[pars,Nat.zero_add];iterate 2 refine rS ?_
 refine AWP.seq ?_;refine AWP.block ?_;generalize hz1:yeb (y7k a0 a1) ((a0.length-((0:Int)).toNat)+1) 0=z1 at hR;refine AWP.whileW (y7k a0 a1) (fun s1=>⟨[(0,encL 16 eAid a0),(1,.ep (eAid a1)),(6,.int .i64 s1)],[]⟩) (fun s1=>0<=s1/\s1<=a0.length) (fun s1=>a0.length-(s1).toNat) ((a0.length-((0:Int)).toNat)+1) 0 [] hz1 m0 wt sm ?_;clear hz1;intro s1 k1 hW1 hm1 hz1;simp only[y7k]at hz1;refine rD 16 ?_;refine AWP.cond rfl (fun hb => ?_) (fun hb => ?_)
 ·simp only[hb,cond_true]at hz1
  refine rS ?_;exact⟨_,[],ms,wt,hz1,sm⟩
 ·simp only[hb,cond_false]at hz1
  refine AWP.exit ?_;refine yb ?_;subst hz1;dsimp only at hR;refine rD 16 ?_;refine AWP.cond rfl (fun hb => ?_) (fun hb => ?_)
  ·replace hR:=ct hR
   refine rS ?_;refine AWP.ret ?_;subst hR;exact es
  ·replace hR:=cf hR
   refine rS ?_;refine AWP.cond rfl (fun hb => ?_) (fun hb => ?_)
   ·replace hR:=ct hR
    refine rS ?_;refine AWP.ret ?_;subst hR;exact es
   ·replace hR:=cf hR
    iterate 3 refine rS ?_
    refine AWP.ret ?_;subst hR;exact es
end N84
def D_znc : DF
 | [x0,x1]=>some (.tup [ownL 69 16 yud ((znc (rdL dAid x0) (rdP dAid x1)).1),.int .i64 ((znc (rdL dAid x0) (rdP dAid x1)).2)],false,[wL 16 eAid dAid x0,wP eAid dAid x1,(rdL dAid x0).length<1099511627776,∀ v∈(rdL dAid x0),bdAid v,bdAid (rdP dAid x1),(rdL dAid x0).length<=1073741824])
 | _=>none
theorem yu2:OkD Tryz.prog 84 D_znc:=by unfold D_znc;exact dk N84.den
end Go.Ab
