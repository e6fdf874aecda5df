/- A part of a proof: walks of functions and lemmas of our own. No conditions. -/
import Derived.Test.YtijmcongeemehaaGreatDoorFAl
import Derived.Test.YtijmcongeemehaaGreatDoorFAq
import Derived.Test.YtijmcongeemehaaGreatDoorFAx
import Derived.Test.YtijmcongeemehaaGreatDoorFAy
import Derived.Test.YtijmcongeemehaaGreatDoorFAu
import Derived.Test.YtijmcongeemehaaGreatDoorFAr
import Derived.Test.YtijmcongeemehaaGreatDoorFAt
set_option linter.unusedSectionVars false
set_option linter.unusedVariables false
set_option linter.unusedSimpArgs false
set_option maxHeartbeats 1000000
namespace Go.Ab
open Go Go.Proofs
def zhe (a0:Int):(List UInt8):=
 (bif ((a0.tmod 10) == 0)then(zu (IntKind.wrap .i64 (a0.tdiv 10)))else((zu (IntKind.wrap .i64 (a0.tdiv 10)))++[46])++(zu (a0.tmod 10)))
namespace N142
theorem DD:DOk Tryz.prog (Go.Ab.DD [(63,dP D_zu)]):=ya y6j.e <| ye _
theorem dn:type_of% (@D_zu.eq_1):=by and_intros<;>intros<;>rfl
theorem gr {p:Prop} (h:p:=by(grind [yxe]);first|done|fail):p:=h
set_option maxHeartbeats 400000 in
set_option maxRecDepth 20000 in
theorem den (a0:Int) (hp0 : -9223372036854775808<=a0) (hp1:a0<=9223372036854775807):Den Tryz.prog 142 [.int .i64 a0] (.str (zhe a0)):=by
 generalize hR:zhe a0=r;unfold zhe at hR;refine di Tryz.func142 Tryz.ntmps142 Tryz.results142 ?_;intro c hL hc hk;clear hL;simp only[pars,Nat.zero_add];have h1:=yvm (a0.tdiv 10);have ht:=ybv a0;have h2:=y4e (a0.tmod 10) (by omega) (by omega);iterate 2 refine rS ?_
 refine AWP.cond rfl (fun hb => ?_) (fun hb => ?_)
 ·replace hR:=ct hR
  refine rS ?_;refine AWP.ret ?_;subst hR;exact es
 ·replace hR:=cf hR
  refine rS ?_;refine AWP.ret ?_;subst hR;exact es
end N142
def D_zhe : DF
 | [x0]=>some (.str (zhe (rdI x0)),false,[wI .i64 x0,-9223372036854775808<=(rdI x0),(rdI x0)<=9223372036854775807])
 | _=>none
theorem yfv:OkD Tryz.prog 142 D_zhe:=by unfold D_zhe;exact dk N142.den
theorem yzb (a:Character) (h:zib a=true):zqb a=true:=by
 unfold zib at h
 cases hf:zqb a with
 | true=>rfl
 | false=>rw[hf]at h;simp at h
theorem yq3 (a:Character) (h:zib a=true):a.Period<=600:=by
 unfold zib at h
 cases h1:((!(zic a.Colors)) || (!(zqb a)))with
 | true=>rw[h1]at h;cases h
 | false=>
  rw[h1]at h
  cases h2:zid a with
  | true=>rw[h2]at h;simp at h;omega
  | false=>rw[h2]at h;simp[zk]at h;omega
theorem ymc (a:Character) (h:zib a=true):a.Group.length<=4/\(∀ v∈a.Group,1<=v/\v<=9)/\a.Period<=600:=by
 have h1:=y7c a (yzb a h);exact⟨h1.1,h1.2,yq3 a h⟩
theorem yvp (a:Character) (h1:a.Group.length<=4) (h2:∀ v∈a.Group,1<=v/\v<=9):(zpd a).length<=200+a.Letter.length:=by
 unfold zpd;have hk:=ydu a.Kind
 obtain⟨t,q1,q2,q3⟩:=yqb (b:=y1m a) (fun i s=>s.length=i/\∀ v∈s,v.length<=20) (k:=a.Group.length-0) (i:=0) (s:=[]) ⟨rfl,by simp⟩ (fun j u _ _ h=>⟨_,rfl,by simp[h.1],fun v hv=>by
  rcases List.mem_append.1 hv with h9|h9
  ·exact h.2 v h9
  ·rw[List.mem_singleton]at h9;subst h9
   have:=yzg h2 j
   exact y4e _ (by omega) (by omega)⟩)
 rw[q1];have hj:=(yfl t q3).1;simp only[Bool.cond_eq_ite];repeat' split
 all_goals ((try simp only[List.length_append,List.length_cons,List.length_nil]);omega)
theorem ygq (a:Character) (h:zib a=true):(zid a=true/\a.Period=0)\/(zid a=false/\0<a.Period/\a.Period<=600):=by
 have hf:=yzb a h;unfold zib at h
 cases h1:((!(zic a.Colors)) || (!(zqb a)))with
 | true=>rw[h1]at h;cases h
 | false=>
  rw[h1]at h
  cases h2:zid a with
  | true=>rw[h2]at h;left;simpa using h
  | false=>
   rw[h2,yov a hf h2]at h;have:=yax a hf h2;right
   simp[zk]at h
   exact⟨rfl,by omega,by omega⟩
theorem y2c (a:Character) (h:zib a=true):0<=a.Period:=by
 rcases ygq a h with⟨_,h⟩|⟨_,h,_⟩<;>omega
theorem y8c (a:Character) (h:zqb a=true):1<=a.Kind/\a.Kind<=8:=by
 unfold zqb at h;simp only[Bool.cond_eq_ite]at h;repeat' split at h
 all_goals (try simp only[beq_iff_eq]at *)
 all_goals first|omega|(cases h;done)
theorem yo4 (a:Character) (hl:a.Colors.length<9223372036854775808) (h:ztb a=true):a.Group.length<=4/\(∀ v∈a.Group,1<=v/\v<=9)/\1<=a.Kind/\a.Kind<=8/\0<=a.Period/\a.Period<=600:=by
 rw[<- yre a hl]at h;have h1:=ymc a h;have h2:=y8c a (yzb a h);exact⟨h1.1,h1.2.1,h2.1,h2.2,y2c a h,h1.2.2⟩
theorem ywr (n:Int) (h1 : -9223372036854775808<=n) (h2:n<=9223372036854775807):(zhe n).length<=41:=by
 unfold zhe;have h3:=yvm (n.tdiv 10);have ht:=ybv n;have h4:=y4e (n.tmod 10) (by omega) (by omega);simp only[Bool.cond_eq_ite];split
 ·omega
 ·simp only[List.length_append,List.length_cons,List.length_nil];omega
theorem ymy {p:Point} (h:zdc p=true):0<=p.X/\p.X<=200000/\0<=p.Y/\p.Y<=200000:=by
 simp[zdc,zn]at h;omega
theorem yvd {a:List Sector} (h:zy a=true):a.length<=12/\∀ i,i<a.length->zfc (a.getD i default)=true:=by
 unfold zy at h
 cases h12:decide (12<(a.length:Int))with
 | true=>rw[h12]at h;cases h
 | false=>
  rw[h12]at h;have h12:=of_decide_eq_false h12;refine⟨by omega,fun i hi => ?_⟩;rcases yee (b:=yms a) (secQ a) (fun _ u=>u) false (k:=a.length-0) (i:=0) (s:=()) (fun j u _ _=>by cases u;rfl)with⟨_,e1⟩|⟨hq,_⟩
  ·rw[e1]at h;cases h
  ·exact((ybo a i (by omega)).1 (hq i (Nat.zero_le _) (by omega))).1
theorem y6s {c:List UInt8} (h:zee c=true):c=[87]\/c=[82]\/c=[71]\/c=[89]:=by
 unfold zee at h;simp only[Bool.or_eq_true,beq_iff_eq]at h;rcases h with((h|h)|h)|h
 ·exact .inl h
 ·exact .inr (.inl h)
 ·exact .inr (.inr (.inl h))
 ·exact .inr (.inr (.inr h))
theorem yne {a:List Sector} (h:zy a=true):a.length<=12/\∀ i,0<=(a.getD i default).From/\(a.getD i default).From<=359/\0<=(a.getD i default).To/\(a.getD i default).To<=359/\(a.getD i default).Color.length<=1:=by
 obtain⟨h1,h2⟩:=yvd h;refine⟨h1,fun i => ?_⟩;by_cases hi:i<a.length
 ·have h3:=h2 i hi
  have hb:=yio h3;unfold zfc at h3;rw[Bool.and_eq_true]at h3;refine⟨hb.1.1,hb.1.2,hb.2.1,hb.2.2,?_⟩;rcases y6s h3.2 with h|h|h|h<;>rw[h]<;>decide
 ·rw[List.getD_eq_getElem?_getD,List.getElem?_eq_none (by omega)]
  decide
theorem yrm {m:Mark} (h:zuc m=true):(m.Kind=0/\m.Colors=[]/\m.Shape=[]/\m.Topmark=[]) \/
  (zac m.Kind=true/\m.Colors=zkd m.Kind/\(m.Topmark=[]\/m.Topmark=znd m.Kind)/\m.Shape∈zhb m.Kind):=by
 rw[show zuc m=zrb m from rfl]at h;unfold zrb at h;by_cases hk:m.Kind=0
 ·left
  rw[show(m.Kind == 0)=true by simp[hk]]at h;simp only[cond_true,Bool.and_eq_true,beq_iff_eq]at h;exact⟨hk,h.2.1,h.2.2.1,h.2.2.2⟩
 ·right
  rw[show(m.Kind == 0)=false by simp[hk],cond_false]at h
  cases hc:(((!(zac m.Kind)) || (m.Colors != (zkd m.Kind))) || ((m.Topmark != []) && (m.Topmark != (znd m.Kind))))with
  | true=>rw[hc]at h;cases h
  | false=>
   rw[hc,cond_false]at h;have h:=(ysm m).symm.trans h;rw[List.any_eq_true]at h;simp only[Bool.or_eq_false_iff,Bool.not_eq_false',Bool.and_eq_false_iff,bne_eq_false_iff_eq]at hc;obtain⟨y,hy,he⟩:=h;exact⟨hc.1.1,hc.1.2,hc.2,by rw[<- eq_of_beq he];exact hy⟩
theorem y8g {m:Mark} (h:zuc m=true):0<=m.Kind/\m.Kind<=9/\m.Colors.length<=3/\m.Shape.length<=6/\m.Topmark.length<=5:=by
 rcases yrm h with⟨h1,h2,h3,h4⟩|⟨h1,h2,h3,h4⟩
 ·rw[h1,h2,h3,h4];simp
 ·have hk:=h1
  unfold zac zn at hk;simp only[Bool.and_eq_true,decide_eq_true_eq]at hk;refine⟨by omega,by omega,?_,?_,?_⟩
  ·rw[h2];rcases ykg h1 with e|e|e|e|e|e|e|e|e<;>rw[e]<;>decide
  ·have hs:∀ y∈zhb m.Kind,y.length<=6:=by rcases ykg h1 with e|e|e|e|e|e|e|e|e<;>rw[e]<;>decide
   exact hs _ h4
  ·rcases h3 with e|e
   ·rw[e];decide
   ·rw[e];rcases ykg h1 with e|e|e|e|e|e|e|e|e<;>rw[e]<;>decide
theorem y3s:zy []=true:=by decide
theorem y6e {a:Aid} (h:zmb a=true):1<=a.Number/\a.Number<=9999/\zlc a.Name=true/\zdc a.At=true/\0<=a.Height/\a.Height<=3000/\zuc a.Mark=true /\
  (zpf a=true->ztb a.Light=true)/\zy a.Sectors=true/\0<=a.Intensity/\a.Intensity<=100000000:=by
 unfold zmb at h
 cases hc:(((((!(zn a.Number 1 9999)) || (!(zlc a.Name))) || (!(zdc a.At))) || (!(zn a.Height 0 3000))) || (!(zuc a.Mark)))with
 | true=>rw[hc]at h;cases h
 | false=>
  rw[hc,cond_false]at h;simp only[Bool.or_eq_false_iff,Bool.not_eq_false']at hc;obtain⟨⟨⟨⟨c1,c2⟩,c3⟩,c4⟩,c5⟩:=hc;simp only[zn,Bool.and_eq_true,decide_eq_true_eq]at c1 c4
  have fin:(zpf a=true->ztb a.Light=true)/\zy a.Sectors=true/\0<=a.Intensity/\a.Intensity<=100000000:=by
   cases hp:zvc a.Light with
   | true=>
    rw[hp,cond_true,Bool.and_eq_true,beq_iff_eq,beq_iff_eq]at h;have hs:a.Sectors=[]:=List.length_eq_zero_iff.1 (by omega);refine⟨fun hl => ?_,by rw[hs];exact y3s,by omega,by omega⟩;unfold zvc at hp;simp only[Bool.and_eq_true,beq_iff_eq]at hp;unfold zpf at hl;rw[bne_iff_ne]at hl;exact absurd hp.1.1.1.1 hl
   | false=>
    rw[hp,cond_false]at h
    cases hd:(((!(ztb a.Light)) || (!(zn a.Intensity 1 100000000))) || (!(zy a.Sectors)))with
    | true=>rw[hd]at h;cases h
    | false=>
     simp only[Bool.or_eq_false_iff,Bool.not_eq_false',zn,Bool.and_eq_true,decide_eq_true_eq]at hd;exact⟨fun _=>hd.1.1,hd.2,by omega,by omega⟩
  exact⟨c1.1,c1.2,c2,c3,c4.1,c4.2,c5,fin⟩
theorem ybu {s:List UInt8} (h:zlc s=true):s.length<=10:=((yjg s).1 h).2.1
theorem y64 {a:Aid} (h:zmb a=true) (hl:a.Light.Colors.length<9223372036854775808):zne a=zpf a:=by
 have hr:=y6e h;have hsl:=(yne hr.2.2.2.2.2.2.2.2.1).1;unfold zmb at h
 cases hc:(((((!(zn a.Number 1 9999)) || (!(zlc a.Name))) || (!(zdc a.At))) || (!(zn a.Height 0 3000))) || (!(zuc a.Mark)))with
 | true=>rw[hc]at h;cases h
 | false=>
  rw[hc,cond_false]at h
  cases hp:zvc a.Light with
  | true=>
   have h1:=yoq _ hp;unfold zne zpf;rw[h1];unfold zvc at hp;simp only[Bool.and_eq_true,beq_iff_eq]at hp;rw[hp.1.1.1.1];rfl
  | false=>
   rw[hp,cond_false]at h
   cases hd:(((!(ztb a.Light)) || (!(zn a.Intensity 1 100000000))) || (!(zy a.Sectors)))with
   | true=>rw[hd]at h;cases h
   | false=>
    rw[hd,cond_false]at h;simp only[Bool.or_eq_false_iff,Bool.not_eq_false']at hd;have hk:=(yo4 a.Light hl hd.1.1).2.2.1;unfold zne zpf;have e4:zvf a.Intensity=zn a.Intensity 1 100000000:=rfl;rw[yre _ hl,hd.1.1,e4,hd.1.2,yub _ (by omega),hd.2,y8i];simp only[Bool.not_true,Bool.or_self,cond_false];rw[h];symm
    rw[bne_iff_ne];omega
theorem yw5 {p:Point} (h:(!zld p)=false):0<=p.X/\p.X<=200000/\0<=p.Y/\p.Y<=200000:=by
 have h2:zld p=true:=by simpa using h
 exact ymy (p:=p) h2
theorem y3y {m:Mark} (h:(!zcd m)=false):0<=m.Kind/\m.Kind<=9/\m.Colors.length<=3/\m.Shape.length<=6/\m.Topmark.length<=5:=y8g (by rw[<- ysd];simpa using h)
theorem yb0 {a:List Sector} (hl:a.length<1099511627776) (h:(!znb a)=false):a.length<=12/\∀ i,0<=(a.getD i default).From/\(a.getD i default).From<=359/\0<=(a.getD i default).To/\(a.getD i default).To<=359/\(a.getD i default).Color.length<=1:=yne (by rw[<- yub a (by omega)];simpa using h)
theorem yuv {a:Aid} (hb:bdAid a) (h:(!zxc a)=false):zmb a=true:=by
 rw[<- y8b a (Nat.lt_of_lt_of_le hb.2.2.1.2.2 (by decide)) (Nat.lt_of_lt_of_le hb.2.2.2.1 (by decide))];simpa using h
theorem y4y (k:Int):(zjd k).length<=100:=yq0 _ _ (by decide)
theorem yvh {n:Int} {s:l00Src} {l:List (List UInt8)} (h:SrcOk n s) (hn:n<=2000000000) (hl:1<=l.length):(zw s l).1∈l:=by
 have hr:=yg (l.length:Int) h hn;have h2:=hr.2 (by omega);unfold zw;simp only;have hi:((za s (l.length:Int)).1).toNat<l.length:=by omega
 rw[List.getD_eq_getElem?_getD,List.getElem?_eq_getElem hi];exact List.getElem_mem hi
theorem yk5 {n:Int} {s:l00Src} (h:SrcOk n s) (hn:n<=2000000000):(zf s).1.length<=3:=by
 unfold zf;have:=yvh (l:=([[87],[87],[82],[71],[89],[87,82],[82,71],[87,82,71],[87,71]]:List (List UInt8))) h hn (by decide);simp only;generalize (zw s ([[87],[87],[82],[71],[89],[87,82],[82,71],[87,82,71],[87,71]]:List (List UInt8))).1=x at this;have hs:∀ y∈([[87],[87],[82],[71],[89],[87,82],[82,71],[87,82,71],[87,71]]:List (List UInt8)),y.length<=3:=by decide
 exact hs x this
theorem yi4 {n:Int} {s:l00Src} {l:List Int} (h:SrcOk n s) (hn:n<=2000000000) (hl:1<=l.length):(zb s l).1∈l:=by
 have hr:=yg (l.length:Int) h hn;have h2:=hr.2 (by omega);unfold zb;simp only;have hi:((za s (l.length:Int)).1).toNat<l.length:=by omega
 rw[List.getD_eq_getElem?_getD,List.getElem?_eq_getElem hi];exact List.getElem_mem hi
theorem am9 {n:Int} {s:l00Src} (h:SrcOk n s) (hn:n<=2000000000):0<=(zb s ([0,0,3,6,9]:List Int)).1/\(zb s ([0,0,3,6,9]:List Int)).1<=9:=by
 have:=yi4 (l:=([0,0,3,6,9]:List Int)) h hn (by decide);simp only[List.mem_cons,List.not_mem_nil,or_false]at this;omega
theorem let9 {n:Int} {s:l00Src} (h:SrcOk n s) (hn:n<=2000000000):65<=(UInt8.ofNat (IntKind.wrap .u8 (IntKind.wrap .i64 (65+(za s 26).1))).toNat).toNat/\(UInt8.ofNat (IntKind.wrap .u8 (IntKind.wrap .i64 (65+(za s 26).1))).toNat).toNat<=90:=by
 have hr:=yg 26 h hn;have hr2:=hr.2 (by omega);have hall:((List.range 26).all fun m=>decide (65<=(UInt8.ofNat (IntKind.wrap .u8 (IntKind.wrap .i64 (65+(m:Int)))).toNat).toNat/\(UInt8.ofNat (IntKind.wrap .u8 (IntKind.wrap .i64 (65+(m:Int)))).toNat).toNat<=90))=true:=by decide +kernel
 have:=of_decide_eq_true (List.all_eq_true.1 hall ((za s 26).1).toNat (List.mem_range.2 (by omega)));rwa [show(((za s 26).1).toNat:Int)=(za s 26).1 by omega]at this
theorem y3r {l:List Int} {x:Int} (h:∀ v∈l,v<=9) (hx:x<=9):∀ v∈l++[x],v<=9:=fun v hv=>by
 rcases List.mem_append.1 hv with h1|h1
 ·exact h v h1
 ·rw[List.mem_singleton]at h1;subst h1;exact hx
theorem pk_b {n:Int} {s:l00Src} {k:Nat} (hd:decide (0<(k:Int))=true) (h:SrcOk n s) (hn:n<=2000000000):0<=(za s (k:Int)).1/\(za s (k:Int)).1<(k:Int)/\((za s (k:Int)).1).toNat<k:=by
 have hd:=of_decide_eq_true hd;have hr:=yg (k:Int) h hn;have:=hr.2 (by omega);omega
theorem am24 {n:Int} {s:l00Src} (h:SrcOk n s) (hn:n<=2000000000):24<=(zb s ([24,25]:List Int)).1/\(zb s ([24,25]:List Int)).1<=25:=by
 have:=yi4 (l:=([24,25]:List Int)) h hn (by decide);simp only[List.mem_cons,List.not_mem_nil,or_false]at this;omega
end Go.Ab
