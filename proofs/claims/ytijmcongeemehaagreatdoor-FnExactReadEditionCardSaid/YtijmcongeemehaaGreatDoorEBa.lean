/- A part of a proof: walks of functions and lemmas of our own. No conditions. -/
import Derived.Test.YtijmcongeemehaaGreatDoorEAz
import Derived.Test.YtijmcongeemehaaGreatDoorEAt
import Derived.Test.YtijmcongeemehaaGreatDoorEAq
import Derived.Test.YtijmcongeemehaaGreatDoorEAs
import Derived.Test.YtijmcongeemehaaGreatDoorEAr
import Derived.Test.YtijmcongeemehaaGreatDoorEAu
import Derived.Test.YtijmcongeemehaaGreatDoorEAv
import Derived.Test.YtijmcongeemehaaGreatDoorEAw
import Derived.Test.YtijmcongeemehaaGreatDoorEAx
import Derived.Test.YtijmcongeemehaaGreatDoorEAy
import Derived.Test.YtijmcongeemehaaGreatDoorEAp
import Derived.Test.YtijmcongeemehaaGreatDoorEAl
set_option linter.unusedSectionVars false
set_option linter.unusedVariables false
set_option linter.unusedSimpArgs false
set_option maxHeartbeats 1000000
namespace Go.Ab
open Go Go.Proofs
def yld (w:List UInt8) (r:Int×Bool):Prop:=
 (∃ a:Int,0<=a/\a<=99999/\w=zbb a/\r=(a,true))\/((∀ a:Int,0<=a->a<=99999->w≠zbb a)/\r=(0,false))
theorem yd6 {y m d y' m' d':Nat} (h1:y<10000) (h2:m<100) (h3:d<100) (h1':y'<10000) (h2':m'<100) (h3':d'<100) (h:D10 y m d=D10 y' m' d'):y=y'/\m=m'/\d=d':=by
 have t1:∀ y m d,(D10 y m d).take 4=pad4 y:=fun _ _ _=>rfl
 have t2:∀ y m d,((D10 y m d).take 7).drop 5=pad2 m:=fun _ _ _=>rfl
 have t3:∀ y m d,(D10 y m d).drop 8=pad2 d:=fun _ _ _=>rfl
 have e1:=congrArg (fun l=>digV 0 (List.take 4 l)) h;have e2:=congrArg (fun l=>digV 0 ((List.take 7 l).drop 5)) h;have e3:=congrArg (fun l=>digV 0 (List.drop 8 l)) h;simp only[t1,t2,t3]at e1 e2 e3;rw[(ydi h1).2,(ydi h1').2]at e1;rw[(y3c h2).2,(y3c h2').2]at e2;rw[(y3c h3).2,(y3c h3').2]at e3;exact⟨e1,e2,e3⟩
theorem ygj {a a':Int} (h1:0<=a) (h2:a<=99999) (h1':0<=a') (h2':a'<=99999) (h:zbb a=zbb a'):a=a':=by
 obtain⟨y,m,d,_,_,_,_,_,_,_,hd,e⟩:=ypc h1 h2;obtain⟨y',m',d',_,_,_,_,_,_,_,hd',e'⟩:=ypc h1' h2';rw[e,e']at h;obtain⟨rfl,rfl,rfl⟩:=yd6 (by omega) (by omega) (by omega) (by omega) (by omega) (by omega) h;have q:=hd.2.2.2.2.2;have q':=hd'.2.2.2.2.2;omega
theorem yld.unique {w:List UInt8} {r r':Int×Bool} (h:yld w r) (h':yld w r'):r=r':=by
 rcases h with⟨n,h0,h1,h2,rfl⟩|⟨h1,rfl⟩<;>rcases h' with⟨n',h0',h1',h2',rfl⟩|⟨h1',rfl⟩
 ·rw[ygj h0 h1 h0' h1' (h2.symm.trans h2')]
 ·exact absurd h2 (h1' n h0 h1)
 ·exact absurd h2' (h1 n' h0' h1')
 ·rfl
theorem yld.of {w:List UInt8} {r:Int×Bool} (h1:r=(0,false)\/∃ a:Int,0<=a/\a<=99999/\w=zbb a) (h2:∀ a:Int,0<=a->a<=99999->w=zbb a->r=(a,true)):yld w r:=by
 by_cases h:∃ a:Int,0<=a/\a<=99999/\w=zbb a
 ·obtain⟨a,q1,q2,q3⟩:=h
  exact .inl ⟨a,q1,q2,q3,h2 a q1 q2 q3⟩
 ·refine .inr ⟨fun a q1 q2 q3=>h ⟨a,q1,q2,q3⟩,?_⟩
  rcases h1 with h1|h1
  ·exact h1
  ·exact absurd h1 h
theorem ymy {a b:UInt8} (h:yub [a,b]):pad2 (digV 0 [a,b])=[a,b]:=by
 have ha:=h a (by simp);have hb:=h b (by simp);rw[y7,y7,y5c];unfold pad2 u8D;congr 1
 ·rw[show(10 * (10 * 0+(a.toNat-48))+(b.toNat-48)) / 10=a.toNat-48 by omega];exact y2r ha.1 ha.2
 ·congr 1
  rw[show(10 * (10 * 0+(a.toNat-48))+(b.toNat-48)) % 10=b.toNat-48 by omega];exact y2r hb.1 hb.2
theorem yg7 {a b c e:UInt8} (h:yub [a,b,c,e]):pad4 (digV 0 [a,b,c,e])=[a,b,c,e]:=by
 have ha:=h a (by simp);have hb:=h b (by simp);have hc:=h c (by simp);have he:=h e (by simp);rw[y7,y7,y7,y7,y5c];unfold pad4 u8D;congr 1
 ·rw[show(10 * (10 * (10 * (10 * 0+(a.toNat-48))+(b.toNat-48))+(c.toNat-48))+(e.toNat-48)) / 1000=a.toNat-48 by omega];exact y2r ha.1 ha.2
 ·congr 1
  ·rw[show(10 * (10 * (10 * (10 * 0+(a.toNat-48))+(b.toNat-48))+(c.toNat-48))+(e.toNat-48)) / 100 % 10=b.toNat-48 by omega];exact y2r hb.1 hb.2
  ·congr 1
   ·rw[show(10 * (10 * (10 * (10 * 0+(a.toNat-48))+(b.toNat-48))+(c.toNat-48))+(e.toNat-48)) / 10 % 10=c.toNat-48 by omega];exact y2r hc.1 hc.2
   ·congr 1
    rw[show(10 * (10 * (10 * (10 * 0+(a.toNat-48))+(b.toNat-48))+(c.toNat-48))+(e.toNat-48)) % 10=e.toNat-48 by omega];exact y2r he.1 he.2
theorem yst (y m d:Nat):zne y m d=(0,false)\/(∃ a:Int,zne y m d=(a,decide (a<=99999))/\0<=a/\y<=2273/\m<=12/\d<=31/\yvj a y m d):=by
 unfold zne
 cases hg:((!(zff (y:Int))) || (!(zi (m:Int) 1 12))) || (!(zi (d:Int) 1 (zmc y m)))with
 | true=>left;rfl
 | false=>
  right
  simp only[zff,zi,Bool.or_eq_false_iff,Bool.not_eq_false',Bool.and_eq_true,decide_eq_true_eq]at hg;obtain⟨⟨⟨g1,g2⟩,g3,g4⟩,g5,g6⟩:=hg;have hge:=yty (y:Int) (m:Int);have hm:=y2n (y:=(y:Int)) (m:=(m:Int)) g3 g4;have hn:=yth y m d (by omega) (by omega) (by omega) (by omega) (by omega) (by omega);have hb:=yxl (y:=(y:Int)) (by omega);refine⟨zdc y m d,rfl,by omega,by omega,by omega,by omega,g1,g3,g4,g5,by omega,?_⟩;rw[hn,Int.toNat_natCast]
theorem yrx {a:Int} {y m d:Nat} (h1:0<=a) (h2:a<=99999) (hd:yvj a y m d):zne y m d=(a,true):=by
 obtain⟨q1,q2,q3,q4,q5,q6⟩:=hd;have hm:=y2n (y:=(y:Int)) (m:=(m:Int)) q2 q3;have hle:=y0m (l:=yeb y) q2 q3;have hy:=yzn (y:=(y:Int)) (by omega);have hn:=yth y m d (by omega) (by omega) (by omega) (by omega) (by omega) (by omega)
 have hg:(((!(zff (y:Int))) || (!(zi (m:Int) 1 12))) || (!(zi (d:Int) 1 (zmc y m))))=false:=by
  simp only[zff,zi,Bool.or_eq_false_iff,Bool.not_eq_false',Bool.and_eq_true,decide_eq_true_eq];omega
 unfold zne;rw[hg,cond_false];rw[Int.toNat_natCast]at q6;have e:zdc y m d=a:=by omega
 rw[e];simp[h2]
theorem yff (w:List UInt8):yld w (zsd w):=by
 refine yld.of ?_ ?_
 ·unfold zsd
  cases hg:((((w.length:Int) != 10) || (((w.getD 4 0).toNat:Int) != 45)) || (((w.getD 7 0).toNat:Int) != 45))with
  | true=>left;rfl
  | false=>
   simp only[Bool.or_eq_false_iff,bne_eq_false_iff_eq]at hg;obtain⟨⟨hl,h4⟩,h7⟩:=hg
   obtain⟨b0,b1,b2,b3,b4,b5,b6,b7,b8,b9,rfl⟩:∃ b0 b1 b2 b3 b4 b5 b6 b7 b8 b9,w=[b0,b1,b2,b3,b4,b5,b6,b7,b8,b9]:=by
    match w,hl with
    | [b0,b1,b2,b3,b4,b5,b6,b7,b8,b9],_=>exact⟨b0,b1,b2,b3,b4,b5,b6,b7,b8,b9,rfl⟩
   have e4:b4=45:=UInt8.toNat_inj.1 (by show b4.toNat=45;have h:=h4;simp at h;omega);have e7:b7=45:=UInt8.toNat_inj.1 (by show b7.toNat=45;have h:=h7;simp at h;omega);subst e4 e7;rw[cond_false];have t1:([b0,b1,b2,b3,45,b5,b6,45,b8,b9]:List UInt8).take 4=[b0,b1,b2,b3]:=rfl;have t2:(([b0,b1,b2,b3,45,b5,b6,45,b8,b9]:List UInt8).take 7).drop 5=[b5,b6]:=rfl;have t3:(([b0,b1,b2,b3,45,b5,b6,45,b8,b9]:List UInt8).take ([b0,b1,b2,b3,45,b5,b6,45,b8,b9]:List UInt8).length).drop 8=[b8,b9]:=rfl;rw[t1,t2,t3,yqc _ (by simp),yqc _ (by simp),yqc _ (by simp)];by_cases d1:yub [b0,b1,b2,b3]
   ·by_cases d2:yub [b5,b6]
    ·by_cases d3:yub [b8,b9]
     ·rw[if_pos d1,if_pos d2,if_pos d3]
      simp only[Bool.not_true,Bool.or_self,cond_false];rcases yst (digV 0 [b0,b1,b2,b3]) (digV 0 [b5,b6]) (digV 0 [b8,b9])with h|⟨a,h,ha,hy,hm,hd,hD⟩
      ·left;rw[h];rfl
      ·rw[h]
       by_cases hle:a<=99999
       ·right
        refine⟨a,ha,hle,?_⟩;obtain⟨y',m',d',_,_,_,_,_,_,_,hD',e⟩:=ypc ha hle;obtain⟨r1,r2,r3⟩:=hD'.unique hD;have r1:y'=digV 0 [b0,b1,b2,b3]:=by omega
        have r2:m'=digV 0 [b5,b6]:=by omega
        have r3:d'=digV 0 [b8,b9]:=by omega
        rw[e,r1,r2,r3];unfold D10;rw[yg7 d1,ymy d2,ymy d3];rfl
       ·left;simp[hle]
     ·left;rw[if_pos d1,if_pos d2,if_neg d3];rfl
    ·left;rw[if_pos d1,if_neg d2];rfl
   ·left;rw[if_neg d1];rfl
 ·rintro a h1 h2 rfl
  obtain⟨y,m,d,_,hy1,hy2,hm1,hm2,hd1,hd2,hD,e⟩:=ypc h1 h2;rw[e];unfold zsd;have t0:(((((D10 y m d).length:Int) != 10) || ((((D10 y m d).getD 4 0).toNat:Int) != 45)) || ((((D10 y m d).getD 7 0).toNat:Int) != 45))=false:=rfl;have t1:(D10 y m d).take 4=pad4 y:=rfl;have t2:((D10 y m d).take 7).drop 5=pad2 m:=rfl;have t3:((D10 y m d).take (D10 y m d).length).drop 8=pad2 d:=rfl;obtain⟨p1,p2⟩:=ydi (y:=y) (by omega);obtain⟨p3,p4⟩:=y3c (m:=m) (by omega);obtain⟨p5,p6⟩:=y3c (m:=d) (by omega);rw[t0,cond_false,t1,t2,t3,yqc _ (by simp[pad4]),yqc _ (by simp[pad2]),yqc _ (by simp[pad2]),if_pos p1,if_pos p3,if_pos p5,p2,p4,p6];simp only[Bool.not_true,Bool.or_self,cond_false];rw[yrx h1 h2 hD];rfl
theorem y44 {a:Int} {y m d:Nat} (h1:0<=a) (h2:a<=99999) (hd:yvj a y m d):zwc y m d=(a,0):=by
 obtain⟨q1,q2,q3,q4,q5,q6⟩:=hd;have hle:=y0m (l:=yeb y) q2 q3;have hy:=yzn (y:=(y:Int)) (by omega);have hm:=y9j (y:=(y:Int)) (m:=(m:Int)) q1 hy q2 q3;have hn:=y5z y m d (by omega) (by omega) (by omega) (by omega) (by omega) (by omega);rw[Int.toNat_natCast]at q6;have e:zjd y m d=a:=by omega
 have hg:((((!(zxd (y:Int))) || (!(zdf (m:Int)))) || (!(ze (d:Int) 1 (zx y m)))) || (!(zqd (zjd y m d))))=false:=by
  rw[e];simp only[zxd,zdf,zqd,ze,Bool.or_eq_false_iff,Bool.not_eq_false',Bool.and_eq_true,decide_eq_true_eq];omega
 unfold zwc;rw[hg,cond_false,e]
theorem ya1 (y m d:Int) (h:(zwc y m d).2=0):0<=(zwc y m d).1/\(zwc y m d).1<=99999:=by
 unfold zwc at h ⊢
 cases hg:((((!(zxd y)) || (!(zdf m))) || (!(ze d 1 (zx y m)))) || (!(zqd (zjd y m d))))with
 | true=>rw[hg]at h;simp at h
 | false=>
  rw[cond_false];simp only[Bool.or_eq_false_iff,Bool.not_eq_false',zqd,ze,Bool.and_eq_true,decide_eq_true_eq]at hg;exact hg.2
theorem ymh (w:List UInt8) (hw:w.length<=1048576):yld w (zde w):=by
 refine yld.of ?_ ?_
 ·unfold zde
  cases hl:(((zb w [45]).length:Int) != 3)with
  | true=>left;rfl
  | false=>
   rw[cond_false];have hok:=ya1 ((zr ((zb w [45]).getD 0 default)).1) ((zr ((zb w [45]).getD 1 default)).1) ((zr ((zb w [45]).getD 2 default)).1);generalize zwc ((zr ((zb w [45]).getD 0 default)).1) ((zr ((zb w [45]).getD 1 default)).1) ((zr ((zb w [45]).getD 2 default)).1)=q at hok ⊢
   cases hc:(((((!((zr ((zb w [45]).getD 0 default)).2)) || (!((zr ((zb w [45]).getD 1 default)).2))) || (!((zr ((zb w [45]).getD 2 default)).2))) || (q.2 != 0)) || ((zbb q.1) != w))with
   | true=>left;rfl
   | false=>
    right
    rw[Bool.or_eq_false_iff,Bool.or_eq_false_iff]at hc;obtain⟨⟨_,hq⟩,ht⟩:=hc;have hq:q.2=0:=by simpa using hq
    have ht:zbb q.1=w:=by simpa using ht
    exact⟨q.1,(hok hq).1,(hok hq).2,ht.symm⟩
 ·rintro a h1 h2 rfl
  obtain⟨y,m,d,_,hy1,hy2,hm1,hm2,hd1,hd2,hD,e⟩:=ypc h1 h2;have e45:∀ l:List UInt8,yub l->(45:UInt8)∉l:=fun l h hm=>by have:=h 45 hm;simp at this
  obtain⟨p1,p2⟩:=ydi (y:=y) (by omega);obtain⟨p3,p4⟩:=y3c (m:=m) (by omega);obtain⟨p5,p6⟩:=y3c (m:=d) (by omega)
  have hs:zb (D10 y m d) [45]=[pad4 y,pad2 m,pad2 d]:=by
   unfold zb D10;show yf 45 _=_;rw[y8 _ _ _ (e45 _ p1),y8 _ _ _ (e45 _ p3),yib _ _ (e45 _ p5)]
  have hr:zde (D10 y m d)=(bif zbb a != D10 y m d then(0,false)else(a,true)):=by
   unfold zde;rw[hs];show(bif (((((!((zr (pad4 y)).2)) || (!((zr (pad2 m)).2))) || (!((zr (pad2 d)).2))) || (((zwc ((zr (pad4 y)).1) ((zr (pad2 m)).1) ((zr (pad2 d)).1)).2) != 0)) || ((zbb ((zwc ((zr (pad4 y)).1) ((zr (pad2 m)).1) ((zr (pad2 d)).1)).1)) != D10 y m d))then(0,false)else((zwc ((zr (pad4 y)).1) ((zr (pad2 m)).1) ((zr (pad2 d)).1)).1,true))=_;rw[ydh _ (by simp[pad4]) (by simp[pad4]),ydh _ (by simp[pad2]) (by simp[pad2]),ydh _ (by simp[pad2]) (by simp[pad2]),if_pos p1,if_pos p3,if_pos p5,p2,p4,p6];simp only;rw[y44 h1 h2 hD];simp
  rw[e,hr,e];simp
theorem y6o (w:List UInt8) (hw:w.length<=1048576):zde w=zsd w:=(ymh w hw).unique (yff w)
def yxj (c : UInt8) : List (List UInt8) -> List UInt8
 | []=>[]
 | [x]=>x
 | x::y::r=>x++c::yxj c (y::r)
theorem ypd (c : UInt8) : ∀ l, yxj c (yf c l) = l
 | []=>rfl
 | b::l=>by
  have ih:=ypd c l;simp only[yf];split
  ·rename_i h
   obtain⟨x,r,e⟩:=List.exists_cons_of_ne_nil (y1f c l);rw[e]at ih ⊢;simp only[yxj,List.nil_append];rw[ih,h]
  ·obtain⟨x,r,e⟩:=List.exists_cons_of_ne_nil (y1f c l)
   rw[e]at ih ⊢;simp only
   cases r with
   | nil=>simp only[yxj]at ih ⊢;rw[ih]
   | cons y r=>simp only[yxj,List.cons_append]at ih ⊢;rw[ih]
theorem yrl {a:Int} (h1:0<=a) (h2:a<=99999):(32:UInt8)∉zbb a/\zbb a≠[]/\(zbb a).length<=1048576:=by
 obtain⟨y,m,d,_,_,_,_,_,_,_,_,e⟩:=ypc h1 h2;obtain⟨p1,_⟩:=ydi (y:=y) (by omega);obtain⟨p3,_⟩:=y3c (m:=m) (by omega);obtain⟨p5,_⟩:=y3c (m:=d) (by omega);rw[e];refine⟨fun hm => ?_,by simp[D10,pad4],by simp[D10,pad4,pad2]⟩;unfold D10 at hm;simp only[List.mem_append,List.mem_cons]at hm;rcases hm with hm|hm|hm|hm|hm
 ·have:=p1 32 hm;simp at this
 ·simp at hm
 ·have:=p3 32 hm;simp at this
 ·simp at hm
 ·have:=p5 32 hm;simp at this
theorem ysd (n:Int):(32:UInt8)∉Lib.itoa n/\Lib.itoa n≠[]:=by
 obtain⟨d1,_,d3,_⟩:=y6 n.natAbs;by_cases h:n<0
 ·rw[ytb h]
  refine⟨fun hm => ?_,by simp⟩;rcases List.mem_cons.1 hm with hm|hm
  ·simp at hm
  ·have:=d1 32 hm;simp at this
 ·rw[yfe h]
  exact⟨fun hm=>by have:=d1 32 hm;simp at this,d3⟩
theorem ywg {a:Int} (h1:0<=a) (h2:a<=99999):zsd (zbb a)=(a,true):=by
 rcases yff (zbb a)with⟨a',h1',h2',e,h⟩|⟨h,_⟩
 ·rw[h,ygj h1 h2 h1' h2' e]
 ·exact absurd rfl (h a h1 h2)
theorem yyq {n:Int} (h:n.natAbs<E18) (hl:(Lib.itoa n).length<=1048576):zf (Lib.itoa n)=(n,true):=by
 rcases ywb (Lib.itoa n) hl with⟨n',h',e,hr⟩|⟨hn,_⟩
 ·rw[hr,ylo e]
 ·exact absurd rfl (hn n h)
def InR (s:List Int):Prop:=∀ v∈s,0<=v/\v<=100
theorem InR.app {s t:List Int} (h1:InR s) (h2:InR t):InR (s++t):=fun v hv=>(List.mem_append.1 hv).elim (h1 v) (h2 v)
theorem InR.one {x:Int} (h1:0<=x) (h2:x<=100):InR [x]:=fun v hv=>by rw[List.mem_singleton]at hv;subst hv;exact⟨h1,h2⟩
theorem InR.nil:InR []:=fun v hv=>by simp at hv
theorem ygz (k:Int):0<=zfe k/\zfe k<=100:=by
 unfold zfe;simp only[Bool.cond_eq_ite];repeat' split
 all_goals omega
theorem yis (k:Int):0<=zbc k/\zbc k<=20:=by
 unfold zbc;simp only[Bool.cond_eq_ite];repeat' split
 all_goals omega
theorem y80 (k:Int):0<=IntKind.wrap .i64 (zbc k+20)/\IntKind.wrap .i64 (zbc k+20)<=100:=by
 have:=yis k;rw[IntKind.wrap_i64];omega
theorem yqz (c:Character) (h1:c.Group.length<=4) (h2:∀ v∈c.Group,1<=v/\v<=9):InR (zq c)/\(zq c).length<=80:=by
 have hf:=ygz c.Kind;have hg:=yis c.Kind;have hw:=y80 c.Kind;unfold zq
 cases hk:(c.Kind == 8)with
 | true=>
  simp only[cond_true];have hm:(zpb ((c.Letter.getD 0 0).toNat:Int)).length<=4:=y7p _
  have hmr:∀ j,0<=(zpb ((c.Letter.getD 0 0).toNat:Int)).getD j default/\(zpb ((c.Letter.getD 0 0).toNat:Int)).getD j default<=100:=by
   intro j;rw[y3g,List.getD_eq_getElem?_getD,List.getElem?_map]
   cases(yhd.getD (IntKind.wrap .u8 (((c.Letter.getD 0 0).toNat:Int)-65)).toNat default)[j]? with
   | none=>show(0:Int)<=0/\(0:Int)<=100;omega
   | some x=>simp only[Option.map_some,Option.getD_some];split<;>omega
  obtain⟨t,q1,q2,q3⟩:=yw (b:=yjq c) (fun i s=>InR s/\s.length<=2 * i) (k:=(zpb ((c.Letter.getD 0 0).toNat:Int)).length-0) (i:=0) (s:=[]) ⟨InR.nil,by simp⟩ (fun j u _ _ h=>by
   unfold yjq
   cases decide (0<(j:Int))with
   | true=>exact⟨_,rfl,(h.1.app (InR.one (by omega) (by omega))).app (InR.one (hmr j).1 (hmr j).2),by simp only[List.length_append,List.length_singleton];omega⟩
   | false=>exact⟨_,rfl,h.1.app (InR.one (hmr j).1 (hmr j).2),by simp only[List.length_append,List.length_singleton];omega⟩)
  rw[q1];exact⟨q2,by simp only;omega⟩
 | false=>
  simp only[cond_false]
  have hend:∀ s:List Int,InR s->s.length<=72->InR (bif (c.Letter == [76])then s++[zbc c.Kind,20]else s)/\(bif (c.Letter == [76])then s++[zbc c.Kind,20]else s).length<=80:=by
   intro s h3 h4
   cases(c.Letter == [76])with
   | true=>exact⟨h3.app (fun v hv=>by simp only[List.mem_cons,List.not_mem_nil,or_false]at hv;rcases hv with h|h<;>subst h<;>omega),by simp only[cond_true,List.length_append,List.length_cons,List.length_nil];omega⟩
   | false=>exact⟨h3,by simp only[cond_false];omega⟩
  cases hz:((c.Group.length:Int) == 0)with
  | true=>
   simp only[cond_true]
   obtain⟨t,q1,q2,q3⟩:=yw (b:=yoq c) (fun i s=>InR s/\s.length<=18 * i) (k:=1-0) (i:=0) (s:=[]) ⟨InR.nil,by simp⟩ (fun j u _ hj h=>by
    unfold yoq;have hj0:j=0:=by omega
    obtain⟨t,q1,q2,q3⟩:=yw (b:=yiq c j u) (fun i s=>InR s/\s.length<=18 * j+2 * i) (k:=(([1]:List Int).getD j default).toNat-0) (i:=0) (s:=u) ⟨h.1,by omega⟩ (fun i w _ hi h=>by
     unfold yiq
     cases decide (0<(i:Int))with
     | true=>exact⟨_,rfl,(h.1.app (InR.one hg.1 (by omega))).app (InR.one hf.1 hf.2),by simp only[List.length_append,List.length_singleton];omega⟩
     | false=>
      cases decide (0<(j:Int))with
      | true=>exact⟨_,rfl,(h.1.app (InR.one hw.1 hw.2)).app (InR.one hf.1 hf.2),by simp only[List.length_append,List.length_singleton];omega⟩
      | false=>exact⟨_,rfl,h.1.app (InR.one hf.1 hf.2),by simp only[List.length_append,List.length_singleton];omega⟩)
    rw[q1];subst hj0
    exact⟨t,rfl,q2,by simp only[List.getD_cons_zero]at q3;omega⟩)
   rw[q1];exact hend t q2 (by omega)
  | false=>
   simp only[cond_false]
   obtain⟨t,q1,q2,q3⟩:=yw (b:=yar c) (fun i s=>InR s/\s.length<=18 * i) (k:=c.Group.length-0) (i:=0) (s:=[]) ⟨InR.nil,by simp⟩ (fun j u _ hj h=>by
    unfold yar;have hgj:=y3f h2 j
    obtain⟨t,q1,q2,q3⟩:=yw (b:=y8p c j u) (fun i s=>InR s/\s.length<=18 * j+2 * i) (k:=(c.Group.getD j default).toNat-0) (i:=0) (s:=u) ⟨h.1,by omega⟩ (fun i w _ hi h=>by
     unfold y8p
     cases decide (0<(i:Int))with
     | true=>exact⟨_,rfl,(h.1.app (InR.one hg.1 (by omega))).app (InR.one hf.1 hf.2),by simp only[List.length_append,List.length_singleton];omega⟩
     | false=>
      cases decide (0<(j:Int))with
      | true=>exact⟨_,rfl,(h.1.app (InR.one hw.1 hw.2)).app (InR.one hf.1 hf.2),by simp only[List.length_append,List.length_singleton];omega⟩
      | false=>exact⟨_,rfl,h.1.app (InR.one hf.1 hf.2),by simp only[List.length_append,List.length_singleton];omega⟩)
    rw[q1]
    exact⟨t,rfl,q2,by omega⟩)
   rw[q1];exact hend t q2 (by omega)
theorem yz2 (l:List Int) (h:InR l) (hl:l.length<=80):0<=zzd l/\zzd l<=8000:=by
 unfold zzd
 obtain⟨t,q1,q2,q3⟩:=yw (b:=y9o l) (fun i s=>0<=s/\s<=100 * i) (k:=l.length-0) (i:=0) (s:=0) ⟨by omega,by omega⟩ (fun j u _ hj hI=>by
  have hx:0<=l.getD j default/\l.getD j default<=100:=by
   rw[List.getD_eq_getElem?_getD,List.getElem?_eq_getElem (by omega),Option.getD_some];exact h _ (List.getElem_mem _)
  refine⟨_,rfl,?_⟩
  rw[IntKind.wrap_i64];omega)
 rw[q1];exact⟨q2,by simp only;omega⟩
theorem y6x (c:Character) (h:zgb c=true) (hs:zcd c=false):0<zmf c:=by
 obtain⟨g1,g2⟩:=y8d c h;obtain⟨t1,t2⟩:=yqz c g1 g2;have t3:=yz2 _ t1 t2;have hg:=yis c.Kind;unfold zmf;rw[<- ytk,hs];simp only[cond_false]
 cases(c.Kind == 3)with
 | true=>simp
 | false=>
  simp only[cond_false]
  have hr:0<zkf c/\zkf c<=100:=by
   unfold zkf;simp only[Bool.cond_eq_ite];repeat' split
   all_goals (try rw[IntKind.wrap_i64]);(try rw[IntKind.wrap_i64]);omega
  rw[IntKind.wrap_i64];omega
theorem yiv (k:Int):(zgc k).length<=3:=by
 unfold zgc zob;simp only[Bool.cond_eq_ite];split
 ·simp
 ·rw[List.getD_eq_getElem?_getD]
  have h:∀ x∈([[],[70],[79,99],[73,115,111],[70,108],[76,70,108],[81],[86,81],[77,111]]:List (List UInt8)),x.length<=3:=by decide
  cases hg:([[],[70],[79,99],[73,115,111],[70,108],[76,70,108],[81],[86,81],[77,111]]:List (List UInt8))[k.toNat]? with
  | none=>show(0:Nat)<=3;omega
  | some x=>exact h x (List.mem_of_getElem? hg)
theorem yok (xs:List (List UInt8)) (h:∀ v∈xs,v.length<=20):(znb xs [43]).length<=21 * xs.length/\(Go.Lib.join xs [43]).length<=21 * xs.length:=by
 have h1:=ysh [43] xs 20 h;simp only[List.length_singleton]at h1;exact⟨by show(Go.Lib.join xs [43]).length<=_;omega,by omega⟩
def yum (a0:Character) (i1:Nat) (s1:List (List UInt8)):Except ((List UInt8)) (List (List UInt8)):=
 .ok (s1++[(zl (a0.Group.getD i1 default))])
def zmd (a0:Character):(List UInt8):=
 (bif (a0.Kind == 8)then(((zgc a0.Kind)++[40])++a0.Letter)++[41]else(bif decide (0<(a0.Group.length:Int))then(match yd (yum a0) (a0.Group.length-0) 0 ([]:List (List UInt8))with|.error e=>e|.ok s1=>(bif (a0.Letter != [])then((zgc a0.Kind)++(([40]++(znb s1 [43]))++[41]))++[43,76,70,108]else(zgc a0.Kind)++(([40]++(znb s1 [43]))++[41])))else(bif (a0.Letter != [])then(zgc a0.Kind)++[43,76,70,108]else(zgc a0.Kind))))
namespace N141
theorem DD:DOk Tryz.prog (Go.Ab.DD [(223,dP D_zgc),(62,dP D_znb),(63,dP D_zl)]):=ya ymv.e <| ya yei.e <| ya yye.e <| ye _
theorem dn:type_of% (And.intro @D_zgc.eq_1 <| And.intro @D_znb.eq_1 <| @D_zl.eq_1):=by and_intros<;>intros<;>rfl
theorem gr {p:Prop} (h:p:=by(grind [yfc]);first|done|fail):p:=h
theorem o0 {p:Prop} (h:p:=by(first|(have h9:=yok s1 (by first|exact hW1|exact hW1.2);first|omega|(simp only[ob,ln,List.length_singleton,List.length_append,List.length_cons,List.length_nil]at *;omega)|(and_intros<;>first|omega|(simp only[ob,ln,List.length_singleton,List.length_append,List.length_cons,List.length_nil]at *;omega)))|(have h9:=hg9 i1;and_intros<;>omega)|(simp only[ob,ln,List.length_singleton,List.length_append,List.length_cons,List.length_nil]at *;omega));first|done|fail):p:=h
theorem o1 {p:Prop} (h:p:=by(first|(have h9:=yok s1 hW1.2;have h8:=hW1.1;simp only[ob,ln,List.length_singleton,List.length_append,List.length_cons,List.length_nil]at *;omega)|(have h9:=hg9 i1;omega));first|done|fail):p:=h
set_option maxHeartbeats 1000000 in
set_option maxRecDepth 20000 in
theorem den (a0:Character) (hb0:bdCharacter a0) (hp0:a0.Group.length<=4) (hp1:∀ v∈a0.Group,1<=v/\v<=9):Den Tryz.prog 141 [.agg (yi a0)] (.str (zmd a0)):=by
 generalize hR:zmd a0=r;unfold zmd at hR;refine di Tryz.func141 Tryz.ntmps141 Tryz.results141 ?_;intro c hL hc hk;obtain⟨hL0,_⟩:=hL;have hw0:bwCharacter a0:=yp a0 hL0;clear hL0;simp only[pars,Nat.zero_add];have hg9:∀ i:Nat,0<=a0.Group.getD i default/\a0.Group.getD i default<=9:=fun i=>y3f hp1 i
 have hk9:=yiv a0.Kind;iterate 3 refine rS ?_
 refine AWP.cond rfl (fun hb => ?_) (fun hb => ?_)
 ·replace hR:=ct hR
  refine rS ?_;refine AWP.ret ?_;subst hR;exact es
 ·replace hR:=cf hR
  refine rS ?_;refine AWP.cond rfl (fun hb => ?_) (fun hb => ?_)
  ·replace hR:=ct hR
   iterate 2 refine rS ?_
   refine AWP.block ?_;refine AWP.lensS 20 rfl (fun hLn1 => ?_);generalize hz1:yd (yum a0) (a0.Group.length-0) 0 ([]:List (List UInt8))=z1 at hR;refine AWP.range (yum a0) (fun i1 s1=>⟨[(1,.ptr 0 0),(3,.str (zgc a0.Kind)),(4,.ref 1 1 0 s1.length),(25,encL 1 yt a0.Group),(26,.int .i64 (a0.Group.length:Int)),(27,.int .i64 (i1:Int))],[.box [.int .i64 a0.Kind,encL 1 yt a0.Group,.str a0.Letter,.str a0.Colors,.int .i64 a0.Period],.arr 9 1 s1.length (fun j=>eS (s1.getD j default))]⟩) (fun i1 s1=>s1.length<=([]:List (List UInt8)).length+1 * i1/\∀ v∈s1,v.length<=20) (a0.Group.length) 0 ([]:List (List UInt8)) [0,1] hz1 ot wt sm ?_;clear hz1;intro i1 s1 hi1 hW1 hz1;refine rS ?_;refine AWP.seq ?_;refine AWP.cond rfl (fun hb => ?_) (fun hb => ?_)
   ·have hlt1:i1<a0.Group.length:=ot
    rw[yg hlt1]at hz1;simp only[yum]at hz1;iterate 3 refine rS ?_
    exact⟨_,[0,3],hlt1,by(and_intros<;>first|(simp only[ln,List.length_append,List.length_singleton,List.length_nil]at *;omega)|(intro v hv;exact(List.mem_append.1 hv).elim (fun h=>by first|exact hW1 v h|exact hW1.2 v h|exact hW1.2.2 v h) (fun h=>by rw[List.mem_singleton]at h;subst h;exact yzd _ (by have:=hg9 i1;omega) (by have:=hg9 i1;omega)))),hz1,sm⟩
   ·obtain rfl:i1=a0.Group.length:=ot
    rw[yh (Nat.le_refl _)]at hz1;subst hz1;dsimp only at hR;refine AWP.exit ?_;refine yb ?_;iterate 2 refine rS ?_
    refine AWP.cond rfl (fun hb => ?_) (fun hb => ?_)
    ·replace hR:=ct hR
     iterate 2 refine rS ?_
     refine AWP.ret ?_;subst hR;exact es
    ·replace hR:=cf hR
     refine rS ?_;refine AWP.ret ?_;subst hR;exact es
  ·replace hR:=cf hR
   refine rS ?_;refine AWP.cond rfl (fun hb => ?_) (fun hb => ?_)
   ·replace hR:=ct hR
    iterate 2 refine rS ?_
    refine AWP.ret ?_;subst hR;exact es
   ·replace hR:=cf hR
    refine rS ?_;refine AWP.ret ?_;subst hR;exact es
end N141
def D_zmd : DF
 | [x0]=>some (.str (zmd (rdG yc x0)),false,[wG yi yc x0,bdCharacter (rdG yc x0),(rdG yc x0).Group.length<=4,∀ v∈(rdG yc x0).Group,1<=v/\v<=9])
 | _=>none
theorem y83:OkD Tryz.prog 141 D_zmd:=by unfold D_zmd;exact dk N141.den
def zge (a0:Int):(List UInt8):=
 (bif ((a0.tmod 10) == 0)then(zl (IntKind.wrap .i64 (a0.tdiv 10)))else((zl (IntKind.wrap .i64 (a0.tdiv 10)))++[46])++(zl (a0.tmod 10)))
namespace N142
theorem DD:DOk Tryz.prog (Go.Ab.DD [(63,dP D_zl)]):=ya yye.e <| ye _
theorem dn:type_of% (@D_zl.eq_1):=by and_intros<;>intros<;>rfl
theorem gr {p:Prop} (h:p:=by(grind [yfc]);first|done|fail):p:=h
set_option maxHeartbeats 400000 in
set_option maxRecDepth 20000 in
theorem den (a0:Int) (hp0 : -9223372036854775808<=a0) (hp1:a0<=9223372036854775807):Den Tryz.prog 142 [.int .i64 a0] (.str (zge a0)):=by
 generalize hR:zge a0=r;unfold zge at hR;refine di Tryz.func142 Tryz.ntmps142 Tryz.results142 ?_;intro c hL hc hk;clear hL;simp only[pars,Nat.zero_add];have h1:=yym (a0.tdiv 10);have ht:=yek a0;have h2:=yzd (a0.tmod 10) (by omega) (by omega);iterate 2 refine rS ?_
 refine AWP.cond rfl (fun hb => ?_) (fun hb => ?_)
 ·replace hR:=ct hR
  refine rS ?_;refine AWP.ret ?_;subst hR;exact es
 ·replace hR:=cf hR
  refine rS ?_;refine AWP.ret ?_;subst hR;exact es
end N142
def D_zge : DF
 | [x0]=>some (.str (zge (rdI x0)),false,[wI .i64 x0,-9223372036854775808<=(rdI x0),(rdI x0)<=9223372036854775807])
 | _=>none
theorem yfv:OkD Tryz.prog 142 D_zge:=by unfold D_zge;exact dk N142.den
theorem y9b (a:Character) (h:zz a=true):zgb a=true:=by
 unfold zz at h
 cases hf:zgb a with
 | true=>rfl
 | false=>rw[hf]at h;simp at h
theorem y21 (a:Character) (h:zz a=true):a.Period<=600:=by
 unfold zz at h
 cases h1:((!(zvb a.Colors)) || (!(zgb a)))with
 | true=>rw[h1]at h;cases h
 | false=>
  rw[h1]at h
  cases h2:zcd a with
  | true=>rw[h2]at h;simp at h;omega
  | false=>rw[h2]at h;simp[ze]at h;omega
theorem yad (a:Character) (h:zz a=true):a.Group.length<=4/\(∀ v∈a.Group,1<=v/\v<=9)/\a.Period<=600:=by
 have h1:=y8d a (y9b a h);exact⟨h1.1,h1.2,y21 a h⟩
theorem ybr (a:Character) (h1:a.Group.length<=4) (h2:∀ v∈a.Group,1<=v/\v<=9):(zmd a).length<=200+a.Letter.length:=by
 unfold zmd;have hk:=yiv a.Kind
 obtain⟨t,q1,q2,q3⟩:=yw (b:=yum a) (fun i s=>s.length=i/\∀ v∈s,v.length<=20) (k:=a.Group.length-0) (i:=0) (s:=[]) ⟨rfl,by simp⟩ (fun j u _ _ h=>⟨_,rfl,by simp[h.1],fun v hv=>by
  rcases List.mem_append.1 hv with h9|h9
  ·exact h.2 v h9
  ·rw[List.mem_singleton]at h9;subst h9
   have:=y3f h2 j
   exact yzd _ (by omega) (by omega)⟩)
 rw[q1];have hj:=(yok t q3).1;simp only[Bool.cond_eq_ite];repeat' split
 all_goals ((try simp only[List.length_append,List.length_cons,List.length_nil]);omega)
theorem yop (a:Character) (h:zz a=true):(zcd a=true/\a.Period=0)\/(zcd a=false/\0<a.Period/\a.Period<=600):=by
 have hf:=y9b a h;unfold zz at h
 cases h1:((!(zvb a.Colors)) || (!(zgb a)))with
 | true=>rw[h1]at h;cases h
 | false=>
  rw[h1]at h
  cases h2:zcd a with
  | true=>rw[h2]at h;left;simpa using h
  | false=>
   rw[h2,yrv a hf h2]at h;have:=y6x a hf h2;right
   simp[ze]at h
   exact⟨rfl,by omega,by omega⟩
theorem yrd (a:Character) (h:zz a=true):0<=a.Period:=by
 rcases yop a h with⟨_,h⟩|⟨_,h,_⟩<;>omega
theorem y2d (a:Character) (h:zgb a=true):1<=a.Kind/\a.Kind<=8:=by
 unfold zgb at h;simp only[Bool.cond_eq_ite]at h;repeat' split at h
 all_goals (try simp only[beq_iff_eq]at *)
 all_goals first|omega|(cases h;done)
theorem y1z (a:Character) (hl:a.Colors.length<9223372036854775808) (h:zsb a=true):a.Group.length<=4/\(∀ v∈a.Group,1<=v/\v<=9)/\1<=a.Kind/\a.Kind<=8/\0<=a.Period/\a.Period<=600:=by
 rw[<- ycg a hl]at h;have h1:=yad a h;have h2:=y2d a (y9b a h);exact⟨h1.1,h1.2.1,h2.1,h2.2,yrd a h,h1.2.2⟩
theorem yas (n:Int) (h1 : -9223372036854775808<=n) (h2:n<=9223372036854775807):(zge n).length<=41:=by
 unfold zge;have h3:=yym (n.tdiv 10);have ht:=yek n;have h4:=yzd (n.tmod 10) (by omega) (by omega);simp only[Bool.cond_eq_ite];split
 ·omega
 ·simp only[List.length_append,List.length_cons,List.length_nil];omega
theorem y7y {p:Point} (h:zic p=true):0<=p.X/\p.X<=200000/\0<=p.Y/\p.Y<=200000:=by
 simp[zic,zi]at h;omega
theorem ybf {a:List Sector} (h:zu a=true):a.length<=12/\∀ i,i<a.length->zyc (a.getD i default)=true:=by
 unfold zu at h
 cases h12:decide (12<(a.length:Int))with
 | true=>rw[h12]at h;cases h
 | false=>
  rw[h12]at h;have h12:=of_decide_eq_false h12;refine⟨by omega,fun i hi => ?_⟩;rcases y5f (b:=ypw a) (secQ a) (fun _ u=>u) false (k:=a.length-0) (i:=0) (s:=()) (fun j u _ _=>by cases u;rfl)with⟨_,e1⟩|⟨hq,_⟩
  ·rw[e1]at h;cases h
  ·exact((yuv a i (by omega)).1 (hq i (Nat.zero_le _) (by omega))).1
theorem yos {c:List UInt8} (h:zlf c=true):c=[87]\/c=[82]\/c=[71]\/c=[89]:=by
 unfold zlf at h;simp only[Bool.or_eq_true,beq_iff_eq]at h;rcases h with((h|h)|h)|h
 ·exact .inl h
 ·exact .inr (.inl h)
 ·exact .inr (.inr (.inl h))
 ·exact .inr (.inr (.inr h))
theorem y7g {a:List Sector} (h:zu a=true):a.length<=12/\∀ i,0<=(a.getD i default).From/\(a.getD i default).From<=359/\0<=(a.getD i default).To/\(a.getD i default).To<=359/\(a.getD i default).Color.length<=1:=by
 obtain⟨h1,h2⟩:=ybf h;refine⟨h1,fun i => ?_⟩;by_cases hi:i<a.length
 ·have h3:=h2 i hi
  have hb:=yus h3;unfold zyc at h3;rw[Bool.and_eq_true]at h3;refine⟨hb.1.1,hb.1.2,hb.2.1,hb.2.2,?_⟩;rcases yos h3.2 with h|h|h|h<;>rw[h]<;>decide
 ·rw[List.getD_eq_getElem?_getD,List.getElem?_eq_none (by omega)]
  decide
theorem y1m {m:Mark} (h:zed m=true):(m.Kind=0/\m.Colors=[]/\m.Shape=[]/\m.Topmark=[]) \/
  (zcc m.Kind=true/\m.Colors=zue m.Kind/\(m.Topmark=[]\/m.Topmark=zaf m.Kind)/\m.Shape∈zqb m.Kind):=by
 rw[show zed m=zcb m from rfl]at h;unfold zcb at h;by_cases hk:m.Kind=0
 ·left
  rw[show(m.Kind == 0)=true by simp[hk]]at h;simp only[cond_true,Bool.and_eq_true,beq_iff_eq]at h;exact⟨hk,h.2.1,h.2.2.1,h.2.2.2⟩
 ·right
  rw[show(m.Kind == 0)=false by simp[hk],cond_false]at h
  cases hc:(((!(zcc m.Kind)) || (m.Colors != (zue m.Kind))) || ((m.Topmark != []) && (m.Topmark != (zaf m.Kind))))with
  | true=>rw[hc]at h;cases h
  | false=>
   rw[hc,cond_false]at h;have h:=(ypm m).symm.trans h;rw[List.any_eq_true]at h;simp only[Bool.or_eq_false_iff,Bool.not_eq_false',Bool.and_eq_false_iff,bne_eq_false_iff_eq]at hc;obtain⟨y,hy,he⟩:=h;exact⟨hc.1.1,hc.1.2,hc.2,by rw[<- eq_of_beq he];exact hy⟩
theorem yni {m:Mark} (h:zed m=true):0<=m.Kind/\m.Kind<=9/\m.Colors.length<=3/\m.Shape.length<=6/\m.Topmark.length<=5:=by
 rcases y1m h with⟨h1,h2,h3,h4⟩|⟨h1,h2,h3,h4⟩
 ·rw[h1,h2,h3,h4];simp
 ·have hk:=h1
  unfold zcc zi at hk;simp only[Bool.and_eq_true,decide_eq_true_eq]at hk;refine⟨by omega,by omega,?_,?_,?_⟩
  ·rw[h2];rcases y0g h1 with e|e|e|e|e|e|e|e|e<;>rw[e]<;>decide
  ·have hs:∀ y∈zqb m.Kind,y.length<=6:=by rcases y0g h1 with e|e|e|e|e|e|e|e|e<;>rw[e]<;>decide
   exact hs _ h4
  ·rcases h3 with e|e
   ·rw[e];decide
   ·rw[e];rcases y0g h1 with e|e|e|e|e|e|e|e|e<;>rw[e]<;>decide
theorem y3s:zu []=true:=by decide
theorem ywf {a:Aid} (h:zjc a=true):1<=a.Number/\a.Number<=9999/\zpc a.Name=true/\zic a.At=true/\0<=a.Height/\a.Height<=3000/\zed a.Mark=true /\
  (zng a=true->zsb a.Light=true)/\zu a.Sectors=true/\0<=a.Intensity/\a.Intensity<=100000000:=by
 unfold zjc at h
 cases hc:(((((!(zi a.Number 1 9999)) || (!(zpc a.Name))) || (!(zic a.At))) || (!(zi a.Height 0 3000))) || (!(zed a.Mark)))with
 | true=>rw[hc]at h;cases h
 | false=>
  rw[hc,cond_false]at h;simp only[Bool.or_eq_false_iff,Bool.not_eq_false']at hc;obtain⟨⟨⟨⟨c1,c2⟩,c3⟩,c4⟩,c5⟩:=hc;simp only[zi,Bool.and_eq_true,decide_eq_true_eq]at c1 c4
  have fin:(zng a=true->zsb a.Light=true)/\zu a.Sectors=true/\0<=a.Intensity/\a.Intensity<=100000000:=by
   cases hp:zrd a.Light with
   | true=>
    rw[hp,cond_true,Bool.and_eq_true,beq_iff_eq,beq_iff_eq]at h;have hs:a.Sectors=[]:=List.length_eq_zero_iff.1 (by omega);refine⟨fun hl => ?_,by rw[hs];exact y3s,by omega,by omega⟩;unfold zrd at hp;simp only[Bool.and_eq_true,beq_iff_eq]at hp;unfold zng at hl;rw[bne_iff_ne]at hl;exact absurd hp.1.1.1.1 hl
   | false=>
    rw[hp,cond_false]at h
    cases hd:(((!(zsb a.Light)) || (!(zi a.Intensity 1 100000000))) || (!(zu a.Sectors)))with
    | true=>rw[hd]at h;cases h
    | false=>
     simp only[Bool.or_eq_false_iff,Bool.not_eq_false',zi,Bool.and_eq_true,decide_eq_true_eq]at hd;exact⟨fun _=>hd.1.1,hd.2,by omega,by omega⟩
  exact⟨c1.1,c1.2,c2,c3,c4.1,c4.2,c5,fin⟩
theorem y70 {s:List UInt8} (h:zpc s=true):s.length<=10:=((y1k s).1 h).2.1
theorem yq5 {a:Aid} (h:zjc a=true) (hl:a.Light.Colors.length<9223372036854775808):zoe a=zng a:=by
 have hr:=ywf h;have hsl:=(y7g hr.2.2.2.2.2.2.2.2.1).1;unfold zjc at h
 cases hc:(((((!(zi a.Number 1 9999)) || (!(zpc a.Name))) || (!(zic a.At))) || (!(zi a.Height 0 3000))) || (!(zed a.Mark)))with
 | true=>rw[hc]at h;cases h
 | false=>
  rw[hc,cond_false]at h
  cases hp:zrd a.Light with
  | true=>
   have h1:=y1p _ hp;unfold zoe zng;rw[h1];unfold zrd at hp;simp only[Bool.and_eq_true,beq_iff_eq]at hp;rw[hp.1.1.1.1];rfl
  | false=>
   rw[hp,cond_false]at h
   cases hd:(((!(zsb a.Light)) || (!(zi a.Intensity 1 100000000))) || (!(zu a.Sectors)))with
   | true=>rw[hd]at h;cases h
   | false=>
    rw[hd,cond_false]at h;simp only[Bool.or_eq_false_iff,Bool.not_eq_false']at hd;have hk:=(y1z a.Light hl hd.1.1).2.2.1;unfold zoe zng;have e4:zeg a.Intensity=zi a.Intensity 1 100000000:=rfl;rw[ycg _ hl,hd.1.1,e4,hd.1.2,yob _ (by omega),hd.2,ydj];simp only[Bool.not_true,Bool.or_self,cond_false];rw[h];symm
    rw[bne_iff_ne];omega
theorem ys7 {p:Point} (h:(!zhd p)=false):0<=p.X/\p.X<=200000/\0<=p.Y/\p.Y<=200000:=by
 have h2:zhd p=true:=by simpa using h
 exact y7y (p:=p) h2
theorem yjz {m:Mark} (h:(!zvc m)=false):0<=m.Kind/\m.Kind<=9/\m.Colors.length<=3/\m.Shape.length<=6/\m.Topmark.length<=5:=yni (by rw[<- yae];simpa using h)
theorem yi2 {a:List Sector} (hl:a.length<1099511627776) (h:(!zab a)=false):a.length<=12/\∀ i,0<=(a.getD i default).From/\(a.getD i default).From<=359/\0<=(a.getD i default).To/\(a.getD i default).To<=359/\(a.getD i default).Color.length<=1:=y7g (by rw[<- yob a (by omega)];simpa using h)
theorem yav {a:Aid} (hb:bdAid a) (h:(!zyf a)=false):zjc a=true:=by
 rw[<- ybh a (Nat.lt_of_lt_of_le hb.2.2.1.2.2 (by decide)) (Nat.lt_of_lt_of_le hb.2.2.2.1 (by decide))];simpa using h
theorem yo0 (k:Int):(zdd k).length<=100:=y12 _ _ (by decide)
theorem y00 (n:Nat):(zkb.getD n default).length<=100:=ysk _ (by decide) n
def yje (m:Nat):List Int:=if h:m=0 then[]else(48+(m % 10:Nat):Int)::yje (m / 10)
termination_by m
decreasing_by omega
theorem yah:yje 0=[]:=by rw[yje];simp
theorem yvi {m:Nat} (h:m≠0):yje m=(48+(m % 10:Nat):Int)::yje (m / 10):=by rw[yje];simp[h]
theorem y3o:∀ (m:Nat),m≠0->(yje m).reverse.map (fun z=>UInt8.ofNat z.toNat)=Go.Lib.decDigits m:=by
 intro m
 induction m using Nat.strongRecOn with
 | ind m ih=>
  intro h;rw[yvi h,Go.Lib.decDigits];have e3:UInt8.ofNat (48+((m % 10:Nat):Int)).toNat=UInt8.ofNat (48+m % 10):=by congr 1
  split
  ·rename_i h10
   have e:m / 10=0:=by omega
   have e2:m % 10=m:=Nat.mod_eq_of_lt h10;rw[e2]at e3 ⊢;simp only[e,yah,List.reverse_cons,List.reverse_nil,List.nil_append,List.map_cons,List.map_nil];rw[e3]
  ·rw[<- ih (m / 10) (by omega) (by omega)]
   simp only[List.reverse_cons,List.map_append,List.map_cons,List.map_nil,e3]
theorem ye3 (x:Int):(x.tdiv 10).natAbs=x.natAbs / 10:=by
 rcases yxk x with⟨h,e⟩|⟨h,e⟩<;>rw[e]<;>omega
theorem y17 (x:Int):x.tmod 10=x-10 * x.tdiv 10:=Int.tmod_def x 10
theorem yy8 (a0:Int) (m:Int) (ds:List Int) (h1 : -1000000000000<=m) (h2:m<=1000000000000) (h:m≠0) :
  y6q a0 (m,ds)=.ok (m.tdiv 10,ds++[48+((m.natAbs % 10:Nat):Int)]):=by
 have e1:=y17 m;have e2:=yxk m;have hn:(m != 0)=true:=by simpa using h
 unfold y6q;simp only[hn,cond_true];have w1:IntKind.wrap .i64 (m.tdiv 10)=m.tdiv 10:=by rw[IntKind.wrap_i64];omega
 rw[w1];by_cases hm:m.tmod 10<0
 ·simp only[hm,decide_true,cond_true]
  have w2:IntKind.wrap .u8 (IntKind.wrap .i64 (48+(IntKind.wrap .i64 (0-(m.tmod 10)))))=48+((m.natAbs % 10:Nat):Int):=by
   simp only[IntKind.wrap_i64,IntKind.wrap_u8];omega
  rw[w2]
 ·simp only[hm,decide_false,cond_false]
  have w2:IntKind.wrap .u8 (IntKind.wrap .i64 (48+(m.tmod 10)))=48+((m.natAbs % 10:Nat):Int):=by
   simp only[IntKind.wrap_i64,IntKind.wrap_u8];omega
  rw[w2]
theorem ymq (a0:Int):∀ (k:Nat) (m:Int) (ds:List Int),-1000000000000<=m->m<=1000000000000->m.natAbs<k ->
  y5 (y6q a0) k (m,ds)=.error (.inr (0,ds++yje m.natAbs))
 | 0,m,ds,_,_,h=>by omega
 | k+1,m,ds,h1,h2,h=>by
  by_cases hm:m=0
  ·subst hm
   simp[y5,y6q,yah]
  ·have e2:=yxk m
   simp only[y5,yy8 a0 m ds h1 h2 hm];rw[ymq a0 k (m.tdiv 10) _ (by omega) (by omega) (by omega),ye3,List.append_assoc,List.singleton_append, <- yvi (by omega)]
theorem ysw:∀ (m:Nat),(yje m).length<=m:=by
 intro m
 induction m using Nat.strongRecOn with
 | ind m ih=>
  by_cases h:m=0
  ·subst h;simp[yah]
  ·rw[yvi h]
   have:=ih (m / 10) (by omega);simp only[List.length_cons];omega
theorem yeu {α:Type} (L:List α) (d:α) (k:Nat) (h:k<L.length):L.getD k d::(L.take k).reverse=(L.take (k+1)).reverse:=by
 rw[List.take_add_one,List.reverse_append];simp[List.getD,List.getElem?_eq_getElem h]
theorem ydp (a0:Int) (s1:Int×List Int):∀ (f k:Nat) (out:List Int),k<f->k<=s1.2.length+1->k<=1000000000001 ->
  y5 (yrs a0 s1) f ((k:Int)-1,out)=.error (.inr (-1,out++((s1.2++[45]).take k).reverse))
 | 0,k,out,h,_,_=>by omega
 | f+1,0,out,_,_,_=>by simp[y5,yrs]
 | f+1,k+1,out,h,hk,hb=>by
  have e1:IntKind.wrap .i64 (((k+1:Nat):Int)-1-1)=(k:Int)-1:=by rw[IntKind.wrap_i64];omega
  have e2:(((k+1:Nat):Int)-1).toNat=k:=by omega
  have e3:decide (0<=((k+1:Nat):Int)-1)=true:=by simp
  simp only[y5,yrs,e3,cond_true,e1,e2];rw[ydp a0 s1 f k _ (by omega) (by omega) (by omega),List.append_assoc,List.singleton_append,yeu _ _ _ (by simp;omega)]
theorem ynq (a0:Int) (s1:Int×List Int):∀ (f k:Nat) (out:List Int),k<f->k<=s1.2.length->k<=1000000000001 ->
  y5 (yjs a0 s1) f ((k:Int)-1,out)=.error (.inr (-1,out++(s1.2.take k).reverse))
 | 0,k,out,h,_,_=>by omega
 | f+1,0,out,_,_,_=>by simp[y5,yjs]
 | f+1,k+1,out,h,hk,hb=>by
  have e1:IntKind.wrap .i64 (((k+1:Nat):Int)-1-1)=(k:Int)-1:=by rw[IntKind.wrap_i64];omega
  have e2:(((k+1:Nat):Int)-1).toNat=k:=by omega
  have e3:decide (0<=((k+1:Nat):Int)-1)=true:=by simp
  simp only[y5,yjs,e3,cond_true,e1,e2];rw[ynq a0 s1 f k _ (by omega) (by omega) (by omega),List.append_assoc,List.singleton_append,yeu _ _ _ (by omega)]
theorem y0f (n:Int) (h1 : -1000000000000<=n) (h2:n<=1000000000000):zj n=Go.Lib.itoa n:=by
 unfold zj Go.Lib.itoa;by_cases h0:n=0
 ·subst h0
  simp[Go.Lib.decDigits]
 have hn:(n == 0)=false:=by simpa using h0
 rw[hn,cond_false,ymq n _ n [] h1 h2 (by omega)];have hl:=ysw n.natAbs;have hr:=y3o n.natAbs (by omega);simp only[List.nil_append];by_cases hneg:n<0
 ·have e1:IntKind.wrap .i64 (((yje n.natAbs).length+1:Int)-1)=((((yje n.natAbs).length+1:Nat)):Int)-1:=by rw[IntKind.wrap_i64];omega
  simp only[hneg,decide_true,cond_true,e1,if_true];rw[ydp n _ _ _ _ (by omega) (by simp) (by omega)];simp only[List.nil_append];rw[List.take_of_length_le (by simp),List.reverse_append,List.map_append,hr];rfl
 ·have e1:IntKind.wrap .i64 (((yje n.natAbs).length:Int)-1)=(((yje n.natAbs).length:Nat):Int)-1:=by rw[IntKind.wrap_i64];omega
  simp only[hneg,decide_false,cond_false,e1,if_false];rw[ynq n _ _ _ _ (by omega) (by simp) (by omega)];simp only[List.nil_append];rw[List.take_of_length_le (by simp),hr];congr 1
  omega
theorem y6t (n:Int) (h1 : -1000000000000<=n) (h2:n<=1000000000000):(zj n).length<=n.natAbs+2:=by
 rw[y0f n h1 h2];exact yap n
def zzb (a0:Int):(List UInt8):=
 (bif ((a0.tmod 10) == 0)then(zj (IntKind.wrap .i64 (a0.tdiv 10)))++[115]else(((zj (IntKind.wrap .i64 (a0.tdiv 10)))++[46])++(zj (a0.tmod 10)))++[115])
namespace N207
theorem DD:DOk Tryz.prog (Go.Ab.DD [(91,dP D_zj)]):=ya yyn.e <| ye _
theorem dn:type_of% (@D_zj.eq_1):=by and_intros<;>intros<;>rfl
set_option maxHeartbeats 400000 in
set_option maxRecDepth 20000 in
theorem den (a0:Int) (hp0:0<=a0) (hp1:a0<=1000000):Den Tryz.prog 207 [.int .i64 a0] (.str (zzb a0)):=by
 generalize hR:zzb a0=r;unfold zzb at hR;refine di Tryz.func207 Tryz.ntmps207 Tryz.results207 ?_;intro c hL hc hk;clear hL;simp only[pars,Nat.zero_add];have hd:a0.tdiv 10=a0 / 10:=Int.tdiv_eq_ediv_of_nonneg hp0;have hw:IntKind.wrap .i64 (a0.tdiv 10)=a0 / 10:=by rw[IntKind.wrap_i64];omega
 have ht:=yek a0;have h1:=y6t (IntKind.wrap .i64 (a0.tdiv 10)) (by omega) (by omega);have h2:=y6t (a0.tmod 10) (by omega) (by omega);have h3:(IntKind.wrap .i64 (a0.tdiv 10)).natAbs<=100000:=by omega
 have h4:(a0.tmod 10).natAbs<=10:=by omega
 iterate 2 refine rS ?_
 refine AWP.cond rfl (fun hb => ?_) (fun hb => ?_)
 ·replace hR:=ct hR
  refine rS ?_;refine AWP.ret ?_;subst hR;exact es
 ·replace hR:=cf hR
  refine rS ?_;refine AWP.ret ?_;subst hR;exact es
end N207
def D_zzb : DF
 | [x0]=>some (.str (zzb (rdI x0)),false,[wI .i64 x0,0<=(rdI x0),(rdI x0)<=1000000])
 | _=>none
theorem yko:OkD Tryz.prog 207 D_zzb:=by unfold D_zzb;exact dk N207.den
theorem yvs (n:Nat):(zn.getD n default).length<=3:=by
 rw[List.getD_eq_getElem?_getD];have h:∀ x∈zn,x.length<=3:=by decide
 cases hg:zn[n]? with
 | none=>show(0:Nat)<=3;omega
 | some x=>exact h x (List.mem_of_getElem? hg)
theorem yvx (n:Int) (h1:0<=n) (h2:n<=1000000):(zzb n).length<=43:=by
 unfold zzb;have hd:n.tdiv 10=n / 10:=Int.tdiv_eq_ediv_of_nonneg h1;have hw:IntKind.wrap .i64 (n.tdiv 10)=n / 10:=by rw[IntKind.wrap_i64];omega
 have ht:=yek n;rw[hw,y0f _ (by omega) (by omega),y0f _ (by omega) (by omega)];have h3:=y0c (n / 10) (by omega) (by omega);have h4:=y0c (n.tmod 10) (by omega) (by omega);simp only[Bool.cond_eq_ite];split
 ·simp only[List.length_append,List.length_cons,List.length_nil];omega
 ·simp only[List.length_append,List.length_cons,List.length_nil];omega
end Go.Ab
