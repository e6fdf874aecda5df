/- A part of a proof: walks of functions and lemmas of our own. No conditions. -/
import Derived.Test.YtopoomikfjodkaaGreatDoorRBk
import Derived.Test.YtopoomikfjodkaaGreatDoorRAw
import Derived.Test.YtopoomikfjodkaaGreatDoorRAq
import Derived.Test.YtopoomikfjodkaaGreatDoorRAv
import Derived.Test.YtopoomikfjodkaaGreatDoorRBc
import Derived.Test.YtopoomikfjodkaaGreatDoorRBd
import Derived.Test.YtopoomikfjodkaaGreatDoorRBi
import Derived.Test.YtopoomikfjodkaaGreatDoorRAl
import Derived.Test.YtopoomikfjodkaaGreatDoorRBj
import Derived.Test.YtopoomikfjodkaaGreatDoorRAk
set_option linter.unusedSectionVars false
set_option linter.unusedVariables false
set_option linter.unusedSimpArgs false
set_option maxHeartbeats 1000000
namespace Go.Ab
open Go Go.Proofs
def yvd (w:List UInt8) (r:Int×Bool):Prop:=
 (∃ a:Int,0≤a∧a≤99999∧w=zv a∧r=(a,true))∨((∀ a:Int,0≤a→a≤99999→w≠zv a)∧r=(0,false))
theorem ypab {y m d y' m' d':Nat} (h1:y<10000) (h2:m<100) (h3:d<100) (h1':y'<10000) (h2':m'<100) (h3':d'<100) (h:D10 y m d=D10 y' m' d'):y=y'∧m=m'∧d=d':=by
 have t1:∀ y m d,(D10 y m d).take 4=pad4 y:=fun _ _ _=>rfl
 have t2:∀ y m d,((D10 y m d).take 7).drop 5=pad2 m:=fun _ _ _=>rfl
 have t3:∀ y m d,(D10 y m d).drop 8=pad2 d:=fun _ _ _=>rfl
 have e1:=congrArg (fun l=>digV 0 (List.take 4 l)) h
 have e2:=congrArg (fun l=>digV 0 ((List.take 7 l).drop 5)) h
 have e3:=congrArg (fun l=>digV 0 (List.drop 8 l)) h
 simp only[t1,t2,t3]at e1 e2 e3
 rw[(y6h h1).2,(y6h h1').2]at e1
 rw[(yid h2).2,(yid h2').2]at e2
 rw[(yid h3).2,(yid h3').2]at e3
 exact⟨e1,e2,e3⟩
theorem yck {a a':Int} (h1:0≤a) (h2:a≤99999) (h1':0≤a') (h2':a'≤99999) (h:zv a=zv a'):a=a':=by
 obtain⟨y,m,d,_,_,_,_,_,_,_,hd,e⟩:=y0c h1 h2
 obtain⟨y',m',d',_,_,_,_,_,_,_,hd',e'⟩:=y0c h1' h2'
 rw[e,e']at h
 obtain⟨rfl,rfl,rfl⟩:=ypab (by omega) (by omega) (by omega) (by omega) (by omega) (by omega) h
 have q:=hd.2.2.2.2.2
 have q':=hd'.2.2.2.2.2
 omega
theorem yvd.unique {w:List UInt8} {r r':Int×Bool} (h:yvd w r) (h':yvd w r'):r=r':=by
 rcases h with⟨n,h0,h1,h2,rfl⟩|⟨h1,rfl⟩<;>rcases h' with⟨n',h0',h1',h2',rfl⟩|⟨h1',rfl⟩
 ·rw[yck h0 h1 h0' h1' (h2.symm.trans h2')]
 ·exact absurd h2 (h1' n h0 h1)
 ·exact absurd h2' (h1 n' h0' h1')
 ·rfl
theorem yvd.of {w:List UInt8} {r:Int×Bool} (h1:r=(0,false)∨∃ a:Int,0≤a∧a≤99999∧w=zv a) (h2:∀ a:Int,0≤a→a≤99999→w=zv a→r=(a,true)):yvd w r:=by
 by_cases h:∃ a:Int,0≤a∧a≤99999∧w=zv a
 ·obtain⟨a,q1,q2,q3⟩:=h
  exact .inl ⟨a,q1,q2,q3,h2 a q1 q2 q3⟩
 ·refine .inr ⟨fun a q1 q2 q3=>h ⟨a,q1,q2,q3⟩,?_⟩
  rcases h1 with h1|h1
  ·exact h1
  ·exact absurd h1 h
theorem yy2 {a b:UInt8} (h:y4b [a,b]):pad2 (digV 0 [a,b])=[a,b]:=by
 have ha:=h a (by simp)
 have hb:=h b (by simp)
 rw[y9,y9,yhd]
 unfold pad2 u8D
 congr 1
 ·rw[show(10 * (10 * 0+(a.toNat-48))+(b.toNat-48)) / 10=a.toNat-48 by omega];exact y2s ha.1 ha.2
 ·congr 1
  rw[show(10 * (10 * 0+(a.toNat-48))+(b.toNat-48)) % 10=b.toNat-48 by omega];exact y2s hb.1 hb.2
theorem y19 {a b c e:UInt8} (h:y4b [a,b,c,e]):pad4 (digV 0 [a,b,c,e])=[a,b,c,e]:=by
 have ha:=h a (by simp)
 have hb:=h b (by simp)
 have hc:=h c (by simp)
 have he:=h e (by simp)
 rw[y9,y9,y9,y9,yhd]
 unfold pad4 u8D
 congr 1
 ·rw[show(10 * (10 * (10 * (10 * 0+(a.toNat-48))+(b.toNat-48))+(c.toNat-48))+(e.toNat-48)) / 1000=a.toNat-48 by omega];exact y2s ha.1 ha.2
 ·congr 1
  ·rw[show(10 * (10 * (10 * (10 * 0+(a.toNat-48))+(b.toNat-48))+(c.toNat-48))+(e.toNat-48)) / 100 % 10=b.toNat-48 by omega];exact y2s hb.1 hb.2
  ·congr 1
   ·rw[show(10 * (10 * (10 * (10 * 0+(a.toNat-48))+(b.toNat-48))+(c.toNat-48))+(e.toNat-48)) / 10 % 10=c.toNat-48 by omega];exact y2s hc.1 hc.2
   ·congr 1
    rw[show(10 * (10 * (10 * (10 * 0+(a.toNat-48))+(b.toNat-48))+(c.toNat-48))+(e.toNat-48)) % 10=e.toNat-48 by omega];exact y2s he.1 he.2
theorem y6v (y m d:Nat):zsf y m d=(0,false)∨(∃ a:Int,zsf y m d=(a,decide (a≤99999))∧0≤a∧y≤2273∧m≤12∧d≤31∧ylk a y m d):=by
 unfold zsf
 cases hg:((!(zng (y:Int))) || (!(zg (m:Int) 1 12))) || (!(zg (d:Int) 1 (zod y m)))with
 | true=>left;rfl
 | false=>
  right
  simp only[zng,zg,Bool.or_eq_false_iff,Bool.not_eq_false',Bool.and_eq_true,decide_eq_true_eq]at hg
  obtain⟨⟨⟨g1,g2⟩,g3,g4⟩,g5,g6⟩:=hg
  have hge:=y02 (y:Int) (m:Int)
  have hm:=yjq (y:=(y:Int)) (m:=(m:Int)) g3 g4
  have hn:=ydj y m d (by omega) (by omega) (by omega) (by omega) (by omega) (by omega)
  have hb:=yll (y:=(y:Int)) (by omega)
  refine⟨zzc y m d,rfl,by omega,by omega,by omega,by omega,g1,g3,g4,g5,by omega,?_⟩
  rw[hn,Int.toNat_natCast]
theorem y60 {a:Int} {y m d:Nat} (h1:0≤a) (h2:a≤99999) (hd:ylk a y m d):zsf y m d=(a,true):=by
 obtain⟨q1,q2,q3,q4,q5,q6⟩:=hd
 have hm:=yjq (y:=(y:Int)) (m:=(m:Int)) q2 q3
 have hle:=yso (l:=yhb y) q2 q3
 have hy:=y7o (y:=(y:Int)) (by omega)
 have hn:=ydj y m d (by omega) (by omega) (by omega) (by omega) (by omega) (by omega)
 have hg:(((!(zng (y:Int))) || (!(zg (m:Int) 1 12))) || (!(zg (d:Int) 1 (zod y m))))=false:=by
  simp only[zng,zg,Bool.or_eq_false_iff,Bool.not_eq_false',Bool.and_eq_true,decide_eq_true_eq]
  omega
 unfold zsf
 rw[hg,cond_false]
 rw[Int.toNat_natCast]at q6
 have e:zzc y m d=a:=by omega
 rw[e]
 simp[h2]
theorem yje (w:List UInt8):yvd w (znb w):=by
 refine yvd.of ?_ ?_
 ·unfold znb
  cases hg:((((w.length:Int) != 10) || (((w.getD 4 0).toNat:Int) != 45)) || (((w.getD 7 0).toNat:Int) != 45))with
  | true=>left;rfl
  | false=>
   simp only[Bool.or_eq_false_iff,bne_eq_false_iff_eq]at hg
   obtain⟨⟨hl,h4⟩,h7⟩:=hg
   obtain⟨b0,b1,b2,b3,b4,b5,b6,b7,b8,b9,rfl⟩:∃ b0 b1 b2 b3 b4 b5 b6 b7 b8 b9,w=[b0,b1,b2,b3,b4,b5,b6,b7,b8,b9]:=by
    match w,hl with
    | [b0,b1,b2,b3,b4,b5,b6,b7,b8,b9],_=>exact⟨b0,b1,b2,b3,b4,b5,b6,b7,b8,b9,rfl⟩
   have e4:b4=45:=UInt8.toNat_inj.1 (by show b4.toNat=45;have h:=h4;simp at h;omega)
   have e7:b7=45:=UInt8.toNat_inj.1 (by show b7.toNat=45;have h:=h7;simp at h;omega)
   subst e4 e7
   rw[cond_false]
   have t1:([b0,b1,b2,b3,45,b5,b6,45,b8,b9]:List UInt8).take 4=[b0,b1,b2,b3]:=rfl
   have t2:(([b0,b1,b2,b3,45,b5,b6,45,b8,b9]:List UInt8).take 7).drop 5=[b5,b6]:=rfl
   have t3:(([b0,b1,b2,b3,45,b5,b6,45,b8,b9]:List UInt8).take ([b0,b1,b2,b3,45,b5,b6,45,b8,b9]:List UInt8).length).drop 8=[b8,b9]:=rfl
   rw[t1,t2,t3,yxc _ (by simp),yxc _ (by simp),yxc _ (by simp)]
   by_cases d1:y4b [b0,b1,b2,b3]
   ·by_cases d2:y4b [b5,b6]
    ·by_cases d3:y4b [b8,b9]
     ·rw[if_pos d1,if_pos d2,if_pos d3]
      simp only[Bool.not_true,Bool.or_self,cond_false]
      rcases y6v (digV 0 [b0,b1,b2,b3]) (digV 0 [b5,b6]) (digV 0 [b8,b9])with h|⟨a,h,ha,hy,hm,hd,hD⟩
      ·left;rw[h];rfl
      ·rw[h]
       by_cases hle:a≤99999
       ·right
        refine⟨a,ha,hle,?_⟩
        obtain⟨y',m',d',_,_,_,_,_,_,_,hD',e⟩:=y0c ha hle
        obtain⟨r1,r2,r3⟩:=hD'.unique hD
        have r1:y'=digV 0 [b0,b1,b2,b3]:=by omega
        have r2:m'=digV 0 [b5,b6]:=by omega
        have r3:d'=digV 0 [b8,b9]:=by omega
        rw[e,r1,r2,r3]
        unfold D10
        rw[y19 d1,yy2 d2,yy2 d3]
        rfl
       ·left;simp[hle]
     ·left;rw[if_pos d1,if_pos d2,if_neg d3];rfl
    ·left;rw[if_pos d1,if_neg d2];rfl
   ·left;rw[if_neg d1];rfl
 ·rintro a h1 h2 rfl
  obtain⟨y,m,d,_,hy1,hy2,hm1,hm2,hd1,hd2,hD,e⟩:=y0c h1 h2
  rw[e]
  unfold znb
  have t0:(((((D10 y m d).length:Int) != 10) || ((((D10 y m d).getD 4 0).toNat:Int) != 45)) || ((((D10 y m d).getD 7 0).toNat:Int) != 45))=false:=rfl
  have t1:(D10 y m d).take 4=pad4 y:=rfl
  have t2:((D10 y m d).take 7).drop 5=pad2 m:=rfl
  have t3:((D10 y m d).take (D10 y m d).length).drop 8=pad2 d:=rfl
  obtain⟨p1,p2⟩:=y6h (y:=y) (by omega)
  obtain⟨p3,p4⟩:=yid (m:=m) (by omega)
  obtain⟨p5,p6⟩:=yid (m:=d) (by omega)
  rw[t0,cond_false,t1,t2,t3,yxc _ (by simp[pad4]),yxc _ (by simp[pad2]),yxc _ (by simp[pad2]),if_pos p1,if_pos p3,if_pos p5,p2,p4,p6]
  simp only[Bool.not_true,Bool.or_self,cond_false]
  rw[y60 h1 h2 hD]
  rfl
theorem yw5 {a:Int} {y m d:Nat} (h1:0≤a) (h2:a≤99999) (hd:ylk a y m d):zbe y m d=(a,0):=by
 obtain⟨q1,q2,q3,q4,q5,q6⟩:=hd
 have hle:=yso (l:=yhb y) q2 q3
 have hy:=y7o (y:=(y:Int)) (by omega)
 have hm:=y7k (y:=(y:Int)) (m:=(m:Int)) q1 hy q2 q3
 have hn:=yo3 y m d (by omega) (by omega) (by omega) (by omega) (by omega) (by omega)
 rw[Int.toNat_natCast]at q6
 have e:zme y m d=a:=by omega
 have hg:((((!(zcf (y:Int))) || (!(zkg (m:Int)))) || (!(ze (d:Int) 1 (zfb y m)))) || (!(zld (zme y m d))))=false:=by
  rw[e]
  simp only[zcf,zkg,zld,ze,Bool.or_eq_false_iff,Bool.not_eq_false',Bool.and_eq_true,decide_eq_true_eq]
  omega
 unfold zbe
 rw[hg,cond_false,e]
theorem yz6 (y m d:Int) (h:(zbe y m d).2=0):0≤(zbe y m d).1∧(zbe y m d).1≤99999:=by
 unfold zbe at h ⊢
 cases hg:((((!(zcf y)) || (!(zkg m))) || (!(ze d 1 (zfb y m)))) || (!(zld (zme y m d))))with
 | true=>rw[hg]at h;simp at h
 | false=>
  rw[cond_false]
  simp only[Bool.or_eq_false_iff,Bool.not_eq_false',zld,ze,Bool.and_eq_true,decide_eq_true_eq]at hg
  exact hg.2
theorem y9h (w:List UInt8) (hw:w.length≤1048576):yvd w (zmc w):=by
 refine yvd.of ?_ ?_
 ·unfold zmc
  cases hl:(((zb w [45]).length:Int) != 3)with
  | true=>left;rfl
  | false=>
   rw[cond_false]
   have hok:=yz6 ((zu ((zb w [45]).getD 0 default)).1) ((zu ((zb w [45]).getD 1 default)).1) ((zu ((zb w [45]).getD 2 default)).1)
   generalize zbe ((zu ((zb w [45]).getD 0 default)).1) ((zu ((zb w [45]).getD 1 default)).1) ((zu ((zb w [45]).getD 2 default)).1)=q at hok ⊢
   cases hc:(((((!((zu ((zb w [45]).getD 0 default)).2)) || (!((zu ((zb w [45]).getD 1 default)).2))) || (!((zu ((zb w [45]).getD 2 default)).2))) || (q.2 != 0)) || ((zv q.1) != w))with
   | true=>left;rfl
   | false=>
    right
    rw[Bool.or_eq_false_iff,Bool.or_eq_false_iff]at hc
    obtain⟨⟨_,hq⟩,ht⟩:=hc
    have hq:q.2=0:=by simpa using hq
    have ht:zv q.1=w:=by simpa using ht
    exact⟨q.1,(hok hq).1,(hok hq).2,ht.symm⟩
 ·rintro a h1 h2 rfl
  obtain⟨y,m,d,_,hy1,hy2,hm1,hm2,hd1,hd2,hD,e⟩:=y0c h1 h2
  have e45:∀ l:List UInt8,y4b l→(45:UInt8)∉l:=fun l h hm=>by have:=h 45 hm;simp at this
  obtain⟨p1,p2⟩:=y6h (y:=y) (by omega)
  obtain⟨p3,p4⟩:=yid (m:=m) (by omega)
  obtain⟨p5,p6⟩:=yid (m:=d) (by omega)
  have hs:zb (D10 y m d) [45]=[pad4 y,pad2 m,pad2 d]:=by
   unfold zb D10
   show yh 45 _=_
   rw[ybb _ _ _ (e45 _ p1),ybb _ _ _ (e45 _ p3),ypb _ _ (e45 _ p5)]
  have hr:zmc (D10 y m d)=(bif zv a != D10 y m d then(0,false)else(a,true)):=by
   unfold zmc
   rw[hs]
   show(bif (((((!((zu (pad4 y)).2)) || (!((zu (pad2 m)).2))) || (!((zu (pad2 d)).2))) || (((zbe ((zu (pad4 y)).1) ((zu (pad2 m)).1) ((zu (pad2 d)).1)).2) != 0)) || ((zv ((zbe ((zu (pad4 y)).1) ((zu (pad2 m)).1) ((zu (pad2 d)).1)).1)) != D10 y m d))then(0,false)else((zbe ((zu (pad4 y)).1) ((zu (pad2 m)).1) ((zu (pad2 d)).1)).1,true))=_
   rw[yuh _ (by simp[pad4]) (by simp[pad4]),yuh _ (by simp[pad2]) (by simp[pad2]),yuh _ (by simp[pad2]) (by simp[pad2]),if_pos p1,if_pos p3,if_pos p5,p2,p4,p6]
   simp only
   rw[yw5 h1 h2 hD]
   simp
  rw[e,hr,e]
  simp
theorem yfk (w:List UInt8) (hw:w.length≤1048576):zmc w=znb w:=(y9h w hw).unique (yje w)
end Go.Ab

namespace Go.Ab
open Go Go.Proofs
def yvk (c : UInt8) : List (List UInt8) → List UInt8
 | []=>[]
 | [x]=>x
 | x::y::r=>x++c::yvk c (y::r)
theorem yyd (c : UInt8) : ∀ l, yvk c (yh c l) = l
 | []=>rfl
 | b::l=>by
  have ih:=yyd c l
  simp only[yh]
  split
  ·rename_i h
   obtain⟨x,r,e⟩:=List.exists_cons_of_ne_nil (y6f c l)
   rw[e]at ih ⊢
   simp only[yvk,List.nil_append]
   rw[ih,h]
  ·obtain⟨x,r,e⟩:=List.exists_cons_of_ne_nil (y6f c l)
   rw[e]at ih ⊢
   simp only
   cases r with
   | nil=>simp only[yvk]at ih ⊢;rw[ih]
   | cons y r=>simp only[yvk,List.cons_append]at ih ⊢;rw[ih]
theorem ylm {a:Int} (h1:0≤a) (h2:a≤99999):(32:UInt8)∉zv a∧zv a≠[]∧(zv a).length≤1048576:=by
 obtain⟨y,m,d,_,_,_,_,_,_,_,_,e⟩:=y0c h1 h2
 obtain⟨p1,_⟩:=y6h (y:=y) (by omega)
 obtain⟨p3,_⟩:=yid (m:=m) (by omega)
 obtain⟨p5,_⟩:=yid (m:=d) (by omega)
 rw[e]
 refine⟨fun hm => ?_,by simp[D10,pad4],by simp[D10,pad4,pad2]⟩
 unfold D10 at hm
 simp only[List.mem_append,List.mem_cons]at hm
 rcases hm with hm|hm|hm|hm|hm
 ·have:=p1 32 hm;simp at this
 ·simp at hm
 ·have:=p3 32 hm;simp at this
 ·simp at hm
 ·have:=p5 32 hm;simp at this
theorem y9d (n:Int):(32:UInt8)∉Lib.itoa n∧Lib.itoa n≠[]:=by
 obtain⟨d1,_,d3,_⟩:=y7 n.natAbs
 by_cases h:n<0
 ·rw[y3b h]
  refine⟨fun hm => ?_,by simp⟩
  rcases List.mem_cons.1 hm with hm|hm
  ·simp at hm
  ·have:=d1 32 hm;simp at this
 ·rw[ywe h]
  exact⟨fun hm=>by have:=d1 32 hm;simp at this,d3⟩
theorem ykh {a:Int} (h1:0≤a) (h2:a≤99999):znb (zv a)=(a,true):=by
 rcases yje (zv a)with⟨a',h1',h2',e,h⟩|⟨h,_⟩
 ·rw[h,yck h1 h2 h1' h2' e]
 ·exact absurd rfl (h a h1 h2)
theorem ymr {n:Int} (h:n.natAbs<E18) (hl:(Lib.itoa n).length≤1048576):zf (Lib.itoa n)=(n,true):=by
 rcases y5b (Lib.itoa n) hl with⟨n',h',e,hr⟩|⟨hn,_⟩
 ·rw[hr,ybp e]
 ·exact absurd rfl (hn n h)
end Go.Ab

namespace Go.Ab
open Go Go.Proofs
def zkf (a0:(List UInt8)):(Int×Bool):=
 (bif (!((zd a0 [46]).2.2))then(IntKind.wrap .i64 ((IntKind.wrap .i64 (10 * ((zj ((zd a0 [46]).1)).1)))+((zj [48]).1)),(((((zj ((zd a0 [46]).1)).2 && (zj [48]).2) && (ze ((zj ((zd a0 [46]).1)).1) 0 1200)) && (ze ((zj [48]).1) 0 9)) && ((zjf (IntKind.wrap .i64 ((IntKind.wrap .i64 (10 * ((zj ((zd a0 [46]).1)).1)))+((zj [48]).1)))) == a0)))else(IntKind.wrap .i64 ((IntKind.wrap .i64 (10 * ((zj ((zd a0 [46]).1)).1)))+((zj ((zd a0 [46]).2.1)).1)),(((((zj ((zd a0 [46]).1)).2 && (zj ((zd a0 [46]).2.1)).2) && (ze ((zj ((zd a0 [46]).1)).1) 0 1200)) && (ze ((zj ((zd a0 [46]).2.1)).1) 0 9)) && ((zjf (IntKind.wrap .i64 ((IntKind.wrap .i64 (10 * ((zj ((zd a0 [46]).1)).1)))+((zj ((zd a0 [46]).2.1)).1)))) == a0))))
namespace N186
theorem DD:DOk Tryz.prog (Go.Ab.DD [(136,dP D_zj),(181,dP D_ze),(184,dP D_zd),(218,dP D_zjf)]):=ya yxh.e <| ya y9b.e <| ya y6l.e <| ya ykw.e <| yc _
theorem dn:type_of% (And.intro @D_zj.eq_1 <| And.intro @D_ze.eq_1 <| And.intro @D_zd.eq_1 <| @D_zjf.eq_1):=by and_intros<;>intros<;>rfl
theorem ol:type_of% (@ze.eq_1):=@ze.eq_1
theorem gr {p:Prop} (h:p:=by(grind [yqg]);first|done|fail):p:=h
set_option maxHeartbeats 400000 in
set_option maxRecDepth 20000 in
theorem den (a0:(List UInt8)) (hb0:a0.length<1099511627776) (hp0:a0.length≤1048576):Den Tryz.prog 186 [.str a0] (.tup [.int .i64 ((zkf a0).1),.bool ((zkf a0).2)]):=by
 generalize hR:zkf a0=r
 unfold zkf at hR
 refine di Tryz.func186 Tryz.ntmps186 Tryz.results186 ?_
 intro c hL hc hk
 obtain⟨hL0,_⟩:=hL
 have hw0:a0.length<9223372036854775808:=Nat.lt_succ_of_le hL0
 clear hL0
 simp only[pars,Nat.zero_add]
 iterate 3 refine rS ?_
 refine AWP.cond rfl (fun hb => ?_) (fun hb => ?_)
 ·replace hR:=ct hR
  iterate 5 refine rS ?_
  refine AWP.ret ?_
  subst hR
  exact es
 ·replace hR:=cf hR
  iterate 4 refine rS ?_
  refine AWP.ret ?_
  subst hR
  exact es
end N186
def D_zkf : DF
 | [x0]=>some (.tup [.int .i64 ((zkf (rdS x0)).1),.bool ((zkf (rdS x0)).2)],false,[wS x0,(rdS x0).length<1099511627776,(rdS x0).length≤1048576])
 | _=>none
theorem yj7:OkD Tryz.prog 186 D_zkf:=by unfold D_zkf;exact dk N186.den
end Go.Ab

namespace Go.Ab
open Go Go.Proofs
theorem yuf {n:Int} (h:0≤n) (b:UInt8) (hb:b.toNat<48∨57<b.toNat):b∉Lib.itoa n:=by
 obtain⟨d1,_,_,_⟩:=y7 n.natAbs
 rw[ywe (by omega)]
 intro hm
 have:=d1 b hm
 omega
theorem ykd {n:Int} (h1:0≤n) (h2:n≤1000000):yac (Lib.itoa n)=(n,true):=by
 rcases ypk (Lib.itoa n)with⟨m,hm,he,hr⟩|⟨hn,_⟩
 ·rw[hr,ybp he]
 ·exact absurd rfl (hn n (by unfold E18;omega))
theorem ysab (b : UInt8) (hb : b ≠ 43) : ∀ (xs : List (List UInt8)), (∀ x ∈ xs, b ∉ x) → b ∉ Lib.join xs [43]
 | [],_=>by simp[Lib.join_nil]
 | x::r,h=>by
  rw[Lib.join_cons]
  intro hm
  rcases List.mem_append.1 hm with hm|hm
  ·exact h x (by simp) hm
  ·unfold Lib.joinTail at hm
   rw[List.mem_flatten]at hm
   obtain⟨l,hl,hbl⟩:=hm
   obtain⟨y,hy,rfl⟩:=List.mem_map.1 hl
   rcases List.mem_append.1 hbl with h9|h9
   ·rw[List.mem_singleton]at h9;exact hb h9
   ·exact h y (by simp[hy]) h9
theorem yoj (b : UInt8) : ∀ (x : List UInt8) (r : List (List UInt8)), b ∉ x → (∀ y ∈ r, b ∉ y) → yh b (x ++ Lib.joinTail [b] r) = x :: r
 | x,[],hx,_=>by simp[Lib.joinTail,ypb b x hx]
 | x,y::r,hx,hr=>by
  have e:Lib.joinTail [b] (y::r)=b::(y++Lib.joinTail [b] r):=by simp[Lib.joinTail]
  rw[e,ybb b x _ hx,yoj b y r (hr y (by simp)) (fun z hz=>hr z (by simp[hz]))]
theorem y0e (g:List Int) (hg:g≠[]) (h2:∀ v∈g,1≤v∧v≤9):yh 43 (Lib.join (g.map Lib.itoa) [43])=g.map Lib.itoa:=by
 cases g with
 | nil=>exact absurd rfl hg
 | cons x r=>
  rw[List.map_cons,Lib.join_cons]
  refine yoj 43 _ _ (yuf (by have:=h2 x (by simp);omega) 43 (by decide)) ?_
  intro y hy
  obtain⟨z,hz,rfl⟩:=List.mem_map.1 hy
  exact yuf (by have:=h2 z (by simp[hz]);omega) 43 (by decide)
theorem y9ab (k:Int) (h:1≤k∧k≤8):(40:UInt8)∉kt k∧(32:UInt8)∉kt k:=by
 rcases(show k=1∨k=2∨k=3∨k=4∨k=5∨k=6∨k=7∨k=8 by omega)with h|h|h|h|h|h|h|h<;>subst h<;>decide
theorem yyp (n:Int) (h1:0<n) (h2:n≤600):zkf (secT n)=(n,true):=by
 have hm:n.tmod 10=n % 10:=Int.tmod_eq_emod_of_nonneg (by omega)
 have z0:Lib.itoa 0=[48]:=by
  rw[ywe (by omega)]
  first|rfl|decide|(rw[show(0:Int).natAbs=0 from rfl,Lib.decDigits];rfl)
 have e0:zj [48]=(0,true):=by
  have:=ykd (n:=0) (by omega) (by omega)
  rw[z0]at this
  exact this
 have e1:zj (Lib.itoa (n / 10))=(n / 10,true):=ykd (by omega) (by omega)
 have hst:=yow n (by omega) h2
 have hcut:∀ s,zd s [46]=Lib.cut s [46]:=fun s=>rfl
 unfold zkf
 simp only[hcut]
 have hw:∀ m:Int,0≤m→m≤100000→IntKind.wrap .i64 m=m:=fun m _ _=>by rw[IntKind.wrap_i64];omega
 by_cases h:n.tmod 10=0
 ·have hs:secT n=Lib.itoa (n / 10):=by unfold secT;rw[if_pos h]
  rw[hs]at hst ⊢
  rw[yal _ 46 (yuf (by omega) 46 (by decide))]
  simp only[Bool.not_false,cond_true]
  rw[e0,e1]
  simp only
  rw[hw (10 * (n / 10)) (by omega) (by omega),hw (10 * (n / 10)+0) (by omega) (by omega),show 10 * (n / 10)+0=n by omega,hst]
  have w1:ze (n / 10) 0 1200=true:=by unfold ze;rw[decide_eq_true (by omega),decide_eq_true (by omega)];rfl
  rw[w1]
  simp[ze]
 ·have hs:secT n=Lib.itoa (n / 10)++(46::Lib.itoa (n % 10)):=by unfold secT;rw[if_neg h]
  have e2:zj (Lib.itoa (n % 10))=(n % 10,true):=ykd (by omega) (by omega)
  rw[hs]at hst ⊢
  rw[ygg _ _ 46 (yuf (by omega) 46 (by decide))]
  simp only[Bool.not_true,cond_false]
  rw[e1,e2]
  simp only
  rw[hw (10 * (n / 10)) (by omega) (by omega),hw (10 * (n / 10)+n % 10) (by omega) (by omega),show 10 * (n / 10)+n % 10=n by omega,hst]
  have w1:ze (n / 10) 0 1200=true:=by unfold ze;rw[decide_eq_true (by omega),decide_eq_true (by omega)];rfl
  have w2:ze (n % 10) 0 9=true:=by unfold ze;rw[decide_eq_true (by omega),decide_eq_true (by omega)];rfl
  rw[w1,w2]
  simp
end Go.Ab

namespace Go.Ab
open Go Go.Proofs
theorem yeu (a b:List UInt8):zh a b=(Lib.trimSuffix a b,Lib.hasSuffix a b):=rfl
theorem ylu (a b:List UInt8):zd a b=Lib.cut a b:=rfl
theorem y5o (k : Int) (hk : 1 ≤ k ∧ k ≤ 8) (b : Int × Int → Except (Sum (Character × Bool) (Int × Int)) (Int × Int))
  (hb:∀ s,b s=(bif decide (s.1≤8)then(bif ((zdd s.1) == kt k)then .ok (IntKind.wrap .i64 (s.1+1),s.1)else .ok (IntKind.wrap .i64 (s.1+1),s.2))else .error (.inr (s.1,s.2)))) :
  y3 b (((9-(1:Int)).toNat)+1) (1,0)=.error (.inr (9,k)):=by
 have e:b=fun s=>(bif decide (s.1≤8)then(bif ((zdd s.1) == kt k)then .ok (IntKind.wrap .i64 (s.1+1),s.1)else .ok (IntKind.wrap .i64 (s.1+1),s.2))else .error (.inr (s.1,s.2))):=funext hb
 rw[e]
 rcases(show k=1∨k=2∨k=3∨k=4∨k=5∨k=6∨k=7∨k=8 by omega)with h|h|h|h|h|h|h|h<;>subst h<;>rfl
theorem ycbb {ρ : Type} (g : List Int) (h2 : ∀ v ∈ g, 1 ≤ v ∧ v ≤ 9) (r : Nat → List Int → ρ) (b : Nat → List Int → Except ρ (List Int))
  (hb:∀ i s,b i s=(bif (!(zj ((g.map Lib.itoa).getD i default)).2)then .error (r i s)else .ok (s++([(zj ((g.map Lib.itoa).getD i default)).1]:List Int)))) :
  ye b ((g.map Lib.itoa).length-0) 0 []=.ok g:=by
 rw[List.length_map,Nat.sub_zero]
 rw[ynd b (fun j=>[id (g.getD j default)]) g.length 0 [] (fun j s _ hj=>by
  have hj2:j<g.length:=by omega
  have e:(g.map Lib.itoa).getD j default=Lib.itoa (g.getD j default):=by
   rw[List.getD_eq_getElem?_getD,List.getD_eq_getElem?_getD,List.getElem?_map,List.getElem?_eq_getElem hj2];rfl
  have hr:=ydh h2 j
  have e2:zj (Lib.itoa (g.getD j default))=(g.getD j default,true):=ykd (by omega) (by omega)
  rw[hb,e,e2];rfl),yrg g default id]
 simp
theorem y82 (c:Character) (h:zqb c=true) (h8:c.Kind≠8) (hL:c.Letter≠[]):c.Letter=[76]∧c.Group=[6]:=by
 unfold zqb at h
 simp only[Bool.cond_eq_ite]at h
 repeat' split at h
 all_goals (try simp only[Bool.and_eq_true,Bool.or_eq_true,beq_iff_eq,ydg,decide_eq_true_eq]at *)
 all_goals first
  | (exact absurd h.2 hL;done)
  | (exact absurd h.1 hL;done)
  | (exact h)
  | (rename_i q;exact absurd q hL)
  | (rename_i q;exact absurd q h8)
  | (cases h;done)
theorem ywo (c:Character) (h:zqb c=true) (h8:c.Kind=8):c.Group=[]∧c.Letter.length=1∧65≤(c.Letter.getD 0 0).toNat∧(c.Letter.getD 0 0).toNat≤90:=by
 unfold zqb at h
 rw[h8]at h
 have h:(((zlc c.Letter) != []) && ((c.Group.length:Int) == 0))=true:=h
 rw[Bool.and_eq_true,beq_iff_eq,y8o,decide_eq_true_eq]at h
 exact⟨List.length_eq_zero_iff.1 (by omega),h.1⟩
theorem yks (k:Int) (h:1≤k∧k≤8):Lib.hasSuffix (kt k) [43,76,70,108]=false:=by
 rcases(show k=1∨k=2∨k=3∨k=4∨k=5∨k=6∨k=7∨k=8 by omega)with h|h|h|h|h|h|h|h<;>subst h<;>decide
theorem ydl (x:List UInt8):Lib.hasSuffix (x++[41]) [43,76,70,108]=false:=yrn x [43,76,70] 41 108 (by decide)
theorem y91 (c:Character) (h:zqb c=true):zm (yve c)=({ Kind:=c.Kind,Group:=c.Group,Letter:=c.Letter,Colors:=[],Period:=0:Character },true):=by
 have hk:=yie c h
 obtain⟨g1,g2⟩:=yhe c h
 have h40:=(y9ab c.Kind hk).1
 unfold yve
 by_cases h8:c.Kind=8
 ·obtain⟨f1,f2⟩:=ywo c h h8
  rw[if_pos h8,f1,h8]
  have eH:kt 8++40::(c.Letter++[41])=(kt 8++40::c.Letter)++[41]:=by simp
  have c1:zh (kt 8++40::(c.Letter++[41])) [43,76,70,108]=(kt 8++40::(c.Letter++[41]),false):=by
   rw[yeu,eH,ydl,ysf _ _ (ydl _)]
  have c2:zd (kt 8++40::(c.Letter++[41])) [40]=(kt 8,c.Letter++[41],true):=by rw[ylu,ygg _ _ 40 (by decide)]
  have c3:zh (c.Letter++[41]) [41]=(c.Letter,true):=by rw[yeu,ymc,y9c]
  have hw:=y5o 8 (by omega) (y3m (kt 8++40::(c.Letter++[41]))) (fun s=>by unfold y3m;rw[c1];simp only;rw[c2])
  unfold zm
  rw[c1]
  simp only
  rw[c2]
  simp only
  rw[c3,hw]
  rfl
 ·rw[if_neg h8]
  have e8:(c.Kind == 8)=false:=by rw[beq_eq_false_iff_ne];exact h8
  by_cases hL:c.Letter=[]
  ·rw[if_pos hL,List.append_nil,hL]
   by_cases hg:c.Group=[]
   ·have eg:grpT c.Group=[]:=by rw[hg];rfl
    rw[eg,List.append_nil,hg]
    have c1:zh (kt c.Kind) [43,76,70,108]=(kt c.Kind,false):=by
     rw[yeu,yks _ hk,ysf _ _ (yks _ hk)]
    have c2:zd (kt c.Kind) [40]=(kt c.Kind,[],false):=by rw[ylu,yal _ 40 h40]
    have hw:=y5o c.Kind hk (y3m (kt c.Kind)) (fun s=>by unfold y3m;rw[c1];simp only;rw[c2])
    unfold zm
    rw[c1]
    simp only
    rw[c2,hw]
    rfl
   ·have eg:grpT c.Group=40::(Lib.join (c.Group.map Lib.itoa) [43]++[41]):=by unfold grpT;rw[if_neg hg]
    rw[eg]
    generalize hJ:Lib.join (c.Group.map Lib.itoa) [43]=J
    have eH:kt c.Kind++40::(J++[41])=(kt c.Kind++40::J)++[41]:=by simp
    have c1:zh (kt c.Kind++40::(J++[41])) [43,76,70,108]=(kt c.Kind++40::(J++[41]),false):=by
     rw[yeu,eH,ydl,ysf _ _ (ydl _)]
    have c2:zd (kt c.Kind++40::(J++[41])) [40]=(kt c.Kind,J++[41],true):=by rw[ylu,ygg _ _ 40 h40]
    have c3:zh (J++[41]) [41]=(J,true):=by rw[yeu,ymc,y9c]
    have c4:zb J [43]=c.Group.map Lib.itoa:=by
     show yh 43 J=_
     rw[← hJ];exact y0e _ hg g2
    have hw:=y5o c.Kind hk (y3m (kt c.Kind++40::(J++[41]))) (fun s=>by unfold y3m;rw[c1];simp only;rw[c2])
    have hg4:∀ s,ye (y9v (kt c.Kind++40::(J++[41])) s) ((c.Group.map Lib.itoa).length-0) 0 []=.ok c.Group:=fun s=>ycbb c.Group g2 (fun _ _=>({ Kind:=0,Group:=[],Letter:=[],Colors:=[],Period:=0:Character },false)) _ (fun i t=>by unfold y9v;rw[c1];simp only;rw[c2];simp only;rw[c3];simp only;rw[c4])
    unfold zm
    rw[c1]
    simp only
    rw[c2]
    simp only
    rw[c3]
    simp only
    rw[c4,hw]
    simp only[hg4,e8,cond_false,Bool.not_true]
  ·obtain⟨l1,l2⟩:=y82 c h h8 hL
   rw[if_neg hL]
   have hg:c.Group≠[]:=by rw[l2];simp
   have eg:grpT c.Group=40::(Lib.join (c.Group.map Lib.itoa) [43]++[41]):=by unfold grpT;rw[if_neg hg]
   rw[eg]
   generalize hJ:Lib.join (c.Group.map Lib.itoa) [43]=J
   have eH:kt c.Kind++(40::(J++[41])++[43,76,70,108])=(kt c.Kind++40::(J++[41]))++[43,76,70,108]:=by simp
   rw[eH,l1]
   have c1:zh ((kt c.Kind++40::(J++[41]))++[43,76,70,108]) [43,76,70,108]=(kt c.Kind++40::(J++[41]),true):=by
    rw[yeu,ymc,y9c]
   have c2:zd (kt c.Kind++40::(J++[41])) [40]=(kt c.Kind,J++[41],true):=by rw[ylu,ygg _ _ 40 h40]
   have c3:zh (J++[41]) [41]=(J,true):=by rw[yeu,ymc,y9c]
   have c4:zb J [43]=c.Group.map Lib.itoa:=by
    show yh 43 J=_
    rw[← hJ];exact y0e _ hg g2
   have hw:=y5o c.Kind hk (ydu ((kt c.Kind++40::(J++[41]))++[43,76,70,108])) (fun s=>by unfold ydu;rw[c1];simp only;rw[c2])
   have hg4:∀ s,ye (y3u ((kt c.Kind++40::(J++[41]))++[43,76,70,108]) s) ((c.Group.map Lib.itoa).length-0) 0 []=.ok c.Group:=fun s=>ycbb c.Group g2 (fun _ _=>({ Kind:=0,Group:=[],Letter:=[],Colors:=[],Period:=0:Character },false)) _ (fun i t=>by unfold y3u;rw[c1];simp only;rw[c2];simp only;rw[c3];simp only;rw[c4])
   unfold zm
   rw[c1]
   simp only
   rw[c2]
   simp only
   rw[c3]
   simp only
   rw[c4,hw]
   simp only[hg4,e8,cond_false,cond_true,Bool.not_true]
end Go.Ab

namespace Go.Ab
open Go Go.Proofs
def zah (a0:Point):(List UInt8):=
 (bif (!(zke a0))then[]else((zl a0.X)++[44])++(zl a0.Y))
namespace N108
theorem DD:DOk Tryz.prog (Go.Ab.DD [(107,dP D_zl),(211,dP D_zke)]):=ya yxe.e <| ya yip.e <| yc _
theorem dn:type_of% (And.intro @D_zl.eq_1 <| @D_zke.eq_1):=by and_intros<;>intros<;>rfl
theorem gr {p:Prop} (h:p:=by(grind [ycc]);first|done|fail):p:=h
theorem o0 {p:Prop} (h:p:=by(first|(have h9:=yaab (p:=a0) (by assumption);have l1:=ycc a0.X;have l2:=ycc a0.Y;(repeat' with_reducible apply And.intro)<;>(first|omega|assumption|(simp only[List.length_append,List.length_cons,List.length_nil,List.length_singleton];omega)|(refine Nat.le_trans (ynf _ _) ?_;simp only[jl,List.length_cons,List.length_nil];omega))));first|done|fail):p:=h
set_option maxHeartbeats 1000000 in
set_option maxRecDepth 20000 in
theorem den (a0:Point)  : Den Tryz.prog 108 [.agg (ytd a0)] (.str (zah a0)):=by
 generalize hR:zah a0=r
 unfold zah at hR
 refine di Tryz.func108 Tryz.ntmps108 Tryz.results108 ?_
 intro c hL hc hk
 clear hL
 simp only[pars,Nat.zero_add]
 iterate 2 refine rS ?_
 refine AWP.cond rfl (fun hb => ?_) (fun hb => ?_)
 ·replace hR:=ct hR
  refine rS ?_
  refine AWP.ret ?_
  subst hR
  exact es
 ·replace hR:=cf hR
  refine rD 7 ?_
  refine AWP.ret ?_
  subst hR
  exact es
end N108
def D_zah : DF
 | [x0]=>some (.str (zah (rdG y2f x0)),false,[wG ytd y2f x0])
 | _=>none
theorem y67:OkD Tryz.prog 108 D_zah:=by unfold D_zah;exact dk N108.den
end Go.Ab

namespace Go.Ab
open Go Go.Proofs
def zji (a0:Point):(List UInt8):=
 ((zk a0.X)++[44])++(zk a0.Y)
end Go.Ab

namespace Go.Ab
open Go Go.Proofs
def zjc (a0:Mark):(List UInt8):=
 (bif (!(zdc a0))then[]else(bif (a0.Kind == 0)then(zic 0)else(bif (a0.Topmark == [])then(zpb [(zic a0.Kind),a0.Colors,a0.Shape,[45]] [32])else(zpb [(zic a0.Kind),a0.Colors,a0.Shape,a0.Topmark] [32]))))
namespace N16
theorem DD:DOk Tryz.prog (Go.Ab.DD [(17,dP D_zdc),(22,dP D_zic),(83,dP D_zpb)]):=ya yri.e <| ya yoi.e <| ya yah.e <| yc _
theorem dn:type_of% (And.intro @D_zdc.eq_1 <| And.intro @D_zic.eq_1 <| @D_zpb.eq_1):=by and_intros<;>intros<;>rfl
theorem o0 {p:Prop} (h:p:=by(first|(have h9:=yd1 (m:=a0) (by assumption);have l1:=y31 a0.Kind;(repeat' with_reducible apply And.intro)<;>(first|omega|assumption|(simp only[List.length_append,List.length_cons,List.length_nil,List.length_singleton];omega)|(refine Nat.le_trans (ynf _ _) ?_;simp only[jl,List.length_cons,List.length_nil];omega))));first|done|fail):p:=h
theorem lx {p:Prop} (h:p:=by(exact lxx);first|done|fail):p:=h
set_option maxHeartbeats 1000000 in
set_option maxRecDepth 20000 in
theorem den (a0:Mark) (hb0:bdMark a0):Den Tryz.prog 16 [.agg (y1c a0)] (.str (zjc a0)):=by
 generalize hR:zjc a0=r
 unfold zjc at hR
 refine di Tryz.func16 Tryz.ntmps16 Tryz.results16 ?_
 intro c hL hc hk
 obtain⟨hL0,_⟩:=hL
 have hw0:bwMark a0:=y0d a0 hL0
 clear hL0
 simp only[pars,Nat.zero_add]
 iterate 2 refine rS ?_
 refine AWP.cond rfl (fun hb => ?_) (fun hb => ?_)
 ·replace hR:=ct hR
  refine rS ?_
  refine AWP.ret ?_
  subst hR
  exact es
 ·replace hR:=cf hR
  refine rS ?_
  refine AWP.cond rfl (fun hb => ?_) (fun hb => ?_)
  ·replace hR:=ct hR
   refine rS ?_
   refine AWP.ret ?_
   subst hR
   exact es
  ·replace hR:=cf hR
   iterate 2 refine rS ?_
   refine AWP.cond rfl (fun hb => ?_) (fun hb => ?_)
   ·replace hR:=ct hR
    refine rS ?_
    refine rD 8 ?_
    refine AWP.ret ?_
    subst hR
    exact es
   ·replace hR:=cf hR
    refine rD 8 ?_
    refine AWP.ret ?_
    subst hR
    exact es
end N16
def D_zjc : DF
 | [x0]=>some (.str (zjc (rdG ybf x0)),false,[wG y1c ybf x0,bdMark (rdG ybf x0)])
 | _=>none
theorem yjl:OkD Tryz.prog 16 D_zjc:=by unfold D_zjc;exact dk N16.den
end Go.Ab

namespace Go.Ab
open Go Go.Proofs
def zee (a0:Mark):(List UInt8):=
 (bif (a0.Kind == 0)then[110,111,110,101]else(bif (a0.Topmark == [])then(((((((zwb ).getD ((a0.Kind).toNat) default)++[32])++a0.Colors)++[32])++a0.Shape)++[32])++[45]else(((((((zwb ).getD ((a0.Kind).toNat) default)++[32])++a0.Colors)++[32])++a0.Shape)++[32])++a0.Topmark))
namespace N281
theorem DD:DOk Tryz.prog (Go.Ab.DD [(333,dP D_zwb)]):=ya y6w.e <| yc _
theorem DZ:DOk Tryz.prog (Go.Ab.DD [(333,dP Dz_zwb)]):=ya yb2.e <| yc _
theorem dn:type_of% (And.intro @D_zwb.eq_1 <| @Dz_zwb.eq_1):=by and_intros<;>intros<;>rfl
theorem o0 {p:Prop} (h:p:=by(first|((repeat' with_reducible apply And.intro)<;>(first|omega|assumption|(simp only[List.length_append,List.length_cons,List.length_nil,List.length_singleton];omega)|(refine Nat.le_trans (ynf _ _) ?_;simp only[jl,List.length_cons,List.length_nil];omega))));first|done|fail):p:=h
set_option maxHeartbeats 1000000 in
set_option maxRecDepth 20000 in
theorem den (a0:Mark) (hb0:bdMark a0) (hp0:zgb a0=true):Den Tryz.prog 281 [.ep (y1c a0)] (.str (zee a0)):=by
 generalize hR:zee a0=r
 unfold zee at hR
 refine di Tryz.func281 Tryz.ntmps281 Tryz.results281 ?_
 intro c hL hc hk
 obtain⟨hL0,_⟩:=hL
 have hw0:bwMark a0:=y0d a0 hL0
 clear hL0
 simp only[pars,Nat.zero_add]
 have h9:=y1g (m:=a0) hp0
 have hn:=yh7 a0.Kind.toNat
 have hn2:zwb.length=10:=rfl
 iterate 2 refine rS ?_
 refine AWP.cond rfl (fun hb => ?_) (fun hb => ?_)
 ·replace hR:=ct hR
  refine rS ?_
  refine AWP.ret ?_
  subst hR
  exact es
 ·replace hR:=cf hR
  iterate 2 refine rS ?_
  refine AWP.cond rfl (fun hb => ?_) (fun hb => ?_)
  ·replace hR:=ct hR
   refine rS ?_
   refine rZ 22 ?_
   refine AWP.ret ?_
   subst hR
   exact es
  ·replace hR:=cf hR
   refine rZ 22 ?_
   refine AWP.ret ?_
   subst hR
   exact es
end N281
def D_zee : DF
 | [x0]=>some (.str (zee (rdP ybf x0)),false,[wP y1c ybf x0,bdMark (rdP ybf x0),zgb (rdP ybf x0)=true])
 | _=>none
theorem y93:OkD Tryz.prog 281 D_zee:=by unfold D_zee;exact dk N281.den
end Go.Ab

namespace Go.Ab
open Go Go.Proofs
def zii (a0:Mark):(List UInt8):=
 (bif (!(zgb a0))then[]else(zee a0))
end Go.Ab

namespace Go.Ab
open Go Go.Proofs
def yko (a0:(List Sector)) (i1:Nat) (s1:List (List UInt8)):Except ((List UInt8)) (List (List UInt8)):=
 .ok (s1++[(((zl ((a0.getD i1 default).From))++[45])++(zl ((a0.getD i1 default).To)))++((a0.getD i1 default).Color)])
def zxd (a0:(List Sector)):(List UInt8):=
 (bif (!(zjb a0))then[]else(bif ((a0.length:Int) == 0)then[45]else(match ye (yko a0) (a0.length-0) 0 ([]:List (List UInt8))with|.error e=>e|.ok s1=>(zpb s1 [44]))))
namespace N109
theorem DD:DOk Tryz.prog (Go.Ab.DD [(107,dP D_zl),(215,dP D_zjb),(83,dP D_zpb)]):=ya yxe.e <| ya y4p.e <| ya yah.e <| yc _
theorem dn:type_of% (And.intro @D_zl.eq_1 <| And.intro @D_zjb.eq_1 <| @D_zpb.eq_1):=by and_intros<;>intros<;>rfl
theorem gr {p:Prop} (h:p:=by(grind [ycc]);first|done|fail):p:=h
theorem o0 {p:Prop} (h:p:=by(first|((have h8:=hsr (by assumption);have h9:=h8.2 i1;have l1:=ycc (a0.getD i1 default).From;have l2:=ycc (a0.getD i1 default).To;(repeat' with_reducible apply And.intro)<;>(first|omega|assumption|(simp only[List.length_append,List.length_cons,List.length_nil,List.length_singleton];omega)|(refine Nat.le_trans (ynf _ _) ?_;simp only[jl,List.length_cons,List.length_nil];omega))))|(have h8:=hsr (by assumption);obtain⟨w1,w2⟩:=hW1;have h9:=yqi [44] s1 1000 w2;simp only[List.length_singleton]at h9;(repeat' with_reducible apply And.intro)<;>omega));first|done|fail):p:=h
set_option maxHeartbeats 1000000 in
set_option maxRecDepth 20000 in
theorem den (a0:(List Sector)) (hb0:a0.length<1099511627776) (hb1:∀ v∈a0,bdSector v):Den Tryz.prog 109 [encL 3 yk a0] (.str (zxd a0)):=by
 generalize hR:zxd a0=r
 unfold zxd at hR
 refine di Tryz.func109 Tryz.ntmps109 Tryz.results109 ?_
 intro c hL hc hk
 obtain⟨hL0,_⟩:=hL
 have hw0:a0.length<9223372036854775808:=Nat.lt_succ_of_le (yf hL0).1
 have hw1:∀ v∈a0,bwSector v:=fun v hv=>yt v ((yf hL0).2 v hv)
 clear hL0
 simp only[pars,Nat.zero_add]
 have hsr:=fun h=>yb6 (a:=a0) hb0 h
 iterate 2 refine rS ?_
 refine AWP.cond rfl (fun hb => ?_) (fun hb => ?_)
 ·replace hR:=ct hR
  refine rS ?_
  refine AWP.ret ?_
  subst hR
  exact es
 ·replace hR:=cf hR
  refine rS ?_
  refine AWP.cond rfl (fun hb => ?_) (fun hb => ?_)
  ·replace hR:=ct hR
   refine rS ?_
   refine AWP.ret ?_
   subst hR
   exact es
  ·replace hR:=cf hR
   iterate 2 refine rS ?_
   refine AWP.block ?_
   generalize hz1:ye (yko a0) (a0.length-0) 0 ([]:List (List UInt8))=z1 at hR
   refine AWP.range (yko a0) (fun i1 s1=>⟨[(3,.ref 0 1 0 s1.length),(13,encL 3 yk a0),(14,.int .i64 (a0.length:Int)),(15,.int .i64 (i1:Int))],[.arr 9 1 s1.length (fun j=>eS (s1.getD j default))]⟩) (fun i1 s1=>s1.length≤i1∧∀ v∈s1,v.length≤1000) (a0.length) 0 ([]:List (List UInt8)) [0] hz1 ot wt sm ?_
   clear hz1
   intro i1 s1 hi1 hW1 hz1
   refine rS ?_
   refine AWP.seq ?_
   refine AWP.cond rfl (fun hb => ?_) (fun hb => ?_)
   ·have hlt1:i1<a0.length:=ot
    rw[yj hlt1]at hz1;simp only[yko]at hz1
    refine rS ?_
    refine AWP.regP mixed G_ok DD hc 13 [0,1,2,3,4,5,6,7,8,9,10,11] (.alt 12 [] [0,1,2,5] .leaf .stop) (by kernel_rfl) (by kernel_rfl) (by kernel_rfl) (fun K hK => ?_);simp only[y4f,runN,runP,yub,nthO,ea,absV,absVL,cput,gv,sv,dn,reduceCtorEq,reduceIte,Nat.reduceBEq,Nat.reduceAdd,Nat.reduceEqDiff,Nat.reduceLT,Nat.reduceLeDiff,Nat.reduceMul,Nat.reduceSub,BEq.rfl,beq_self_eq_true,Int.reduceToNat]
    repeat' apply And.intro
    all_goals first|refine hK _ ?_|exact ot
    all_goals clear hK K
    refine rS ?_
    exact⟨_,[3],hlt1,by(have h8:=hsr (by assumption);have h9:=h8.2 i1;have l1:=ycc (a0.getD i1 default).From;have l2:=ycc (a0.getD i1 default).To;obtain⟨w1,w2⟩:=hW1;(repeat' with_reducible apply And.intro)<;>first|(simp only[List.length_append,List.length_cons,List.length_nil,List.length_singleton];omega)|(intro v hv;exact(List.mem_append.1 hv).elim (fun h=>w2 v h) (fun h=>by rw[List.mem_singleton]at h;subst h;simp only[List.length_append,List.length_cons,List.length_nil,List.length_singleton];omega))),hz1,sm⟩
   ·obtain rfl:i1=a0.length:=ot
    rw[yi (Nat.le_refl _)]at hz1;subst hz1;dsimp only at hR
    refine AWP.exit ?_;refine yb ?_
    refine rS ?_
    refine AWP.ret ?_
    subst hR
    exact es
end N109
def D_zxd : DF
 | [x0]=>some (.str (zxd (rdL yq x0)),false,[wL 3 yk yq x0,(rdL yq x0).length<1099511627776,∀ v∈(rdL yq x0),bdSector v])
 | _=>none
theorem ymw:OkD Tryz.prog 109 D_zxd:=by unfold D_zxd;exact dk N109.den
end Go.Ab

namespace Go.Ab
open Go Go.Proofs
def yi3 (a0:(List Sector)) (i1:Nat) (s1:List UInt8):Except ((List UInt8)) (List UInt8):=
 (bif decide (0<(i1:Int))then .ok ((s1++[44])++((((zk ((a0.getD i1 default).From))++[45])++(zk ((a0.getD i1 default).To)))++((a0.getD i1 default).Color)))else .ok (s1++((((zk ((a0.getD i1 default).From))++[45])++(zk ((a0.getD i1 default).To)))++((a0.getD i1 default).Color))))
def zlh (a0:(List Sector)):(List UInt8):=
 (bif ((a0.length:Int) == 0)then[45]else(match ye (yi3 a0) (a0.length-0) 0 []with|.error e=>e|.ok s1=>s1))
end Go.Ab

namespace Go.Ab
open Go Go.Proofs
theorem yjdb {p:Point} (h:zgd p=true):zah p=zji p∧(zji p).length≤13:=by
 have hr:=yq1 h
 unfold zah zji
 rw[show zke p=zgd p from rfl,h,y9f _ (by omega) (by omega),y9f _ (by omega) (by omega)]
 refine⟨rfl,?_⟩
 have h1:=ybj p.X 5 (by omega) (by show p.X<(1000000:Int);omega)
 have h2:=ybj p.Y 5 (by omega) (by show p.Y<(1000000:Int);omega)
 simp only[List.length_append,List.length_cons,List.length_nil]
 omega
theorem y29 (a b c d:List UInt8) (s:List UInt8):Lib.join [a,b,c,d] s=a++(s++(b++(s++(c++(s++d))))):=by
 simp[Lib.join_cons,Lib.joinTail]
theorem yw2 {k:Int} (h:0≤k∧k≤9):zic k=zwb.getD k.toNat default:=yqy _ _ (by omega) (by show k<10;omega)
theorem yc6 (m:Mark):zjc m=zii m:=by
 unfold zjc zii zee
 rw[yld,show zie m=zgb m from rfl]
 cases h:zgb m with
 | false=>rfl
 | true=>
  simp only[Bool.not_true,cond_false]
  by_cases hk:m.Kind=0
  ·rw[show(m.Kind == 0)=true by simp[hk],cond_true,cond_true];rfl
  ·rw[show(m.Kind == 0)=false by simp[hk],cond_false,cond_false]
   have hr:=y1g (m:=m) h
   rw[yw2 ⟨hr.1,hr.2.1⟩]
   have e:∀ a b c d:List UInt8,zpb [a,b,c,d] [32]=a++([32]++(b++([32]++(c++([32]++d))))):=fun a b c d=>y29 a b c d [32]
   rw[e,e]
   simp only[List.append_assoc]
theorem y88 (m:Mark):(zii m).length≤40:=by
 unfold zii zee
 cases h:zgb m with
 | false=>simp
 | true=>
  have hr:=y1g (m:=m) h
  simp only[Bool.not_true,cond_false]
  have hn:(zwb.getD m.Kind.toNat default).length≤7:=by
   rcases(show m.Kind=0∨m.Kind=1∨m.Kind=2∨m.Kind=3∨m.Kind=4∨m.Kind=5∨m.Kind=6∨m.Kind=7∨m.Kind=8∨m.Kind=9 by omega)with e|e|e|e|e|e|e|e|e|e<;>rw[e]<;>decide
  simp only[Bool.cond_eq_ite]
  repeat' split
  all_goals (try simp only[List.length_append,List.length_cons,List.length_nil])
  all_goals omega
def scT (s:Sector):List UInt8:=Lib.itoa s.From++(45::(Lib.itoa s.To++s.Color))
def scsT (a:List Sector):List UInt8:=if a=[]then[45]else Lib.join (a.map scT) [44]
theorem yyv {a:List Sector} (h:zx a=true):zxd a=scsT a:=by
 have hr:=yyh h
 unfold zxd scsT
 rw[yyb a (by omega),h]
 simp only[Bool.not_true,cond_false]
 by_cases ha:a=[]
 ·rw[ha];rfl
 ·have hp:0<a.length:=List.length_pos_iff.2 ha
  rw[if_neg ha,show((a.length:Int) == 0)=false by rw[beq_eq_false_iff_ne];omega,cond_false]
  have hl:=ynd (yko a) (fun j=>[scT (a.getD j default)]) a.length 0 [] (fun j s _ _=>by
   unfold yko scT
   simp[y66])
  rw[yrg a default scT,List.nil_append]at hl
  rw[Nat.sub_zero,hl]
  rfl
theorem yzj {a:List Sector} (h:zx a=true):zlh a=scsT a:=by
 have hr:=yyh h
 unfold zlh scsT
 by_cases ha:a=[]
 ·rw[ha];rfl
 ·have hp:0<a.length:=List.length_pos_iff.2 ha
  rw[if_neg ha,show((a.length:Int) == 0)=false by rw[beq_eq_false_iff_ne];omega,cond_false]
  have hl:=ynd (yi3 a) (fun j=>(if j=0 then[]else[44])++scT (a.getD j default)) a.length 0 [] (fun j s _ _=>by
   have h9:=hr.2 j
   unfold yi3 scT
   rw[y9f _ (by omega) (by omega),y9f _ (by omega) (by omega)]
   by_cases hj:j=0
   ·subst hj;simp
   ·rw[decide_eq_true (show(0:Int)<(j:Int)by omega),if_neg hj];simp)
  rw[Nat.sub_zero,hl,List.nil_append]
  simp only
  cases a with
  | nil=>exact absurd rfl ha
  | cons x r=>
   rw[List.length_cons,List.range'_succ,List.flatMap_cons,List.map_cons,Lib.join_cons, ← ywz 44 default scT x r]
   have:(List.range' (0+1) r.length).flatMap (fun j=>(if j=0 then[]else[44])++scT ((x::r).getD j default))=(List.range' 1 r.length).flatMap (fun j=>(44:UInt8)::scT ((x::r).getD j default)):=by
    rw[List.flatMap_def,List.flatMap_def]
    congr 1
    apply List.map_congr_left
    intro j hj
    rw[List.mem_range'_1]at hj
    rw[if_neg (by omega)];rfl
   rw[this]
   simp
theorem yw8 {a:List Sector} (h:zx a=true):(scsT a).length≤120:=by
 have hr:=yyh h
 unfold scsT
 split
 ·simp
 ·have h1:=yqi [44] (a.map scT) 8 (fun x hx=>by
   obtain⟨s,hs,rfl⟩:=List.mem_map.1 hx
   obtain⟨i,hi,e⟩:=List.getElem_of_mem hs
   have h9:=hr.2 i
   have hg:a.getD i default=s:=by rw[List.getD_eq_getElem?_getD,List.getElem?_eq_getElem hi,e];rfl
   rw[hg]at h9
   have h1:=ybj s.From 2 (by omega) (by show s.From<(1000:Int);omega)
   have h2:=ybj s.To 2 (by omega) (by show s.To<(1000:Int);omega)
   unfold scT
   simp only[List.length_append,List.length_cons]
   omega)
  rw[List.length_map]at h1
  simp only[List.length_singleton]at h1
  have:a.length * (8+1)≤12 * 9:=Nat.mul_le_mul hr.1 (by omega)
  omega
theorem ycf {ρ σ : Type} {b : Nat → σ → Except ρ σ} {e0 : ρ} (h : ∀ j s e, b j s = .error e → e = e0) : ∀ (n i : Nat) (s : σ) (e : ρ), ye b n i s = .error e → e = e0
 | 0,i,s,e,he=>by simp[ye]at he
 | n+1,i,s,e,he=>by
  simp only[ye]at he
  cases hb:b i s with
  | error e'=>
   rw[hb]at he
   have he:e'=e:=by simpa using he
   rw[← he];exact h _ _ _ hb
  | ok s'=>rw[hb]at he;exact ycf h n (i+1) s' e he
theorem yeo {c:Character} (h:zab c=true):c.Colors.length≤3:=by
 unfold zab at h
 cases h1:((!(zqc c.Colors)) || (!(zqb c)))with
 | true=>rw[h1]at h;cases h
 | false=>
  rw[Bool.or_eq_false_iff]at h1
  have h2:zqc c.Colors=true:=by simpa using h1.1
  unfold zqc at h2
  have he:=ycf (b:=yzi c.Colors) (e0:=false) (fun j s e h=>by
   unfold yzi at h
   rw[Bool.cond_eq_ite]at h
   split at h
   ·simpa using h.symm
   ·cases h) (c.Colors.length-0) 0 (-1)
  generalize ye (yzi c.Colors) (c.Colors.length-0) 0 (-1)=z at h2 he
  cases z with
  | error e=>have:=he e rfl;subst this;cases h2
  | ok s=>simp[ze]at h2;omega
theorem yvbb {c:Character} (h:zab c=true):(chrT c).length≤40:=by
 have hf:=yic c h
 have hv:=yjd c h
 have hk:=yie c hf
 have hp:=ybe c h
 have hc:=yeo h
 have hK:(kt c.Kind).length≤3:=by
  rcases(show c.Kind=1∨c.Kind=2∨c.Kind=3∨c.Kind=4∨c.Kind=5∨c.Kind=6∨c.Kind=7∨c.Kind=8 by omega)with e|e|e|e|e|e|e|e<;>rw[e]<;>decide
 have hg:(grpT c.Group).length≤10:=by
  unfold grpT
  split
  ·simp
  ·have h1:=yqi [43] (c.Group.map Lib.itoa) 1 (fun x hx=>by
    obtain⟨s,hs,rfl⟩:=List.mem_map.1 hx
    have:=hv.2.1 s hs
    exact ybj s 0 (by omega) (by show s<(10:Int);omega))
   rw[List.length_map,List.length_singleton]at h1
   simp only[List.length_append,List.length_cons,List.length_nil]
   omega
 have hs:(perT c.Period).length≤8:=by
  unfold perT secT
  split
  ·simp
  ·have h1:=ybj (c.Period / 10) 1 (by omega) (by show c.Period / 10<(100:Int);omega)
   have h2:=ybj (c.Period % 10) 0 (by omega) (by show c.Period % 10<(10:Int);omega)
   split<;>simp only[List.length_append,List.length_cons,List.length_nil]<;>omega
 have hh:(yve c).length≤17:=by
  unfold yve
  split
  ·rename_i h8
   have h9:=ywo c hf h8
   have:(kt 8).length=2:=rfl
   simp only[List.length_append,List.length_cons,List.length_nil]
   omega
  ·split<;>simp only[List.length_append,List.length_cons,List.length_nil]<;>omega
 unfold chrT
 simp only[List.length_append,List.length_cons]
 omega
theorem yuab {c:Character} (h:znc c=true) (hl:c.Colors.length<9223372036854775808):zad c=zub c∧(zub c).length≤40:=by
 rw[← ywg c hl]at h
 rw[ypl c h,y4m c h]
 exact⟨rfl,yvbb h⟩
theorem yrab {a:Aid} (h:zcc a=true) (hl:a.Light.Colors.length<9223372036854775808) :
  (zl a.Number=zk a.Number∧(zk a.Number).length≤4)∧(zah a.At=zji a.At∧(zji a.At).length≤13)∧(zl a.Height=zk a.Height∧(zk a.Height).length≤4) ∧
  (zjc a.Mark=zii a.Mark∧(zii a.Mark).length≤40)∧(zei a=true→zad a.Light=zub a.Light∧(zub a.Light).length≤40) ∧
  (zxd a.Sectors=zlh a.Sectors∧(zlh a.Sectors).length≤120)∧(zl a.Intensity=zk a.Intensity∧(zk a.Intensity).length≤9)∧a.Name.length≤10:=by
 obtain⟨n1,n2,nm,at1,h1,h2,mk,lt,sx,i1,i2⟩:=yfg h
 have dq:∀ (n:Int) (k:Nat),0≤n→n≤100000000→n<((10 ^ (k+1):Nat):Int)→zl n=zk n∧(zk n).length≤k+1:=fun n k a b c=>by
  rw[y9f n (by omega) (by omega)]
  exact⟨rfl,ybj n k a c⟩
 refine⟨dq _ 3 (by omega) (by omega) (by show _<(10000:Int);omega),yjdb at1,dq _ 3 (by omega) (by omega) (by show _<(10000:Int);omega),⟨yc6 _,y88 _⟩,fun hq=>yuab (lt hq) hl,⟨by rw[yyv sx,yzj sx],by rw[yzj sx];exact yw8 sx⟩,dq _ 8 (by omega) (by omega) (by show _<(1000000000:Int);omega),yy4 nm⟩
end Go.Ab
