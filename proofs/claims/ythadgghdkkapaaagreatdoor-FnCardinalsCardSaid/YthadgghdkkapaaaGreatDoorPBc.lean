/- A part of a proof: walks of functions and lemmas of our own. No conditions. -/
import Derived.Test.YthadgghdkkapaaaGreatDoorPAx
import Derived.Test.YthadgghdkkapaaaGreatDoorPBb
import Derived.Test.YthadgghdkkapaaaGreatDoorPAr
import Derived.Test.YthadgghdkkapaaaGreatDoorPAp
import Derived.Test.YthadgghdkkapaaaGreatDoorPAw
import Derived.Test.YthadgghdkkapaaaGreatDoorPAt
import Derived.Test.YthadgghdkkapaaaGreatDoorPAs
set_option linter.unusedSectionVars false
set_option linter.unusedVariables false
set_option linter.unusedSimpArgs false
set_option maxHeartbeats 1000000
namespace Go.Ab
open Go Go.Proofs
def ykb (p:Point) (i:Nat):Aid:={ Number:=(i:Int)+1,Name:=[99,97,114,100],At:=p,Height:=0,Mark:=(zcb (3+(i:Int))).1,Light:={ Kind:=0,Group:=[],Letter:=[],Colors:=[],Period:=0:Character },Sectors:=[],Intensity:=0:Aid }
theorem y5c {p:Point} (hp:ptIn p) (i:Nat) (hi:i<4):zib (ykb p i)=true:=by
 have h:=yel hp;have hi:i=0\/i=1\/i=2\/i=3:=by omega
 unfold zib;rw[show zeb (ykb p i).At=true from h];rcases hi with rfl|rfl|rfl|rfl<;>first|rfl|kernel_rfl
theorem yoc (p:Point) (i:Nat) (hi:i<4):(ykb p i).Mark.Kind=3+(i:Int):=by
 have hi:i=0\/i=1\/i=2\/i=3:=by omega
 rcases hi with rfl|rfl|rfl|rfl<;>first|rfl|kernel_rfl
theorem y1w (i:Nat) (hi:i<4):(zcb (3+(i:Int))).2=0:=by
 have hi:i=0\/i=1\/i=2\/i=3:=by omega
 rcases hi with rfl|rfl|rfl|rfl<;>decide
theorem yhi (p:Point) (i:Nat):aidL (ykb p i):=⟨by show List.length []<_;decide,by show List.length []<_;decide⟩
theorem yyh (d:Danger):zub d=zmb d:=by
 unfold zub zmb;rw[y8n];rfl
theorem yhd {d:Danger} (h:zmb d=true):ptIn d.At/\1<=d.Radius/\d.Radius<=20000:=by
 unfold zmb at h;rw[Bool.and_eq_true,Bool.and_eq_true]at h;have h2:=h.2;unfold zf at h2;simp at h2
 exact⟨y2k h.1.2,h2.1,h2.2⟩
theorem y3n {d:Danger} {w:Int} (h:((zxb d w).2 == 0)=true):zmb d=true/\0<=w/\w<=20000/\(∀ i,i<4->ptIn (yg d.At (d.Radius+w) i))/\(zxb d w).1=[yg d.At (d.Radius+w) 0,yg d.At (d.Radius+w) 1,yg d.At (d.Radius+w) 2,yg d.At (d.Radius+w) 3]:=by
 rw[beq_iff_eq]at h;unfold zxb at h ⊢;rw[yyh]at h ⊢
 cases h1:zmb d with
 | false=>rw[h1]at h;simp at h
 | true=>
  rw[h1]at h;obtain⟨ha,r1,r2⟩:=yhd h1
  cases h2:zjc w with
  | false=>rw[h2]at h;simp at h
  | true=>
   rw[h2]at h;have hw:0<=w/\w<=20000:=by unfold zjc zi at h2;simp at h2;omega
   unfold ptIn at ha;have e0:IntKind.wrap .i64 (d.Radius+w)=d.Radius+w:=by rw[IntKind.wrap_i64];omega
   rw[e0,show IntKind.wrap .i64 (d.At.Y+(d.Radius+w))=d.At.Y+(d.Radius+w)by rw[IntKind.wrap_i64];omega,show IntKind.wrap .i64 (d.At.X+(d.Radius+w))=d.At.X+(d.Radius+w)by rw[IntKind.wrap_i64];omega,show IntKind.wrap .i64 (d.At.Y-(d.Radius+w))=d.At.Y-(d.Radius+w)by rw[IntKind.wrap_i64];omega,show IntKind.wrap .i64 (d.At.X-(d.Radius+w))=d.At.X-(d.Radius+w)by rw[IntKind.wrap_i64];omega]at h;rw[e0,show IntKind.wrap .i64 (d.At.Y+(d.Radius+w))=d.At.Y+(d.Radius+w)by rw[IntKind.wrap_i64];omega,show IntKind.wrap .i64 (d.At.X+(d.Radius+w))=d.At.X+(d.Radius+w)by rw[IntKind.wrap_i64];omega,show IntKind.wrap .i64 (d.At.Y-(d.Radius+w))=d.At.Y-(d.Radius+w)by rw[IntKind.wrap_i64];omega,show IntKind.wrap .i64 (d.At.X-(d.Radius+w))=d.At.X-(d.Radius+w)by rw[IntKind.wrap_i64];omega];simp only[Bool.not_true,cond_false]at h ⊢;have hl:[yg d.At (d.Radius+w) 0,yg d.At (d.Radius+w) 1,yg d.At (d.Radius+w) 2,yg d.At (d.Radius+w) 3]=[({ X:=d.At.X,Y:=d.At.Y+(d.Radius+w)}:Point),{ X:=d.At.X+(d.Radius+w),Y:=d.At.Y },{ X:=d.At.X,Y:=d.At.Y-(d.Radius+w)},{ X:=d.At.X-(d.Radius+w),Y:=d.At.Y }]:=rfl;rw[<- hl]at h ⊢
   cases h3:zkb [yg d.At (d.Radius+w) 0,yg d.At (d.Radius+w) 1,yg d.At (d.Radius+w) 2,yg d.At (d.Radius+w) 3]with
   | false=>rw[h3]at h;simp at h
   | true=>
    refine⟨by first|rfl|trivial,hw.1,hw.2,fun i hi => ?_,by first|rfl|trivial⟩;unfold zkb at h3;rcases yhc (b:=yxf [yg d.At (d.Radius+w) 0,yg d.At (d.Radius+w) 1,yg d.At (d.Radius+w) 2,yg d.At (d.Radius+w) 3]) (fun j => !(zwb ([yg d.At (d.Radius+w) 0,yg d.At (d.Radius+w) 1,yg d.At (d.Radius+w) 2,yg d.At (d.Radius+w) 3].getD j default))) (fun _ u=>u) false (k:=4) (i:=0) (s:=()) (fun j u _ _=>by cases u;rfl)with⟨_,h5⟩|⟨h5,_⟩
    ·simp only[List.length_cons,List.length_nil,Nat.zero_add,Nat.reduceAdd,Nat.sub_zero]at h3
     rw[h5]at h3;cases h3
    ·have h6:=h5 i (by omega) (by omega)
     rw[Bool.not_eq_false']at h6;have hi:i=0\/i=1\/i=2\/i=3:=by omega
     rcases hi with rfl|rfl|rfl|rfl<;>exact y2k h6
theorem yqj {d:Danger} {w:Int} (h1:zmb d=true) (h2:0<=w) (h3:w<=20000) (i:Nat) (hi:i<4) (hp:ptIn (yg d.At (d.Radius+w) i)):zqd d (ykb (yg d.At (d.Radius+w) i) i) w=true:=by
 obtain⟨ha,r1,r2⟩:=yhd h1;unfold zqd;rw[yoc _ i hi];show((zi (3+(i:Int)) 3 6 && zi (zle d.At (yg d.At (d.Radius+w) i)) d.Radius (IntKind.wrap .i64 (d.Radius+w))) && ((3+(i:Int)) == zkd d (yg d.At (d.Radius+w) i)))=true;rw[yor (by omega) (by omega) ha i hp,yzj (by omega) (by omega) ha i hi hp,show IntKind.wrap .i64 (d.Radius+w)=d.Radius+w by rw[IntKind.wrap_i64];omega];unfold zi;simp only[Bool.and_eq_true,decide_eq_true_eq,beq_self_eq_true,and_true];omega
theorem yit {d:Danger} {w:Int} (h1:zmb d=true) (h2:0<=w) (h3:w<=20000) (i:Nat) (hi:i<4) (hp:ptIn (yg d.At (d.Radius+w) i)) :
  (((((zwd d (yg d.At (d.Radius+w) i)).2 != 0) || ((zwd d (yg d.At (d.Radius+w) i)).1 != IntKind.wrap .i64 (3+(i:Int)))) || ((zcb (IntKind.wrap .i64 (3+(i:Int)))).2 != 0)) || (!(zqe d { Number:=IntKind.wrap .i64 ((i:Int)+1),Name:=[99,97,114,100],At:=yg d.At (d.Radius+w) i,Height:=0,Mark:=(zcb (IntKind.wrap .i64 (3+(i:Int)))).1,Light:={ Kind:=0,Group:=[],Letter:=[],Colors:=[],Period:=0:Character },Sectors:=[],Intensity:=0:Aid } w)))=false:=by
 obtain⟨ha,r1,r2⟩:=yhd h1;rw[show IntKind.wrap .i64 (3+(i:Int))=3+(i:Int)by rw[IntKind.wrap_i64];omega,show IntKind.wrap .i64 ((i:Int)+1)=(i:Int)+1 by rw[IntKind.wrap_i64];omega,y1w i hi]
 have e1:zwd d (yg d.At (d.Radius+w) i)=(3+(i:Int),0):=by
  unfold zwd;have hn:=yff d.At (r:=d.Radius+w) (by omega) i;rw[yyh,h1,show zwb (yg d.At (d.Radius+w) i)=true from yel hp,Bool.beq_comm (a:=(yg d.At (d.Radius+w) i).X),Bool.beq_comm (a:=(yg d.At (d.Radius+w) i).Y),hn,yzj (by omega) (by omega) ha i hi hp];rfl
 rw[e1]
 have e2:zqe d (ykb (yg d.At (d.Radius+w) i) i) w=true:=by
  unfold zqe;rw[yyh,h1,ydi _ (yhi _ _).1 (yhi _ _).2,y5c hp i hi,yqj h1 h2 h3 i hi hp];unfold zjc zi;rw[decide_eq_true h2,decide_eq_true h3];rfl
 have e3:zqe d { Number:=(i:Int)+1,Name:=[99,97,114,100],At:=yg d.At (d.Radius+w) i,Height:=0,Mark:=(zcb (3+(i:Int))).1,Light:={ Kind:=0,Group:=[],Letter:=[],Colors:=[],Period:=0:Character },Sectors:=[],Intensity:=0:Aid } w=true:=e2;rw[e3];simp
theorem yxn {d:Danger} {w:Int} (h1:zmb d=true) (h2:0<=w) (h3:w<=20000) (hp:∀ i,i<4->ptIn (yg d.At (d.Radius+w) i)) :
  zod d [ykb (yg d.At (d.Radius+w) 0) 0,ykb (yg d.At (d.Radius+w) 1) 1,ykb (yg d.At (d.Radius+w) 2) 2,ykb (yg d.At (d.Radius+w) 3) 3] w=true /\
  zod d [ykb (yg d.At (d.Radius+w) 1) 1,ykb (yg d.At (d.Radius+w) 2) 2,ykb (yg d.At (d.Radius+w) 3) 3] w=false:=by
 obtain⟨ha,r1,r2⟩:=yhd h1
 have hm:∀ i,i<4->zxf d (ykb (yg d.At (d.Radius+w) i) i) w=true:=fun i hi=>by
  rw[<- ynq ha (hp i hi) r1];exact yqj h1 h2 h3 i hi (hp i hi)
 have m0:=hm 0 (by omega);have m1:=hm 1 (by omega);have m2:=hm 2 (by omega);have m3:=hm 3 (by omega);have k0:=yoc (yg d.At (d.Radius+w) 0) 0 (by omega);have k1:=yoc (yg d.At (d.Radius+w) 1) 1 (by omega);have k2:=yoc (yg d.At (d.Radius+w) 2) 2 (by omega);have k3:=yoc (yg d.At (d.Radius+w) 3) 3 (by omega);have o0:=y5c (hp 0 (by omega)) 0 (by omega);have o1:=y5c (hp 1 (by omega)) 1 (by omega);have o2:=y5c (hp 2 (by omega)) 2 (by omega);have o3:=y5c (hp 3 (by omega)) 3 (by omega);have n:∀ p i,(ykb p i).Number=(i:Int)+1:=fun _ _=>rfl
 have L:∀ p i,aidL (ykb p i):=yhi;generalize hA0:ykb (yg d.At (d.Radius+w) 0) 0=A0 at *;generalize hA1:ykb (yg d.At (d.Radius+w) 1) 1=A1 at *;generalize hA2:ykb (yg d.At (d.Radius+w) 2) 2=A2 at *;generalize hA3:ykb (yg d.At (d.Radius+w) 3) 3=A3 at *;have n0:A0.Number=1:=by rw[<- hA0];rfl
 have n1:A1.Number=2:=by rw[<- hA1];rfl
 have n2:A2.Number=3:=by rw[<- hA2];rfl
 have n3:A3.Number=4:=by rw[<- hA3];rfl
 have l0:aidL A0:=by rw[<- hA0];exact L _ _
 have l1:aidL A1:=by rw[<- hA1];exact L _ _
 have l2:aidL A2:=by rw[<- hA2];exact L _ _
 have l3:aidL A3:=by rw[<- hA3];exact L _ _
 have pw3:[A1,A2,A3].Pairwise ltA:=by
  refine List.Pairwise.cons ?_ (List.Pairwise.cons ?_ (List.Pairwise.cons ?_ List.Pairwise.nil))<;>intro v hv<;>simp only[List.mem_cons,List.not_mem_nil,or_false]at hv
  ·rcases hv with rfl|rfl<;>(unfold ltA;omega)
  ·rcases hv with rfl;unfold ltA;omega
 have pw4:[A0,A1,A2,A3].Pairwise ltA:=by
  refine List.Pairwise.cons ?_ pw3;intro v hv;simp only[List.mem_cons,List.not_mem_nil,or_false]at hv;rcases hv with rfl|rfl|rfl<;>(unfold ltA;omega)
 have on3:∀ v∈[A1,A2,A3],zib v=true:=fun v hv=>by
  simp only[List.mem_cons,List.not_mem_nil,or_false]at hv;rcases hv with rfl|rfl|rfl<;>assumption
 have on4:∀ v∈[A0,A1,A2,A3],zib v=true:=fun v hv=>by
  rcases List.mem_cons.1 hv with rfl|hv
  ·assumption
  ·exact on3 v hv
 have ok4:zjb [A0,A1,A2,A3]=true:=(y7n _).2 ⟨on4,pw4,by simp⟩;have ok3:zjb [A1,A2,A3]=true:=(y7n _).2 ⟨on3,pw3,by simp⟩;have hw:zf w 0 20000=true:=by unfold zf;rw[decide_eq_true h2,decide_eq_true h3];rfl
 unfold zod
 rw[(ywx d [A0,A1,A2,A3] w (fun v hv=>by
  simp only[List.mem_cons,List.not_mem_nil,or_false]at hv
  rcases hv with rfl|rfl|rfl|rfl<;>assumption)).1,(ywx d [A1,A2,A3] w (fun v hv=>by
  simp only[List.mem_cons,List.not_mem_nil,or_false]at hv
  rcases hv with rfl|rfl|rfl<;>assumption)).1]
 unfold zbg;rw[h1,ok4,ok3,hw];simp only[Bool.not_true,Bool.or_false,cond_false];rw[yvd,yvd];unfold yfc yzh;simp[List.filter,m0,m1,m2,m3,k0,k1,k2,k3]
theorem yrr {l:List Int} {x:Int} (h:x∈l):zjd l x=true:=by
 unfold zjd;obtain⟨i,hi,rfl⟩:=List.getElem_of_mem h;rcases yhc (b:=yjm l l[i]) (fun j=>l.getD j default == l[i]) (fun _ u=>u) true (k:=l.length-0) (i:=0) (s:=()) (fun j u _ _=>by cases u;rfl)with⟨_,h5⟩|⟨h5,_⟩
 ·rw[h5]
 ·have:=h5 i (by omega) (by omega)
  rw[List.getD_eq_getElem?_getD,List.getElem?_eq_getElem hi]at this;simp at this
theorem yer {d:Danger} {l:List Aid} {w:Int} (hl:∀ v∈l,aidL v) (h:((zk d l w).2 != 0 || decide (20000<=w))=false) :
  (zk d l (IntKind.wrap .i64 (w+1))).2=0/\∀ x∈(zk d l w).1,x∈(zk d l (IntKind.wrap .i64 (w+1))).1:=by
 rw[Bool.or_eq_false_iff,decide_eq_false_iff_not]at h;obtain⟨h1,h2⟩:=h;rw[(ywx d l w hl).1]at h1 ⊢
 have hq:zmb d=true/\zjb l=true/\zf w 0 20000=true:=by
  unfold zbg at h1;cases q1:zmb d<;>cases q2:zjb l<;>cases q3:zf w 0 20000<;>rw[q1,q2,q3]at h1<;>first|exact⟨rfl,rfl,rfl⟩|(simp at h1)
 obtain⟨q1,q2,q3⟩:=hq;have hw:0<=w/\w<=20000:=by unfold zf at q3;simp at q3;omega
 have e:IntKind.wrap .i64 (w+1)=w+1:=by rw[IntKind.wrap_i64];omega
 rw[e,(ywx d l (w+1) hl).1];have q4:zf (w+1) 0 20000=true:=by unfold zf;simp;omega
 unfold zbg;rw[q1,q2,q3,q4];simp only[Bool.not_true,Bool.or_false,cond_false];refine⟨trivial,fun x hx => ?_⟩;rw[yvd]at hx ⊢;unfold yfc at hx ⊢;rw[List.mem_filter]at hx ⊢;refine⟨hx.1,?_⟩;have hx2:=hx.2;unfold yzh at hx2 ⊢;rw[List.any_eq_true]at hx2 ⊢;obtain⟨a,ha,h5⟩:=hx2;refine⟨a,ha,?_⟩;rw[Bool.and_eq_true]at h5 ⊢;refine⟨h5.1,?_⟩;obtain⟨_,r1,r2⟩:=yhd q1;have h6:=h5.2;unfold zxf at h6 ⊢
 cases hc:(!(zf a.Mark.Kind 3 6)) || (a.At.X == d.At.X && a.At.Y == d.At.Y)with
 | true=>rw[hc]at h6;cases h6
 | false=>
  rw[hc,cond_false,Bool.and_eq_true]at h6;rw[cond_false,Bool.and_eq_true];refine⟨?_,h6.2⟩;have h7:=h6.1;rw[show IntKind.wrap .i64 (d.Radius+w)=d.Radius+w by rw[IntKind.wrap_i64];omega]at h7;rw[show IntKind.wrap .i64 (d.Radius+(w+1))=d.Radius+(w+1)by rw[IntKind.wrap_i64];omega];unfold zf at h7 ⊢;rw[Bool.and_eq_true,decide_eq_true_eq,decide_eq_true_eq]at h7 ⊢;omega
theorem yf0 {d : Danger} {l : List Aid} {w : Int} (hl : ∀ v ∈ l, aidL v) (b : Nat -> Unit -> Except Bool Unit)
  (hb:∀ j u,b j u=bif (!(zjd (zk d l (IntKind.wrap .i64 (w+1))).1 ((zk d l w).1.getD j default)))then .error false else .ok ()) :
  (bif ((zk d l w).2 != 0 || decide (20000<=w))then(((zk d l w).2 == 0) || (((zk d l w).1.length:Int) == 0))else(bif (((zk d l (IntKind.wrap .i64 (w+1))).2 != 0) || (!((((zk d l w).1.length:Int) == 4) == (zod d l w))))then false else(match yh b ((zk d l w).1.length-0) 0 ()with|.error e=>e|.ok s2=>true)))=true:=by
 cases hc:((zk d l w).2 != 0 || decide (20000<=w))with
 | true=>
  rw[cond_true]
  have hz:(zk d l w).2=0\/(zk d l w).1=[]:=by
   unfold zk
   cases(!(zub d)) || (!(zlc l))with
   | true=>right;rfl
   | false=>
    rw[cond_false]
    cases zjc w with
    | false=>right;rfl
    | true=>left;rw[y8f];rfl
  rcases hz with h|h
  ·rw[h];rfl
  ·rw[h,Bool.or_comm];rfl
 | false=>
  obtain⟨h1,h2⟩:=yer hl hc
  have e3:((((zk d l w).1.length:Int) == 4) == (zod d l w))=true:=by
   unfold zod;exact beq_self_eq_true _
  rw[cond_false,h1,e3];show(match yh b ((zk d l w).1.length-0) 0 ()with|.error e=>e|.ok s2=>true)=true
  obtain⟨t,e1,_⟩:=ygc (b:=b) (fun _ _=>True) (k:=(zk d l w).1.length-0) (i:=0) (s:=()) trivial (fun j u _ hj _=>by
   rw[hb];have hj:j<(zk d l w).1.length:=by omega
   have hm:(zk d l w).1.getD j default∈(zk d l w).1:=by
    rw[List.getD_eq_getElem?_getD,List.getElem?_eq_getElem hj];exact List.getElem_mem hj
   rw[yrr (h2 _ hm)]
   exact⟨(),rfl,trivial⟩)
  rw[e1]
theorem yoi (a0 a1:List Int) (hp0:∀ v∈a0,0<=v/\v<=255) (hp1:∀ v∈a1,0<=v/\v<=255):zcc a0 a1=true:=by
 have hA:∀ v∈(ze a1).2.1,aidL v:=fun v hv=>by
  have h:=(yuy a1 hp1).2.2 v hv;exact⟨Nat.lt_of_lt_of_le h.2.2.1.2.2 (by decide),Nat.lt_of_lt_of_le h.2.2.2.1 (by decide)⟩
 unfold zcc
 cases(zze a0 || zze a1)with
 | true=>rfl
 | false=>
 rw[cond_false]
 cases hc:((zxb (zq a0).1 (zq a0).2).2 == 0)with
 | false=>
  rw[cond_false];exact yf0 hA (ycn a0 a1) (fun j u=>rfl)
 | true=>
  rw[cond_true];obtain⟨h1,h2,h3,h4,h5⟩:=y3n hc
  have st:∀ (i:Nat) (s:List Aid),i<4->yvg a0 a1 i s=.ok (s++[ykb (yg (zq a0).1.At ((zq a0).1.Radius+(zq a0).2) i) i]):=fun i s hi=>by
   unfold yvg
   have hg:(zxb (zq a0).1 (zq a0).2).1.getD i default=yg (zq a0).1.At ((zq a0).1.Radius+(zq a0).2) i:=by
    rw[h5];have hi:i=0\/i=1\/i=2\/i=3:=by omega
    rcases hi with rfl|rfl|rfl|rfl<;>rfl
   rw[hg,yit h1 h2 h3 i hi (h4 i hi),cond_false,show IntKind.wrap .i64 (3+(i:Int))=3+(i:Int)by rw[IntKind.wrap_i64];omega,show IntKind.wrap .i64 ((i:Int)+1)=(i:Int)+1 by rw[IntKind.wrap_i64];omega];rfl
  rw[show(((zxb (zq a0).1 (zq a0).2).1.length:Int) != 4)=false by rw[h5];rfl,cond_false];rw[show yh (yvg a0 a1) (4-0) 0 []=yh (yvg a0 a1) (3+1) 0 []from rfl,yyc 3 (st 0 _ (by omega)),yyc 2 (st 1 _ (by omega)),yyc 1 (st 2 _ (by omega)),yyc 0 (st 3 _ (by omega))];simp only[yh,List.nil_append,List.cons_append];obtain⟨m1,m2⟩:=yxn h1 h2 h3 h4;have hsub:∀ A B C D:Aid,subL [A,B,C,D] 1 ([A,B,C,D].length-1)=[B,C,D]:=fun _ _ _ _=>rfl
  rw[m1,hsub,m2];exact yf0 hA (y9m a0 a1 _) (fun j u=>rfl)
end Go.Ab
