/- A part of a proof: walks of functions and lemmas of our own. No conditions. -/
import Derived.Test.YtjngmicjnheliaaGreatDoorQAn
import Derived.Test.YtjngmicjnheliaaGreatDoorQAv
import Derived.Test.YtjngmicjnheliaaGreatDoorQAq
import Derived.Test.YtjngmicjnheliaaGreatDoorQAp
import Derived.Test.YtjngmicjnheliaaGreatDoorQAr
import Derived.Test.YtjngmicjnheliaaGreatDoorQAs
import Derived.Test.YtjngmicjnheliaaGreatDoorQAl
import Derived.Test.YtjngmicjnheliaaGreatDoorQAi
import Derived.Test.YtjngmicjnheliaaGreatDoorQAo
import Derived.Test.YtjngmicjnheliaaGreatDoorQAu
set_option linter.unusedSectionVars false
set_option linter.unusedVariables false
set_option linter.unusedSimpArgs false
set_option maxHeartbeats 1000000
namespace Go.Ab
open Go Go.Proofs
def secQ (a:List Sector) (i:Nat):Bool:=(!(zrc (a.getD i default))) || (decide (0<(i:Int)) && decide (((a.getD i default).From)<=((a.getD ((IntKind.wrap .i64 ((i:Int)-1)).toNat) default).From)))
theorem yap (a:List Sector) (i:Nat) (hi:i<9223372036854775807):secQ a i=false↔zrc (a.getD i default)=true/\(0<i->(a.getD (i-1) default).From<(a.getD i default).From):=by
 unfold secQ;rw[Bool.or_eq_false_iff,Bool.not_eq_false'];constructor
 ·rintro⟨h1,h2⟩
  refine⟨h1,fun h => ?_⟩;rw[y0k h (by omega)]at h2;simp only[Bool.and_eq_false_iff,decide_eq_false_iff_not]at h2;omega
 ·rintro⟨h1,h2⟩
  refine⟨h1,?_⟩;by_cases h:0<i
  ·rw[y0k h (by omega)]
   have:=h2 h;simp only[Bool.and_eq_false_iff,decide_eq_false_iff_not];omega
  ·simp only[Bool.and_eq_false_iff,decide_eq_false_iff_not];omega
theorem ydt {s:Sector} (h:zrc s=true):brg s.From/\brg s.To:=by
 unfold zrc zwe zb at h;simp only[Bool.and_eq_true,decide_eq_true_eq]at h;exact⟨⟨h.1.1.1,h.1.1.2⟩,h.1.2.1,h.1.2.2⟩
theorem yos (a : List Sector) (n : Nat) : ∀ k, k <= 1000 -> 0 <= itR (fun i (s : Int) => s + ypc (a.getD i default)) k 0 0 /\ itR (fun i (s : Int) => s + ypc (a.getD i default)) k 0 0 <= 360 * k
 | 0,_=>by simp[itR]
 | k+1,h=>by
  have:=yos a n k (by omega);rw[y2e];have:=yzh (a.getD (0+k) default);simp only[Nat.zero_add]at *;omega
theorem yod (a:List Sector) (hl:a.length<9223372036854775807):zmb a=zu a:=by
 have sp1:=yae (b:=y3p a) (secQ a) (fun _ u=>u) false (k:=a.length-0) (i:=0) (s:=()) (fun j u _ _=>by cases u;rfl);let hasK (i:Nat):Bool:=(List.range a.length).any fun k=>((k:Int) != (i:Int)) && zud (a.getD i default) ((a.getD k default).From)
 have im1:=yae (b:=ygj a) (fun i=>secQ a i || hasK i) (fun i (s:Int)=>IntKind.wrap .i64 (s+zoc (a.getD i default))) false (k:=a.length-0) (i:=0) (s:=0) (fun j u _ _=>by
  simp only[ygj,yrr];rw[show((!zrc (a.getD j default)) || (decide (0<(j:Int)) && decide (((a.getD j default).From)<=((a.getD ((IntKind.wrap .i64 ((j:Int)-1)).toNat) default).From))))=secQ a j from rfl]
  cases hq:secQ a j with
  | true=>rfl
  | false=>
   simp only[cond_false,Bool.false_or];rw[yic (b:=yom a j u) (fun k=>((k:Int) != (j:Int)) && zud (a.getD j default) ((a.getD k default).From)) false (fun k v _ _=>rfl)];simp only[Nat.sub_zero,Nat.zero_add];show(match (bif hasK j then Except.error false else Except.ok ())with|.error e=>Except.error e|.ok s2=>Except.ok (IntKind.wrap .i64 (u+zoc (a.getD j default))))=bif hasK j then Except.error false else Except.ok (IntKind.wrap .i64 (u+zoc (a.getD j default)))
   cases hasK j<;>rfl)
 unfold zmb zu;rcases sp1 with⟨⟨j,_,hj,hq⟩,e1⟩|⟨hq,e1⟩
 ·rcases im1 with⟨_,e2⟩|⟨hn,_⟩
  ·rw[e1,e2]
   cases decide (12<(a.length:Int))<;>rfl
  ·have:=hn j (Nat.zero_le _) hj
   simp only[hq,Bool.true_or]at this;cases this
 ·have hq':∀ i,i<a.length->zrc (a.getD i default)=true/\(0<i->(a.getD (i-1) default).From<(a.getD i default).From):=fun i hi=>(yap a i (by omega)).1 (hq i (Nat.zero_le _) (by omega))
  have hb:∀ i,i<a.length->brg (a.getD i default).From/\brg (a.getD i default).To:=fun i hi=>ydt (hq' i hi).1
  have hs:∀ i,i+1<a.length->(a.getD i default).From<(a.getD (i+1) default).From:=fun i hi=>by have:=(hq' (i+1) hi).2 (by omega);simpa using this
  rw[e1];simp only;have apart:=yxp (f:=fun i=>(a.getD i default).From) (arc:=fun i=>ypc (a.getD i default)) (n:=a.length) (fun i hi=>(hb i hi).1) hs
  -- the reference's second loop
  let q2 (j:Nat):Bool:=decide (1<a.length) && decide ((((a.getD ((j+1) % a.length) default).From-(a.getD j default).From+360) % 360)<ypc (a.getD j default))
  have sp2:=yxi (b:=y5m a ()) q2 false (if 1<a.length then a.length else 0) (fun j hj=>by
   simp only[y5m];by_cases hn:1<a.length
   ·rw[if_pos hn]at hj ⊢
    have d1:decide ((1:Int)<(a.length:Int))=true:=by simp;omega
    rw[d1,Bool.and_true];by_cases hjl:j<a.length
    ·have d2:decide ((j:Int)<(a.length:Int))=true:=by simp;omega
     rw[d2,decide_eq_true hjl];simp only[cond_true];have w1:IntKind.wrap .i64 ((j:Int)+1)=((j+1:Nat):Int):=by rw[IntKind.wrap_i64];omega
     have t1:((IntKind.wrap .i64 ((j:Int)+1)).tmod (a.length:Int)).toNat=(j+1) % a.length:=by
      rw[w1,Int.tmod_eq_emod_of_nonneg (by omega),show((j+1:Nat):Int) % (a.length:Int)=(((j+1) % a.length:Nat):Int)from rfl,Int.toNat_natCast]
     rw[t1,Int.toNat_natCast,ygw _ (hb j hjl).1 (hb j hjl).2,w1];have hm:(j+1) % a.length<a.length:=Nat.mod_lt _ (by omega);have b1:=(hb _ hm).1;have b2:=(hb j hjl).1;obtain⟨c1,c2⟩:=b1;obtain⟨c3,c4⟩:=b2;rw[w64 (x:=(a.getD ((j+1) % a.length) default).From-(a.getD j default).From) (by omega) (by omega),w64 (x:=(a.getD ((j+1) % a.length) default).From-(a.getD j default).From+360) (by omega) (by omega),Int.tmod_eq_emod_of_nonneg (by omega)];show _=bif q2 j then _ else _
     rw[show q2 j=decide ((((a.getD ((j+1) % a.length) default).From-(a.getD j default).From+360) % 360)<ypc (a.getD j default))from by show(decide (1<a.length) && _)=_;rw[decide_eq_true hn,Bool.true_and]]
    ·have d2:decide ((j:Int)<(a.length:Int))=false:=by simp;omega
     rw[d2,decide_eq_false hjl];rfl
   ·rw[if_neg hn]at hj ⊢
    have d1:decide ((1:Int)<(a.length:Int))=false:=by simp;omega
    have d3:decide (j<0)=false:=by simp
    rw[d1,Bool.and_false,d3]
    rfl) (if 1<a.length then a.length else 0) 0 (a.length-(0:Int).toNat+1) (by omega) (by simp;split<;>omega)
  have e0:((0:Nat):Int)=0:=rfl;rw[e0]at sp2
  -- what the program's loop says
  have hask:∀ i,i<a.length->(hasK i=false↔∀ k,k<a.length->k≠i->ypc (a.getD i default)<=((a.getD k default).From-(a.getD i default).From) % 360):=by
   intro i hi;show((List.range a.length).any _)=false↔_;rw[List.any_eq_false];constructor
   ·intro h k hk hki
    have:=h k (List.mem_range.2 hk);rw[ylp _ _ (hb i hi).1 (hb i hi).2 (hb k hk).1]at this;simp only[Bool.and_eq_true,bne_iff_ne,decide_eq_true_eq,not_and]at this;have:=this (by omega);omega
   ·intro h k hk
    have hk:=List.mem_range.1 hk;rw[ylp _ _ (hb i hi).1 (hb i hi).2 (hb k hk).1];simp only[Bool.and_eq_true,bne_iff_ne,decide_eq_true_eq,not_and];intro hki;have:=h k hk (by omega);omega
  rcases im1 with⟨⟨i,_,hi,hc⟩,e2⟩|⟨hn,e2⟩
  · -- two sectors meet
   rw[e2];simp only;have hi:i<a.length:=by omega
   rw[hq i (Nat.zero_le _) (by omega),Bool.false_or]at hc
   have hne:¬ ∀ k,k<a.length->k≠i->ypc (a.getD i default)<=((a.getD k default).From-(a.getD i default).From) % 360:=fun h=>by
    rw[(hask i hi).2 h]at hc;cases hc
   have hno:¬ (1<a.length->∀ i,i<a.length->ypc (a.getD i default)<=((a.getD ((i+1) % a.length) default).From-(a.getD i default).From+360) % 360):=fun h=>hne (fun k hk hki=>apart.2 h i hi k hk hki)
   cases decide (12<(a.length:Int))with
   | true=>rfl
   | false=>
    simp only[cond_false];rcases sp2 with⟨_,e3⟩|⟨h3,_⟩
    ·rw[e3]
    ·exfalso
     apply hno;intro hn1 j hj;have:=h3 j (Nat.zero_le _) (by rw[if_pos hn1];exact hj)
     have:decide ((((a.getD ((j+1) % a.length) default).From-(a.getD j default).From+360) % 360)<ypc (a.getD j default))=false:=by
      have h4:(decide (1<a.length) && _)=false:=this;rwa [decide_eq_true hn1,Bool.true_and]at h4
     have:=of_decide_eq_false this;omega
  ·rw[e2]
   simp only[zfc]
   have hall:∀ i,i<a.length->∀ k,k<a.length->k≠i->ypc (a.getD i default)<=((a.getD k default).From-(a.getD i default).From) % 360:=fun i hi=>(hask i hi).1 (by
    have:=hn i (Nat.zero_le _) (by omega);rw[Bool.or_eq_false_iff]at this
    exact this.2)
   have hcons:=apart.1 hall
   have e3:ync (y5m a ()) (a.length-(0:Int).toNat+1) 0=.error (.inr ((if 1<a.length then a.length else 0:Nat):Int)):=by
    rcases sp2 with⟨⟨j,_,hj,h4⟩,_⟩|⟨_,e3⟩
    ·exfalso
     have h4:(decide (1<a.length) && decide ((((a.getD ((j+1) % a.length) default).From-(a.getD j default).From+360) % 360)<ypc (a.getD j default)))=true:=h4;rw[Bool.and_eq_true]at h4;have g1:=of_decide_eq_true h4.1;have g2:=of_decide_eq_true h4.2;rw[if_pos g1]at hj;have:=hcons g1 j hj;omega
    ·exact e3
   rw[e3];simp only
   cases h12:decide (12<(a.length:Int))with
   | true=>
    have:=of_decide_eq_true h12;rw[decide_eq_false (show ¬ (a.length:Int)<=12 by omega),Bool.false_and];rfl
   | false=>
    have h12:=of_decide_eq_false h12;rw[decide_eq_true (show(a.length:Int)<=12 by omega),Bool.true_and];simp only[cond_false]
    have hit:∀ k,k<=a.length->itR (fun i (s:Int)=>IntKind.wrap .i64 (s+zoc (a.getD i default))) k 0 0=itR (fun i (s:Int)=>s+ypc (a.getD i default)) k 0 0:=by
     intro k
     induction k with
     | zero=>intro _;rfl
     | succ k ih=>
      intro hk;rw[y2e,y2e,ih (by omega)];simp only[Nat.zero_add];have r1:=yos a 0 k (by omega);rw[y0o _ (hb k (by omega)).1 (hb k (by omega)).2];have r2:=yzh (a.getD k default);exact w64 (by omega) (by omega)
    have hle:=yhv (f:=fun i=>(a.getD i default).From) (arc:=fun i=>ypc (a.getD i default)) (S:=fun k=>itR (fun i (s:Int)=>s+ypc (a.getD i default)) k 0 0) (n:=a.length) (fun i hi=>(hb i hi).1) hs (fun i _=>yzh _) hcons rfl (fun i _=>by
     show itR _ (i+1) 0 0=_;rw[y2e]
     simp only[Nat.zero_add])
    rw[hit _ (by omega)];exact decide_eq_true (by simpa using hle)
theorem yhs (l:List (List UInt8)) (x:List UInt8):ztd l x=l.any (fun y=>y == x):=by
 unfold ztd zed;rcases ybb (b:=ynm l x) (fun j=>x == l.getD j default) (fun j=>(j:Int)) (k:=l.length-0) (i:=0) (s:=()) (fun j u _ _=>rfl)with⟨j,_,h2,h3,h4,h5⟩|⟨h1,h2⟩
 ·rw[h5]
  simp only;rw[decide_eq_true (show(0:Int)<=(j:Int)by omega)];symm
  rw[List.any_eq_true];have hj:j<l.length:=by omega
  have h3:(x == l.getD j default)=true:=h3;have h3:=eq_of_beq h3;refine⟨l.getD j default,?_,by rw[<- h3];simp⟩;rw[List.getD_eq_getElem?_getD,List.getElem?_eq_getElem hj];exact List.getElem_mem hj
 ·rw[h2]
  simp only;rw[decide_eq_false (show ¬ (0:Int) <= -1 by omega)];symm
  rw[List.any_eq_false];intro y hy;obtain⟨i,hi,rfl⟩:=List.getElem_of_mem hy;have:(x == l.getD i default)=false:=h1 i (Nat.zero_le _) (by omega);rw[List.getD_eq_getElem?_getD,List.getElem?_eq_getElem hi,Option.getD_some]at this;intro h;rw[eq_of_beq h]at this;simp at this
theorem ynn {k:Int} (h:zsc k=true):k=1\/k=2\/k=3\/k=4\/k=5\/k=6\/k=7\/k=8\/k=9:=by
 unfold zsc zb at h;simp only[Bool.and_eq_true,decide_eq_true_eq]at h;omega
theorem ysj {k:Int} (h:zsc k=true):zke k=zne k:=by
 rcases ynn h with rfl|rfl|rfl|rfl|rfl|rfl|rfl|rfl|rfl<;>rfl
theorem yvp {k:Int} (h:zsc k=true):zle k=zoe k:=by
 rcases ynn h with rfl|rfl|rfl|rfl|rfl|rfl|rfl|rfl|rfl<;>rfl
theorem yrj {k:Int} (h:zsc k=true):zuc k=zeb k:=by
 rcases ynn h with rfl|rfl|rfl|rfl|rfl|rfl|rfl|rfl|rfl<;>decide
theorem ylq (m:Mark):(match yf (yqh m) (((zeb m.Kind).length)-0) 0 ()with|.error e=>e|.ok s1=>false)=(zeb m.Kind).any (fun y=>y == m.Shape):=by
 rcases ybb (b:=yqh m) (fun j=>(zeb m.Kind).getD j default == m.Shape) (fun _=>true) (k:=(zeb m.Kind).length-0) (i:=0) (s:=()) (fun j u _ _=>rfl)with⟨j,_,h2,h3,h4,h5⟩|⟨h1,h2⟩
 ·rw[h5]
  simp only;symm
  rw[List.any_eq_true];have hj:j<(zeb m.Kind).length:=by omega
  refine⟨(zeb m.Kind).getD j default,?_,h3⟩;rw[List.getD_eq_getElem?_getD,List.getElem?_eq_getElem hj];exact List.getElem_mem hj
 ·rw[h2]
  simp only;symm
  rw[List.any_eq_false];intro y hy;obtain⟨i,hi,rfl⟩:=List.getElem_of_mem hy;have:((zeb m.Kind).getD i default == m.Shape)=false:=h1 i (Nat.zero_le _) (by omega);rw[List.getD_eq_getElem?_getD,List.getElem?_eq_getElem hi,Option.getD_some]at this;rw[this];decide
theorem y7y (m:Mark):zme m=(bif (m.Kind == 0)then(m.Kind == 0 && (m.Colors == [] && (m.Shape == [] && m.Topmark == [])))else(bif (((!(zsc m.Kind)) || (m.Colors != (zne m.Kind))) || ((m.Topmark != []) && (m.Topmark != (zoe m.Kind))))then false else(zeb m.Kind).any (fun y=>y == m.Shape))):=by
 unfold zme;have hk:zie m.Kind=zsc m.Kind:=rfl;rw[hk]
 cases h0:(m.Kind == 0)with
 | true=>
  have e:=eq_of_beq h0;have hn:zsc m.Kind=false:=by rw[e];rfl
  simp only[Bool.true_and,cond_true,hn,Bool.false_and];cases(m.Colors == [] && (m.Shape == [] && m.Topmark == []))<;>rfl
 | false=>
  simp only[Bool.false_and,cond_false]
  cases h1:zsc m.Kind with
  | false=>rfl
  | true=>
   rw[ysj h1,yvp h1,yrj h1,yhs];simp only[Bool.true_and,Bool.not_true,Bool.false_or,bne];cases(m.Colors == zne m.Kind)<;>cases(m.Topmark == [])<;>cases(m.Topmark == zoe m.Kind)<;>simp
theorem ywl (m:Mark):zme m=zfd m:=by
 rw[y7y];unfold zfd zyc;have hs:=ylq m;generalize yf (yqh m) ((zeb m.Kind).length-0) 0 ()=z at hs ⊢
 cases z with
 | error e=>simp only at hs ⊢;rw[hs]
 | ok u=>simp only at hs ⊢;rw[hs]
theorem y8l {b:Nat->Unit->Except Bool Unit} {n:Nat} {p:Nat->Bool} {x:Bool} (hb:∀ j u,j<n->b j u=bif p j then .error false else .ok ()) :
  ((match yf b (n-0) 0 ()with|.error e=>e|.ok _=>x)=true)↔(∀ j,j<n->p j=false)/\x=true:=by
 rw[yic (b:=b) p false (fun j u _ h=>hb j u (by omega))];simp only[Nat.sub_zero,Nat.zero_add]
 cases h:(List.range n).any (fun j=>p j)with
 | true=>
  simp only[cond_true];obtain⟨j,h1,h2⟩:=List.any_eq_true.1 h;constructor
  ·intro h;cases h
  ·rintro⟨h3,_⟩;rw[h3 j (List.mem_range.1 h1)]at h2;cases h2
 | false=>
  simp only[cond_false];rw[List.any_eq_false]at h;exact⟨fun hx=>⟨fun j hj=>by simpa using h j (List.mem_range.2 hj),hx⟩,fun hx=>hx.2⟩
theorem y6p (a:List UInt8):zbd a=true↔a≠[]/\a.length<=10/\∀ j,j<a.length->((97<=(a.getD j 0).toNat/\(a.getD j 0).toNat<=122)\/(j≠0/\48<=(a.getD j 0).toNat/\(a.getD j 0).toNat<=57)):=by
 unfold zbd;refine(y8l (n:=a.length) (p:=fun j=>_) (fun j u _=>by rfl)).trans ?_;simp only[zfc,zbf,Bool.and_eq_true,bne_iff_ne,decide_eq_true_eq];constructor
 ·rintro⟨h1,h2,h3⟩
  refine⟨h2,by omega,fun j hj => ?_⟩;have:=h1 j hj;simp[-List.getD_eq_getElem?_getD]at this
  omega
 ·rintro⟨h2,h3,h1⟩
  refine⟨fun j hj => ?_,h2,by omega⟩;have:=h1 j hj;simp[-List.getD_eq_getElem?_getD]
  omega
theorem y0m (a:List UInt8):zac a=true↔a≠[]/\a.length<=10/\∀ j,j<a.length->((97<=(a.getD j 0).toNat/\(a.getD j 0).toNat<=122)\/(j≠0/\48<=(a.getD j 0).toNat/\(a.getD j 0).toNat<=57)):=by
 unfold zac;by_cases hn:a=[]
 ·subst hn;simp
 by_cases h10:10<a.length
 ·have:((a == []) || decide (10<(a.length:Int)))=true:=by simp;right;omega
  rw[this];simp;omega
 have hp:0<a.length:=by cases a<;>simp_all
 have:((a == []) || decide (10<(a.length:Int)))=false:=by simp;exact⟨hn,by omega⟩
 rw[this];by_cases hs:zgd ((a.getD 0 0).toNat:Int)=true
 ·rw[hs]
  refine(y8l (n:=a.length) (p:=fun j=>_) (fun j u _=>by rfl)).trans ?_;simp only[zgd,Bool.and_eq_true,decide_eq_true_eq]at hs;constructor
  ·rintro⟨h1,_⟩
   refine⟨hn,by omega,fun j hj => ?_⟩;have:=h1 j hj;simp[zgd,zye,-List.getD_eq_getElem?_getD]at this
   by_cases hj0:j=0
   ·subst hj0;omega
   ·omega
  ·rintro⟨_,_,h1⟩
   refine⟨fun j hj => ?_,rfl⟩;have:=h1 j hj;simp[zgd,zye,-List.getD_eq_getElem?_getD]
   omega
 ·have hs':zgd ((a.getD 0 0).toNat:Int)=false:=by simpa using hs
  rw[hs'];simp only[Bool.not_false,Bool.or_true,cond_true];constructor
  ·intro h;cases h
  ·rintro⟨_,_,h1⟩
   have:=h1 0 hp;exfalso;apply hs;simp[zgd,-List.getD_eq_getElem?_getD]
   simp[-List.getD_eq_getElem?_getD]at this
   omega
theorem yny (a:List UInt8):zbd a=zac a:=Bool.eq_iff_iff.2 ((y6p a).trans (y0m a).symm)
def zqb (a0:Aid):Bool:=
 (bif (((!(zcc a0.Light)) || (!(zte a0.Intensity))) || (!(zmb a0.Sectors)))then false else(bif ((a0.Sectors.length:Int) == 0)then((a0.Light.Colors.length:Int) == 1)else((znb a0.Sectors) == a0.Light.Colors)))
namespace N21
theorem DD:DOk Tryz.prog (Go.Ab.DD [(48,dP D_zcc),(49,dP D_zte),(50,dP D_zmb),(51,dP D_znb)]):=ya y7v.e <| ya yrw.e <| ya ymu.e <| ya yxt.e <| ye _
theorem dn:type_of% (And.intro @D_zcc.eq_1 <| And.intro @D_zte.eq_1 <| And.intro @D_zmb.eq_1 <| @D_znb.eq_1):=by and_intros<;>intros<;>rfl
theorem den (a0:Aid) (hb0:bdAid a0):Den Tryz.prog 21 [.agg (eAid a0)] (.bool (zqb a0)):=by
 generalize hR:zqb a0=r;unfold zqb at hR;refine di Tryz.func21 Tryz.ntmps21 Tryz.results21 ?_;intro c hL hc hk;obtain⟨hL0,_⟩:=hL;have hw0:bwAid a0:=ydb a0 hL0;clear hL0;simp only[pars,Nat.zero_add];iterate 2 refine rS ?_
 refine AWP.cond rfl (fun hb => ?_) (fun hb => ?_)
 ·replace hR:=ct hR
  refine rS ?_;refine AWP.ret ?_;subst hR;exact es
 ·replace hR:=cf hR
  refine rS ?_;refine AWP.cond rfl (fun hb => ?_) (fun hb => ?_)
  ·replace hR:=ct hR
   refine rS ?_;refine AWP.ret ?_;subst hR;exact es
  ·replace hR:=cf hR
   refine rD 6 ?_;refine AWP.ret ?_;subst hR;exact es
end N21
def D_zqb : DF
 | [x0]=>some (.bool (zqb (rdG dAid x0)),false,[wG eAid dAid x0,bdAid (rdG dAid x0)])
 | _=>none
theorem y4o:OkD Tryz.prog 21 D_zqb:=by unfold D_zqb;exact dk N21.den
def zpe (a0:Aid):Bool:=
 ((((((zdf a0.Number) && (zbd a0.Name)) && (zef a0.At)) && (zff a0.Height)) && (zme a0.Mark)) && ((zqb a0) || (zue a0)))
namespace N19
theorem DD:DOk Tryz.prog (Go.Ab.DD [(21,dP D_zqb),(41,dP D_zdf),(42,dP D_zbd),(43,dP D_zef),(44,dP D_zff),(45,dP D_zme),(46,dP D_zue)]):=ya y4o.e <| ya ylw.e <| ya ygu.e <| ya yvv.e <| ya ykv.e <| ya ysu.e <| ya y2t.e <| ye _
theorem dn:type_of% (And.intro @D_zqb.eq_1 <| And.intro @D_zdf.eq_1 <| And.intro @D_zbd.eq_1 <| And.intro @D_zef.eq_1 <| And.intro @D_zff.eq_1 <| And.intro @D_zme.eq_1 <| @D_zue.eq_1):=by and_intros<;>intros<;>rfl
theorem den (a0:Aid) (hb0:bdAid a0):Den Tryz.prog 19 [.agg (eAid a0)] (.bool (zpe a0)):=by
 generalize hR:zpe a0=r;unfold zpe at hR;refine di Tryz.func19 Tryz.ntmps19 Tryz.results19 ?_;intro c hL hc hk;obtain⟨hL0,_⟩:=hL;have hw0:bwAid a0:=ydb a0 hL0;clear hL0;simp only[pars,Nat.zero_add];iterate 2 refine rS ?_
 refine AWP.ret ?_;subst hR;exact es
end N19
def D_zpe : DF
 | [x0]=>some (.bool (zpe (rdG dAid x0)),false,[wG eAid dAid x0,bdAid (rdG dAid x0)])
 | _=>none
theorem ydw:OkD Tryz.prog 19 D_zpe:=by unfold D_zpe;exact dk N19.den
def zrb (a0:Aid):Bool:=
 (bif (((((!(zb a0.Number 1 9999)) || (!(zac a0.Name))) || (!(znd a0.At))) || (!(zb a0.Height 0 3000))) || (!(zfd a0.Mark)))then false else(bif (zzc a0.Light)then(((a0.Sectors.length:Int) == 0) && (a0.Intensity == 0))else(bif (((!(zi a0.Light)) || (!(zb a0.Intensity 1 100000000))) || (!(zu a0.Sectors)))then false else(bif ((a0.Sectors.length:Int) == 0)then((a0.Light.Colors.length:Int) == 1)else((zob a0.Sectors) == a0.Light.Colors)))))
namespace N12
theorem DD:DOk Tryz.prog (Go.Ab.DD [(29,dP D_zb),(30,dP D_zac),(31,dP D_znd),(32,dP D_zfd),(33,dP D_zzc),(34,dP D_zi),(35,dP D_zu),(36,dP D_zob)]):=ya yfd.e <| ya yuw.e <| ya yxw.e <| ya yev.e <| ya y9u.e <| ya ysy.e <| ya ymy.e <| ya ypt.e <| ye _
theorem dn:type_of% (And.intro @D_zb.eq_1 <| And.intro @D_zac.eq_1 <| And.intro @D_znd.eq_1 <| And.intro @D_zfd.eq_1 <| And.intro @D_zzc.eq_1 <| And.intro @D_zi.eq_1 <| And.intro @D_zu.eq_1 <| @D_zob.eq_1):=by and_intros<;>intros<;>rfl
theorem ol:type_of% (@zb.eq_1):=@zb.eq_1
theorem den (a0:Aid) (hb0:bdAid a0):Den Tryz.prog 12 [.ep (eAid a0)] (.bool (zrb a0)):=by
 generalize hR:zrb a0=r;unfold zrb at hR;refine di Tryz.func12 Tryz.ntmps12 Tryz.results12 ?_;intro c hL hc hk;obtain⟨hL0,_⟩:=hL;have hw0:bwAid a0:=ydb a0 hL0;clear hL0;simp only[pars,Nat.zero_add];iterate 2 refine rS ?_
 refine AWP.cond rfl (fun hb => ?_) (fun hb => ?_)
 ·replace hR:=ct hR
  refine rS ?_;refine AWP.ret ?_;subst hR;exact es
 ·replace hR:=cf hR
  refine rS ?_;refine AWP.cond rfl (fun hb => ?_) (fun hb => ?_)
  ·replace hR:=ct hR
   refine rS ?_;refine AWP.ret ?_;subst hR;exact es
  ·replace hR:=cf hR
   refine rS ?_;refine AWP.cond rfl (fun hb => ?_) (fun hb => ?_)
   ·replace hR:=ct hR
    refine rS ?_;refine AWP.ret ?_;subst hR;exact es
   ·replace hR:=cf hR
    refine rS ?_;refine AWP.cond rfl (fun hb => ?_) (fun hb => ?_)
    ·replace hR:=ct hR
     refine rS ?_;refine AWP.ret ?_;subst hR;exact es
    ·replace hR:=cf hR
     refine rD 11 ?_;refine AWP.ret ?_;subst hR;exact es
end N12
def D_zrb : DF
 | [x0]=>some (.bool (zrb (rdP dAid x0)),false,[wP eAid dAid x0,bdAid (rdP dAid x0)])
 | _=>none
theorem y2u:OkD Tryz.prog 12 D_zrb:=by unfold D_zrb;exact dk N12.den
theorem yfl (c:Character) (h:zzc c=true):zcc c=false:=by
 unfold zzc at h;simp only[Bool.and_eq_true,beq_iff_eq]at h;obtain⟨⟨⟨⟨h1,h2⟩,h3⟩,h4⟩,h5⟩:=h;cases c
 simp only at h1 h2 h3 h4 h5;rename_i k g l cs p
 have hg:g=[]:=List.length_eq_zero_iff.1 (by omega);subst h1 hg h3 h4 h5;decide
theorem yyw (a:Aid):zue a=((zzc a.Light && ((a.Sectors.length:Int) == 0)) && (a.Intensity == 0)):=by
 unfold zue zcf zzc;rw[yii]
 have:decide (a.Light.Group=[])=((a.Light.Group.length:Int) == 0):=by
  cases a.Light.Group with
  | nil=>rfl
  | cons x l=>simp;omega
 rw[this]
theorem yei (a:Aid) (hl:a.Light.Colors.length<9223372036854775808) (hs:a.Sectors.length<9223372036854775807):zpe a=zrb a:=by
 unfold zpe zrb;rw[yyw];unfold zqb;rw[yod a.Sectors hs,ybg,ywl,yny];have e1:zdf a.Number=zb a.Number 1 9999:=rfl;have e2:zef a.At=znd a.At:=rfl;have e3:zff a.Height=zb a.Height 0 3000:=rfl;have e4:zte a.Intensity=zb a.Intensity 1 100000000:=rfl;rw[e1,e2,e3,e4]
 cases hp:zzc a.Light with
 | true=>
  rw[yfl _ hp];simp only[Bool.not_false,Bool.true_or,cond_true,Bool.true_and,Bool.false_or];cases zb a.Number 1 9999<;>cases zac a.Name<;>cases znd a.At<;>cases zb a.Height 0 3000<;>cases zfd a.Mark<;>rfl
 | false=>
  rw[yog a.Light hl];simp only[Bool.false_and,Bool.or_false,cond_false];cases zb a.Number 1 9999<;>cases zac a.Name<;>cases znd a.At<;>cases zb a.Height 0 3000<;>cases zfd a.Mark<;>rfl
def InR (s:List Int):Prop:=∀ v∈s,0<=v/\v<=100
theorem InR.app {s t:List Int} (h1:InR s) (h2:InR t):InR (s++t):=fun v hv=>(List.mem_append.1 hv).elim (h1 v) (h2 v)
theorem InR.one {x:Int} (h1:0<=x) (h2:x<=100):InR [x]:=fun v hv=>by rw[List.mem_singleton]at hv;subst hv;exact⟨h1,h2⟩
theorem InR.nil:InR []:=fun v hv=>by simp at hv
theorem ypr (k:Int):0<=zhb k/\zhb k<=100:=by
 unfold zhb;simp only[Bool.cond_eq_ite];repeat' split
 all_goals omega
theorem ywm (k:Int):0<=zk k/\zk k<=20:=by
 unfold zk;simp only[Bool.cond_eq_ite];repeat' split
 all_goals omega
theorem ybw (k:Int):0<=IntKind.wrap .i64 (zk k+20)/\IntKind.wrap .i64 (zk k+20)<=100:=by
 have:=ywm k;rw[IntKind.wrap_i64];omega
theorem ygr (c:Character) (h1:c.Group.length<=4) (h2:∀ v∈c.Group,1<=v/\v<=9):InR (za c)/\(za c).length<=80:=by
 have hf:=ypr c.Kind;have hg:=ywm c.Kind;have hw:=ybw c.Kind;unfold za
 cases hk:(c.Kind == 8)with
 | true=>
  simp only[cond_true];have hm:(zo ((c.Letter.getD 0 0).toNat:Int)).length<=4:=yvh _
  have hmr:∀ j,0<=(zo ((c.Letter.getD 0 0).toNat:Int)).getD j default/\(zo ((c.Letter.getD 0 0).toNat:Int)).getD j default<=100:=by
   intro j;rw[yje,List.getD_eq_getElem?_getD,List.getElem?_map]
   cases(yac.getD (IntKind.wrap .u8 (((c.Letter.getD 0 0).toNat:Int)-65)).toNat default)[j]? with
   | none=>show(0:Int)<=0/\(0:Int)<=100;omega
   | some x=>simp only[Option.map_some,Option.getD_some];split<;>omega
  obtain⟨t,q1,q2,q3⟩:=yl (b:=yig c) (fun i s=>InR s/\s.length<=2 * i) (k:=(zo ((c.Letter.getD 0 0).toNat:Int)).length-0) (i:=0) (s:=[]) ⟨InR.nil,by simp⟩ (fun j u _ _ h=>by
   unfold yig
   cases decide (0<(j:Int))with
   | true=>exact⟨_,rfl,(h.1.app (InR.one (by omega) (by omega))).app (InR.one (hmr j).1 (hmr j).2),by simp only[List.length_append,List.length_singleton];omega⟩
   | false=>exact⟨_,rfl,h.1.app (InR.one (hmr j).1 (hmr j).2),by simp only[List.length_append,List.length_singleton];omega⟩)
  rw[q1];exact⟨q2,by simp only;omega⟩
 | false=>
  simp only[cond_false]
  have hend:∀ s:List Int,InR s->s.length<=72->InR (bif (c.Letter == [76])then s++[zk c.Kind,20]else s)/\(bif (c.Letter == [76])then s++[zk c.Kind,20]else s).length<=80:=by
   intro s h3 h4
   cases(c.Letter == [76])with
   | true=>exact⟨h3.app (fun v hv=>by simp only[List.mem_cons,List.not_mem_nil,or_false]at hv;rcases hv with h|h<;>subst h<;>omega),by simp only[cond_true,List.length_append,List.length_cons,List.length_nil];omega⟩
   | false=>exact⟨h3,by simp only[cond_false];omega⟩
  cases hz:((c.Group.length:Int) == 0)with
  | true=>
   simp only[cond_true]
   obtain⟨t,q1,q2,q3⟩:=yl (b:=yne c) (fun i s=>InR s/\s.length<=18 * i) (k:=1-0) (i:=0) (s:=[]) ⟨InR.nil,by simp⟩ (fun j u _ hj h=>by
    unfold yne;have hj0:j=0:=by omega
    obtain⟨t,q1,q2,q3⟩:=yl (b:=yzf c j u) (fun i s=>InR s/\s.length<=18 * j+2 * i) (k:=(([1]:List Int).getD j default).toNat-0) (i:=0) (s:=u) ⟨h.1,by omega⟩ (fun i w _ hi h=>by
     unfold yzf
     cases decide (0<(i:Int))with
     | true=>exact⟨_,rfl,(h.1.app (InR.one hg.1 (by omega))).app (InR.one hf.1 hf.2),by simp only[List.length_append,List.length_singleton];omega⟩
     | false=>
      cases decide (0<(j:Int))with
      | true=>exact⟨_,rfl,(h.1.app (InR.one hw.1 hw.2)).app (InR.one hf.1 hf.2),by simp only[List.length_append,List.length_singleton];omega⟩
      | false=>exact⟨_,rfl,h.1.app (InR.one hf.1 hf.2),by simp only[List.length_append,List.length_singleton];omega⟩)
    rw[q1];subst hj0
    exact⟨t,rfl,q2,by simp only[List.getD_cons_zero]at q3;omega⟩)
   rw[q1];exact hend t q2 (by omega)
  | false=>
   simp only[cond_false]
   obtain⟨t,q1,q2,q3⟩:=yl (b:=yfg c) (fun i s=>InR s/\s.length<=18 * i) (k:=c.Group.length-0) (i:=0) (s:=[]) ⟨InR.nil,by simp⟩ (fun j u _ hj h=>by
    unfold yfg;have hgj:=yfu h2 j
    obtain⟨t,q1,q2,q3⟩:=yl (b:=yjg c j u) (fun i s=>InR s/\s.length<=18 * j+2 * i) (k:=(c.Group.getD j default).toNat-0) (i:=0) (s:=u) ⟨h.1,by omega⟩ (fun i w _ hi h=>by
     unfold yjg
     cases decide (0<(i:Int))with
     | true=>exact⟨_,rfl,(h.1.app (InR.one hg.1 (by omega))).app (InR.one hf.1 hf.2),by simp only[List.length_append,List.length_singleton];omega⟩
     | false=>
      cases decide (0<(j:Int))with
      | true=>exact⟨_,rfl,(h.1.app (InR.one hw.1 hw.2)).app (InR.one hf.1 hf.2),by simp only[List.length_append,List.length_singleton];omega⟩
      | false=>exact⟨_,rfl,h.1.app (InR.one hf.1 hf.2),by simp only[List.length_append,List.length_singleton];omega⟩)
    rw[q1]
    exact⟨t,rfl,q2,by omega⟩)
   rw[q1];exact hend t q2 (by omega)
theorem y8t (l:List Int) (h:InR l) (hl:l.length<=80):0<=zp l/\zp l<=8000:=by
 unfold zp
 obtain⟨t,q1,q2,q3⟩:=yl (b:=yqq l) (fun i s=>0<=s/\s<=100 * i) (k:=l.length-0) (i:=0) (s:=0) ⟨by omega,by omega⟩ (fun j u _ hj hI=>by
  have hx:0<=l.getD j default/\l.getD j default<=100:=by
   rw[List.getD_eq_getElem?_getD,List.getElem?_eq_getElem (by omega),Option.getD_some];exact h _ (List.getElem_mem _)
  refine⟨_,rfl,?_⟩
  rw[IntKind.wrap_i64];omega)
 rw[q1];exact⟨q2,by simp only;omega⟩
theorem ynr (c:Character) (h:zcb c=true) (hs:zgb c=false):0<zmd c:=by
 obtain⟨g1,g2⟩:=yug c h;obtain⟨t1,t2⟩:=ygr c g1 g2;have t3:=y8t _ t1 t2;have hg:=ywm c.Kind;unfold zmd;rw[<- yld,hs];simp only[cond_false]
 cases(c.Kind == 3)with
 | true=>simp
 | false=>
  simp only[cond_false]
  have hr:0<zxc c/\zxc c<=100:=by
   unfold zxc;simp only[Bool.cond_eq_ite];repeat' split
   all_goals (try rw[IntKind.wrap_i64]);(try rw[IntKind.wrap_i64]);omega
  rw[IntKind.wrap_i64];omega
theorem ytf (a:Character) (h:zcc a=true):zcb a=true:=by
 unfold zcc at h
 cases hf:zcb a with
 | true=>rfl
 | false=>rw[hf]at h;simp at h
theorem you (a:Character) (h:zcc a=true):a.Period<=600:=by
 unfold zcc at h
 cases h1:((!(ztb a.Colors)) || (!(zcb a)))with
 | true=>rw[h1]at h;cases h
 | false=>
  rw[h1]at h
  cases h2:zgb a with
  | true=>rw[h2]at h;simp at h;omega
  | false=>rw[h2]at h;simp[zd]at h;omega
theorem yms (a:Character) (h:zcc a=true):a.Group.length<=4/\(∀ v∈a.Group,1<=v/\v<=9)/\a.Period<=600:=by
 have h1:=yug a (ytf a h);exact⟨h1.1,h1.2,you a h⟩
theorem yam (a:Character) (h:zcc a=true):(zgb a=true/\a.Period=0)\/(zgb a=false/\0<a.Period/\a.Period<=600):=by
 have hf:=ytf a h;unfold zcc at h
 cases h1:((!(ztb a.Colors)) || (!(zcb a)))with
 | true=>rw[h1]at h;cases h
 | false=>
  rw[h1]at h
  cases h2:zgb a with
  | true=>rw[h2]at h;left;simpa using h
  | false=>
   rw[h2,y6o a hf h2]at h;have:=ynr a hf h2;right
   simp[zd]at h
   exact⟨rfl,by omega,by omega⟩
theorem yjr (a:Character) (h:zcc a=true):0<=a.Period:=by
 rcases yam a h with⟨_,h⟩|⟨_,h,_⟩<;>omega
theorem yew (a:Character) (h:zcb a=true):1<=a.Kind/\a.Kind<=8:=by
 unfold zcb at h;simp only[Bool.cond_eq_ite]at h;repeat' split at h
 all_goals (try simp only[beq_iff_eq]at *)
 all_goals first|omega|(cases h;done)
theorem yuz (a:Character) (hl:a.Colors.length<9223372036854775808) (h:zi a=true):a.Group.length<=4/\(∀ v∈a.Group,1<=v/\v<=9)/\1<=a.Kind/\a.Kind<=8/\0<=a.Period/\a.Period<=600:=by
 rw[<- yog a hl]at h;have h1:=yms a h;have h2:=yew a (ytf a h);exact⟨h1.1,h1.2.1,h2.1,h2.2,yjr a h,h1.2.2⟩
theorem yhy {a:List Sector} (h:zu a=true):a.length<=12/\∀ i,i<a.length->zrc (a.getD i default)=true:=by
 unfold zu at h
 cases h12:decide (12<(a.length:Int))with
 | true=>rw[h12]at h;cases h
 | false=>
  rw[h12]at h;have h12:=of_decide_eq_false h12;refine⟨by omega,fun i hi => ?_⟩;rcases yae (b:=y3p a) (secQ a) (fun _ u=>u) false (k:=a.length-0) (i:=0) (s:=()) (fun j u _ _=>by cases u;rfl)with⟨_,e1⟩|⟨hq,_⟩
  ·rw[e1]at h;cases h
  ·exact((yap a i (by omega)).1 (hq i (Nat.zero_le _) (by omega))).1
theorem yux {c:List UInt8} (h:zxd c=true):c=[87]\/c=[82]\/c=[71]\/c=[89]:=by
 unfold zxd at h;simp only[Bool.or_eq_true,beq_iff_eq]at h;rcases h with((h|h)|h)|h
 ·exact .inl h
 ·exact .inr (.inl h)
 ·exact .inr (.inr (.inl h))
 ·exact .inr (.inr (.inr h))
theorem yiy {a:List Sector} (h:zu a=true):a.length<=12/\∀ i,0<=(a.getD i default).From/\(a.getD i default).From<=359/\0<=(a.getD i default).To/\(a.getD i default).To<=359/\(a.getD i default).Color.length<=1:=by
 obtain⟨h1,h2⟩:=yhy h;refine⟨h1,fun i => ?_⟩;by_cases hi:i<a.length
 ·have h3:=h2 i hi
  have hb:=ydt h3;unfold zrc at h3;rw[Bool.and_eq_true]at h3;refine⟨hb.1.1,hb.1.2,hb.2.1,hb.2.2,?_⟩;rcases yux h3.2 with h|h|h|h<;>rw[h]<;>decide
 ·rw[List.getD_eq_getElem?_getD,List.getElem?_eq_none (by omega)]
  decide
theorem y3x:zu []=true:=by decide
theorem yih {a:Aid} (h:zrb a=true):1<=a.Number/\a.Number<=9999/\zac a.Name=true/\znd a.At=true/\0<=a.Height/\a.Height<=3000/\zfd a.Mark=true /\
  (zhc a=true->zi a.Light=true)/\zu a.Sectors=true/\0<=a.Intensity/\a.Intensity<=100000000:=by
 unfold zrb at h
 cases hc:(((((!(zb a.Number 1 9999)) || (!(zac a.Name))) || (!(znd a.At))) || (!(zb a.Height 0 3000))) || (!(zfd a.Mark)))with
 | true=>rw[hc]at h;cases h
 | false=>
  rw[hc,cond_false]at h;simp only[Bool.or_eq_false_iff,Bool.not_eq_false']at hc;obtain⟨⟨⟨⟨c1,c2⟩,c3⟩,c4⟩,c5⟩:=hc;simp only[zb,Bool.and_eq_true,decide_eq_true_eq]at c1 c4
  have fin:(zhc a=true->zi a.Light=true)/\zu a.Sectors=true/\0<=a.Intensity/\a.Intensity<=100000000:=by
   cases hp:zzc a.Light with
   | true=>
    rw[hp,cond_true,Bool.and_eq_true,beq_iff_eq,beq_iff_eq]at h;have hs:a.Sectors=[]:=List.length_eq_zero_iff.1 (by omega);refine⟨fun hl => ?_,by rw[hs];exact y3x,by omega,by omega⟩;unfold zzc at hp;simp only[Bool.and_eq_true,beq_iff_eq]at hp;unfold zhc at hl;rw[bne_iff_ne]at hl;exact absurd hp.1.1.1.1 hl
   | false=>
    rw[hp,cond_false]at h
    cases hd:(((!(zi a.Light)) || (!(zb a.Intensity 1 100000000))) || (!(zu a.Sectors)))with
    | true=>rw[hd]at h;cases h
    | false=>
     simp only[Bool.or_eq_false_iff,Bool.not_eq_false',zb,Bool.and_eq_true,decide_eq_true_eq]at hd;exact⟨fun _=>hd.1.1,hd.2,by omega,by omega⟩
  exact⟨c1.1,c1.2,c2,c3,c4.1,c4.2,c5,fin⟩
theorem yjx {a:Aid} (h:zrb a=true) (hl:a.Light.Colors.length<9223372036854775808):zqb a=zhc a:=by
 have hr:=yih h;have hsl:=(yiy hr.2.2.2.2.2.2.2.2.1).1;unfold zrb at h
 cases hc:(((((!(zb a.Number 1 9999)) || (!(zac a.Name))) || (!(znd a.At))) || (!(zb a.Height 0 3000))) || (!(zfd a.Mark)))with
 | true=>rw[hc]at h;cases h
 | false=>
  rw[hc,cond_false]at h
  cases hp:zzc a.Light with
  | true=>
   have h1:=yfl _ hp;unfold zqb zhc;rw[h1];unfold zzc at hp;simp only[Bool.and_eq_true,beq_iff_eq]at hp;rw[hp.1.1.1.1];rfl
  | false=>
   rw[hp,cond_false]at h
   cases hd:(((!(zi a.Light)) || (!(zb a.Intensity 1 100000000))) || (!(zu a.Sectors)))with
   | true=>rw[hd]at h;cases h
   | false=>
    rw[hd,cond_false]at h;simp only[Bool.or_eq_false_iff,Bool.not_eq_false']at hd;have hk:=(yuz a.Light hl hd.1.1).2.2.1;unfold zqb zhc;have e4:zte a.Intensity=zb a.Intensity 1 100000000:=rfl;rw[yog _ hl,hd.1.1,e4,hd.1.2,yod _ (by omega),hd.2,ybg];simp only[Bool.not_true,Bool.or_self,cond_false];rw[h];symm
    rw[bne_iff_ne];omega
def aidL (v:Aid):Prop:=v.Light.Colors.length<9223372036854775808/\v.Sectors.length<9223372036854775807
def aidP (v:Aid):Prop:=aidL v/\aidB v
theorem yys {v:Aid} (h:bwAid v) (h2:y4r v):aidP v:=⟨⟨h.2.2.1.2.2,by have:=h2.2.2.2.1;omega⟩,⟨h2.2.2.1.1,h2.2.2.2.1⟩⟩
def zjb (a0:(List Int)) (a1:Int):Int:=
 (bif decide ((IntKind.wrap .i64 (a1-(a0.length:Int)))<0)then(-1)else IntKind.wrap .i64 (a1-(a0.length:Int)))
namespace N27
theorem DD:DOk Tryz.prog (Go.Ab.DD []):=ye _
theorem den (a0:(List Int)) (a1:Int)  : Den Tryz.prog 27 [encL 1 yq a0,.int .i64 a1] (.int .i64 (zjb a0 a1)):=by
 generalize hR:zjb a0 a1=r;unfold zjb at hR;refine di Tryz.func27 Tryz.ntmps27 Tryz.results27 ?_;intro c hL hc hk;obtain⟨hL0,hL1,_⟩:=hL;have hw0:a0.length<9223372036854775808:=Nat.lt_succ_of_le (yd hL0).1;clear hL0 hL1;simp only[pars,Nat.zero_add];iterate 3 refine rS ?_
 refine AWP.cond rfl (fun hb => ?_) (fun hb => ?_)
 ·replace hR:=ct hR
  refine rS ?_;refine AWP.ret ?_;subst hR;exact es
 ·replace hR:=cf hR
  refine rS ?_;refine AWP.ret ?_;subst hR;exact es
end N27
def D_zjb : DF
 | [x0,x1]=>some (.int .i64 (zjb (rdL ynb x0) (rdI x1)),false,[wL 1 yq ynb x0,wI .i64 x1])
 | _=>none
theorem y3v:OkD Tryz.prog 27 D_zjb:=by unfold D_zjb;exact dk N27.den
theorem yns (a:List Int) (n:Int) (h0 : -1<=n) (h1:n<=1048576) (hl:a.length<9223372036854775808) :
  -1<=zjb a n/\zjb a n<=n/\(¬ zjb a n<0->a.length<=1048576):=by
 unfold zjb;rw[show IntKind.wrap .i64 (n-(a.length:Int))=n-a.length from by rw[IntKind.wrap_i64];omega];by_cases c:n-(a.length:Int)<0
 ·rw[decide_eq_true c];exact⟨by simp,by simpa using h0,fun h=>absurd (by simp) h⟩
 ·rw[decide_eq_false c];simp only[cond_false];omega
def zkc (a0:Character) (a1:Int):Int:=
 (bif decide ((zjb a0.Group a1)<0)then(-1)else(bif decide ((IntKind.wrap .i64 ((zjb a0.Group a1)-(a0.Letter.length:Int)))<0)then(-1)else(bif decide ((IntKind.wrap .i64 ((IntKind.wrap .i64 ((zjb a0.Group a1)-(a0.Letter.length:Int)))-(a0.Colors.length:Int)))<0)then(-1)else IntKind.wrap .i64 ((IntKind.wrap .i64 ((zjb a0.Group a1)-(a0.Letter.length:Int)))-(a0.Colors.length:Int)))))
namespace N10
theorem DD:DOk Tryz.prog (Go.Ab.DD [(27,dP D_zjb)]):=ya y3v.e <| ye _
theorem dn:type_of% (@D_zjb.eq_1):=by and_intros<;>intros<;>rfl
theorem den (a0:Character) (a1:Int)  : Den Tryz.prog 10 [.agg (eCharacter a0),.int .i64 a1] (.int .i64 (zkc a0 a1)):=by
 generalize hR:zkc a0 a1=r;unfold zkc at hR;refine di Tryz.func10 Tryz.ntmps10 Tryz.results10 ?_;intro c hL hc hk;obtain⟨hL0,hL1,_⟩:=hL;have hw0:bwCharacter a0:=yj a0 hL0;clear hL0 hL1;simp only[pars,Nat.zero_add];iterate 3 refine rS ?_
 refine AWP.cond rfl (fun hb => ?_) (fun hb => ?_)
 ·replace hR:=ct hR
  refine rS ?_;refine AWP.ret ?_;subst hR;exact es
 ·replace hR:=cf hR
  iterate 2 refine rS ?_
  refine AWP.cond rfl (fun hb => ?_) (fun hb => ?_)
  ·replace hR:=ct hR
   refine rS ?_;refine AWP.ret ?_;subst hR;exact es
  ·replace hR:=cf hR
   iterate 2 refine rS ?_
   refine AWP.cond rfl (fun hb => ?_) (fun hb => ?_)
   ·replace hR:=ct hR
    refine rS ?_;refine AWP.ret ?_;subst hR;exact es
   ·replace hR:=cf hR
    refine rS ?_;refine AWP.ret ?_;subst hR;exact es
end N10
def D_zkc : DF
 | [x0,x1]=>some (.int .i64 (zkc (rdG yb x0) (rdI x1)),false,[wG eCharacter yb x0,wI .i64 x1])
 | _=>none
theorem y9t:OkD Tryz.prog 10 D_zkc:=by unfold D_zkc;exact dk N10.den
def zad (a0:Sector) (a1:Int):Int:=
 (bif decide ((IntKind.wrap .i64 (a1-(a0.Color.length:Int)))<0)then(-1)else IntKind.wrap .i64 (a1-(a0.Color.length:Int)))
namespace N28
theorem DD:DOk Tryz.prog (Go.Ab.DD []):=ye _
theorem den (a0:Sector) (a1:Int)  : Den Tryz.prog 28 [.agg (eSector a0),.int .i64 a1] (.int .i64 (zad a0 a1)):=by
 generalize hR:zad a0 a1=r;unfold zad at hR;refine di Tryz.func28 Tryz.ntmps28 Tryz.results28 ?_;intro c hL hc hk;obtain⟨hL0,hL1,_⟩:=hL;have hw0:bwSector a0:=yr a0 hL0;clear hL0 hL1;simp only[pars,Nat.zero_add];iterate 3 refine rS ?_
 refine AWP.cond rfl (fun hb => ?_) (fun hb => ?_)
 ·replace hR:=ct hR
  refine rS ?_;refine AWP.ret ?_;subst hR;exact es
 ·replace hR:=cf hR
  refine rS ?_;refine AWP.ret ?_;subst hR;exact es
end N28
def D_zad : DF
 | [x0,x1]=>some (.int .i64 (zad (rdG yp x0) (rdI x1)),false,[wG eSector yp x0,wI .i64 x1])
 | _=>none
theorem ymt:OkD Tryz.prog 28 D_zad:=by unfold D_zad;exact dk N28.den
theorem y9s (x:Sector) (n:Int) (h0 : -1<=n) (h1:n<=1048576) (hx:bwSector x) : -1<=zad x n/\zad x n<=n/\(¬ zad x n<0->y4e x):=by
 have b0:=hx;unfold zad;have b0':x.Color.length<9223372036854775808:=b0;rw[show IntKind.wrap .i64 (n-(x.Color.length:Int))=n-(x.Color.length:Int)from by rw[IntKind.wrap_i64];omega];by_cases c0:n-(x.Color.length:Int)<0
 ·rw[decide_eq_true c0];exact⟨by simp,by simpa using h0,fun h=>absurd (by simp) h⟩
 rw[decide_eq_false c0];simp only[cond_false];exact⟨by omega,by omega,fun _=>(show x.Color.length<=1048576 by omega)⟩
def y4g (a0:(List Sector)) (a1:Int) (i1:Nat) (s1:Int):Except (Int) (Int):=
 (bif decide ((zad (a0.getD i1 default) s1)<0)then .error (-1)else .ok (zad (a0.getD i1 default) s1))
def zkb (a0:(List Sector)) (a1:Int):Int:=
 (bif decide ((IntKind.wrap .i64 (a1-(a0.length:Int)))<0)then(-1)else(match yf (y4g a0 a1) (a0.length-0) 0 (IntKind.wrap .i64 (a1-(a0.length:Int)))with|.error e=>e|.ok s1=>s1))
namespace N11
theorem DD:DOk Tryz.prog (Go.Ab.DD [(28,dP D_zad)]):=ya ymt.e <| ye _
theorem dn:type_of% (@D_zad.eq_1):=by and_intros<;>intros<;>rfl
theorem den (a0:(List Sector)) (a1:Int)  : Den Tryz.prog 11 [encL 3 eSector a0,.int .i64 a1] (.int .i64 (zkb a0 a1)):=by
 generalize hR:zkb a0 a1=r;unfold zkb at hR;refine di Tryz.func11 Tryz.ntmps11 Tryz.results11 ?_;intro c hL hc hk;obtain⟨hL0,hL1,_⟩:=hL;have hw0:a0.length<9223372036854775808:=Nat.lt_succ_of_le (yd hL0).1;have hw1:∀ v∈a0,bwSector v:=fun v hv=>yr v ((yd hL0).2 v hv)
 clear hL0 hL1;simp only[pars,Nat.zero_add];iterate 3 refine rS ?_
 refine AWP.cond rfl (fun hb => ?_) (fun hb => ?_)
 ·replace hR:=ct hR
  refine rS ?_;refine AWP.ret ?_;subst hR;exact es
 ·replace hR:=cf hR
  refine rS ?_;refine AWP.block ?_;generalize hz1:yf (y4g a0 a1) (a0.length-0) 0 (IntKind.wrap .i64 (a1-(a0.length:Int)))=z1 at hR;refine AWP.range (y4g a0 a1) (fun i1 s1=>⟨[(0,encL 3 eSector a0),(1,.int .i64 s1),(5,.int .i64 (i1:Int))],[]⟩) (fun i1 s1=>True) (a0.length) 0 (IntKind.wrap .i64 (a1-(a0.length:Int))) [] hz1 ot wt sm ?_;clear hz1;intro i1 s1 hi1 hW1 hz1;refine rS ?_;refine AWP.cond rfl (fun hb => ?_) (fun hb => ?_)
  ·have hlt1:i1<a0.length:=ot
   rw[yg hlt1]at hz1;simp only[y4g]at hz1;iterate 2 refine rS ?_
   refine AWP.cond rfl (fun hb => ?_) (fun hb => ?_)
   ·simp only[hb,cond_true]at hz1
    refine rS ?_;refine AWP.ret ?_;subst hz1;dsimp only at hR;subst hR;exact es
   ·simp only[hb,cond_false]at hz1
    refine rS ?_;exact⟨_,[],hlt1,wt,hz1,sm⟩
  ·obtain rfl:i1=a0.length:=ot
   rw[yh (Nat.le_refl _)]at hz1;subst hz1;dsimp only at hR;refine AWP.exit ?_;refine yc ?_;refine rS ?_;refine AWP.ret ?_;subst hR;exact es
end N11
def D_zkb : DF
 | [x0,x1]=>some (.int .i64 (zkb (rdL yp x0) (rdI x1)),false,[wL 3 eSector yp x0,wI .i64 x1])
 | _=>none
theorem yau:OkD Tryz.prog 11 D_zkb:=by unfold D_zkb;exact dk N11.den
def zvb (a0:Mark) (a1:Int):Int:=
 (bif decide ((IntKind.wrap .i64 (a1-(a0.Colors.length:Int)))<0)then(-1)else(bif decide ((IntKind.wrap .i64 ((IntKind.wrap .i64 (a1-(a0.Colors.length:Int)))-(a0.Shape.length:Int)))<0)then(-1)else(bif decide ((IntKind.wrap .i64 ((IntKind.wrap .i64 ((IntKind.wrap .i64 (a1-(a0.Colors.length:Int)))-(a0.Shape.length:Int)))-(a0.Topmark.length:Int)))<0)then(-1)else IntKind.wrap .i64 ((IntKind.wrap .i64 ((IntKind.wrap .i64 (a1-(a0.Colors.length:Int)))-(a0.Shape.length:Int)))-(a0.Topmark.length:Int)))))
namespace N9
theorem DD:DOk Tryz.prog (Go.Ab.DD []):=ye _
theorem den (a0:Mark) (a1:Int)  : Den Tryz.prog 9 [.agg (eMark a0),.int .i64 a1] (.int .i64 (zvb a0 a1)):=by
 generalize hR:zvb a0 a1=r;unfold zvb at hR;refine di Tryz.func9 Tryz.ntmps9 Tryz.results9 ?_;intro c hL hc hk;obtain⟨hL0,hL1,_⟩:=hL;have hw0:bwMark a0:=yec a0 hL0;clear hL0 hL1;simp only[pars,Nat.zero_add];iterate 3 refine rS ?_
 refine AWP.cond rfl (fun hb => ?_) (fun hb => ?_)
 ·replace hR:=ct hR
  refine rS ?_;refine AWP.ret ?_;subst hR;exact es
 ·replace hR:=cf hR
  iterate 2 refine rS ?_
  refine AWP.cond rfl (fun hb => ?_) (fun hb => ?_)
  ·replace hR:=ct hR
   refine rS ?_;refine AWP.ret ?_;subst hR;exact es
  ·replace hR:=cf hR
   iterate 2 refine rS ?_
   refine AWP.cond rfl (fun hb => ?_) (fun hb => ?_)
   ·replace hR:=ct hR
    refine rS ?_;refine AWP.ret ?_;subst hR;exact es
   ·replace hR:=cf hR
    refine rS ?_;refine AWP.ret ?_;subst hR;exact es
end N9
def D_zvb : DF
 | [x0,x1]=>some (.int .i64 (zvb (rdG yzd x0) (rdI x1)),false,[wG eMark yzd x0,wI .i64 x1])
 | _=>none
theorem yxv:OkD Tryz.prog 9 D_zvb:=by unfold D_zvb;exact dk N9.den
theorem yqs (x:Character) (n:Int) (h0 : -1<=n) (h1:n<=1048576) (hx:bwCharacter x) : -1<=zkc x n/\zkc x n<=n/\(¬ zkc x n<0->yme x):=by
 obtain⟨b0,b1,b2⟩:=hx;unfold zkc;have f0:=yns x.Group (n) (by omega) (by omega) b0;by_cases c0:zjb x.Group (n)<0
 ·rw[decide_eq_true c0];exact⟨by simp,by simpa using h0,fun h=>absurd (by simp) h⟩
 rw[decide_eq_false c0];simp only[cond_false];have b1':x.Letter.length<9223372036854775808:=b1;rw[show IntKind.wrap .i64 (zjb x.Group (n)-(x.Letter.length:Int))=zjb x.Group (n)-(x.Letter.length:Int)from by rw[IntKind.wrap_i64];omega];by_cases c1:zjb x.Group (n)-(x.Letter.length:Int)<0
 ·rw[decide_eq_true c1];exact⟨by simp,by simpa using h0,fun h=>absurd (by simp) h⟩
 rw[decide_eq_false c1];simp only[cond_false];have b2':x.Colors.length<9223372036854775808:=b2;rw[show IntKind.wrap .i64 (zjb x.Group (n)-(x.Letter.length:Int)-(x.Colors.length:Int))=zjb x.Group (n)-(x.Letter.length:Int)-(x.Colors.length:Int)from by rw[IntKind.wrap_i64];omega];by_cases c2:zjb x.Group (n)-(x.Letter.length:Int)-(x.Colors.length:Int)<0
 ·rw[decide_eq_true c2];exact⟨by simp,by simpa using h0,fun h=>absurd (by simp) h⟩
 rw[decide_eq_false c2];simp only[cond_false];exact⟨by omega,by omega,fun _=>⟨f0.2.2 c0,by omega,by omega⟩⟩
end Go.Ab
