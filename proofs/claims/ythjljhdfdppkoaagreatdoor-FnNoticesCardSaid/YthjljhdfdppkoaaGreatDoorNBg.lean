/- A part of a proof: walks of functions and lemmas of our own. No conditions. -/
import Derived.Test.YthjljhdfdppkoaaGreatDoorNBb
import Derived.Test.YthjljhdfdppkoaaGreatDoorNBf
import Derived.Test.YthjljhdfdppkoaaGreatDoorNAw
import Derived.Test.YthjljhdfdppkoaaGreatDoorNAr
import Derived.Test.YthjljhdfdppkoaaGreatDoorNAt
import Derived.Test.YthjljhdfdppkoaaGreatDoorNAq
import Derived.Test.YthjljhdfdppkoaaGreatDoorNBe
import Derived.Test.YthjljhdfdppkoaaGreatDoorNAu
import Derived.Test.YthjljhdfdppkoaaGreatDoorNAv
set_option linter.unusedSectionVars false
set_option linter.unusedVariables false
set_option linter.unusedSimpArgs false
set_option maxHeartbeats 1000000
namespace Go.Ab
open Go Go.Proofs
theorem ybab {l:List Notice} {n:Notice} {k:Nat} (h:k<l.length):(l++[n]).getD k default=l.getD k default:=by
 rw[List.getD_eq_getElem?_getD,List.getElem?_append_left h, <- List.getD_eq_getElem?_getD]
theorem y0p {l:List Notice} {n:Notice}:(l++[n]).getD l.length default=n:=by
 rw[List.getD_eq_getElem?_getD,List.getElem?_append_right (Nat.le_refl _)];simp
theorem y61 {l:List Notice} {m:Notice} (h:m∈l):∃ j,j<l.length/\l.getD j default=m:=by
 obtain⟨j,hj,e⟩:=List.getElem_of_mem h;exact⟨j,hj,by rw[List.getD_eq_getElem?_getD,List.getElem?_eq_getElem hj,e];rfl⟩
theorem yu8 {l:List Notice} {k:Int} (h:zkb l=true) (h2:0<l.length->(l.getD (l.length-1) default).Number<k):∀ m∈l,m.Number<k:=by
 have hc:=((y0f l).1 h).1
 have step:∀ j,0<j->j<l.length->(l.getD (j-1) default).Number<(l.getD j default).Number:=fun j h0 hj=>by
  have:=hc j hj;unfold y3y at this;have hl:=((y0f l).1 h).2;have hw:(IntKind.wrap .i64 ((j:Int)-1)).toNat=j-1:=by rw[IntKind.wrap_i64];omega
  rw[hw,decide_eq_true (show(0:Int)<(j:Int)by omega),Bool.true_and]at this;simp only[Bool.or_eq_false_iff,decide_eq_false_iff_not]at this;omega
 have all:∀ d j,j+d+1=l.length->(l.getD j default).Number<=(l.getD (l.length-1) default).Number:=by
  intro d
  induction d with
  | zero=>intro j hj;rw[show l.length-1=j by omega];exact Int.le_refl _
  | succ d ih=>
   intro j hj;have:=ih (j+1) (by omega);have:=step (j+1) (by omega) (by omega);simp only[Nat.add_sub_cancel]at this;omega
 intro m hm;obtain⟨j,hj,e⟩:=y61 hm;have:=all (l.length-1-j) j (by omega);have:=h2 (by omega);rw[<- e];omega
theorem yhbb {l:List Notice} {k:Int} (h:zkb l=true) (hk:∀ m∈l,m.Number<k):∀ m∈l,m.Kind=4->m.Target<k:=by
 intro m hm h4;obtain⟨j,hj,e⟩:=y61 hm;have:=((y0f l).1 h).1 j hj;unfold y3y at this;rw[e]at this;simp only[Bool.or_eq_false_iff,Bool.not_eq_false']at this;have hc:=this.2;unfold zsb at hc;rw[show(m.Kind != 4)=false by rw[h4];rfl,cond_false]at hc;rcases yvb (b:=yuj (subL l 0 j) m) (fun q=>((subL l 0 j).getD q default).Number == m.Target) (fun q=>(((((subL l 0 j).getD q default).Kind) != 4) && (!(zlc (subL l 0 j) m.Target 99999)))) (k:=(subL l 0 j).length-0) (i:=0) (s:=()) (fun q u _ _=>rfl)with⟨q,_,g2,g3,_,_⟩|⟨_,g2⟩
 ·rw[y2e l j (by omega)]at g2 g3
  have hq:q<(l.take j).length:=by omega
  have hmem:(l.take j).getD q default∈l:=List.mem_of_mem_take (ybx hq);rw[beq_iff_eq]at g3;rw[<- g3];exact hk _ hmem
 ·rw[g2]at hc;cases hc
theorem yky {l:List Notice} {n:Notice} {k d:Int} (hn:n.Kind≠4) (ht:∀ m∈l,m.Kind=4->m.Target<k):zlc (l++[n]) k d=false:=by
 rw[yoc,List.any_eq_false];intro m hm;rcases List.mem_append.1 hm with h|h
 ·by_cases h4:m.Kind=4
  ·have:=ht m h h4
   have e:(m.Target == k)=false:=by rw[beq_eq_false_iff_ne];omega
   rw[e];simp
  ·have e:(m.Kind == 4)=false:=by rw[beq_eq_false_iff_ne];exact h4
   rw[e];simp
 ·rw[List.mem_singleton]at h;subst h
  have e:(m.Kind == 4)=false:=by rw[beq_eq_false_iff_ne];exact hn
  rw[e];simp
theorem y6s {l:List Notice} {n c:Notice} (hn:n.Kind≠4) (hc:c.Kind=4) (ht:c.Target=n.Number) (h1:∀ m∈l,m.Number<n.Number) (h2:∀ m∈l,m.Kind=4->m.Target<n.Number):zsb (l++[n]) c=true:=by
 unfold zsb;rw[show(c.Kind != 4)=false by rw[hc];rfl,cond_false];rcases yvb (b:=yuj (l++[n]) c) (fun q=>((l++[n]).getD q default).Number == c.Target) (fun q=>(((((l++[n]).getD q default).Kind) != 4) && (!(zlc (l++[n]) c.Target 99999)))) (k:=(l++[n]).length-0) (i:=0) (s:=()) (fun q u _ _=>rfl)with⟨q,_,g2,g3,_,g5⟩|⟨g1,_⟩
 ·rw[List.length_append,List.length_singleton]at g2
  have hq:q=l.length:=by
   by_cases hq:q<l.length
   ·rw[ybab hq,ht,beq_iff_eq]at g3
    have:=h1 _ (ybx hq);omega
   ·omega
  subst hq;rw[g5,y0p,ht,yky hn h2];simp[hn]
 ·have:=g1 l.length (Nat.zero_le _) (by rw[List.length_append,List.length_singleton];omega)
  rw[y0p,ht]at this;simp at this
theorem yj9 {l:List Notice} {n:Notice} (h:zkb l=true) (h1:zib n=true) (h2:0<l.length->(l.getD (l.length-1) default).Number<n.Number/\(l.getD (l.length-1) default).Day<=n.Day) (h3:zsb l n=true) (h4:l.length<32):znc l n=(l++[n],0):=by
 unfold znc;rw[h,h1,h3]
 have e:(decide (0<(l.length:Int)) && (decide (n.Number<=((l.getD ((IntKind.wrap .i64 ((l.length:Int)-1)).toNat) default).Number)) || decide (n.Day<((l.getD ((IntKind.wrap .i64 ((l.length:Int)-1)).toNat) default).Day))))=false:=by
  by_cases h0:0<l.length
  ·obtain⟨q1,q2⟩:=h2 h0
   have hw:(IntKind.wrap .i64 ((l.length:Int)-1)).toNat=l.length-1:=by rw[IntKind.wrap_i64];omega
   rw[hw,decide_eq_false (show ¬ n.Number<=(l.getD (l.length-1) default).Number by omega),decide_eq_false (show ¬ n.Day<(l.getD (l.length-1) default).Day by omega)];simp
  ·rw[decide_eq_false (show ¬ (0:Int)<(l.length:Int)by omega)]
   simp
 rw[e,show((l.length:Int) == 32)=false by rw[beq_eq_false_iff_ne];omega];simp only[ywe,yvh];rfl
theorem yx2 {l:List Notice} {n c:Notice} (hn:n.Kind≠4) (hc:c.Kind=4) (ht:c.Target=n.Number) (hd:c.Day<=99999) (h1:∀ m∈l,m.Number<n.Number):zq ((l++[n])++[c]) 99999=zq l 99999:=by
 rw[y2n,y2n,List.filter_append,List.filter_append]
 have e1:[c].filter (inF ((l++[n])++[c]) 99999)=[]:=by
  rw[List.filter_eq_nil_iff];intro m hm;rw[List.mem_singleton]at hm;subst hm;unfold inF;rw[hc];simp
 have e2:[n].filter (inF ((l++[n])++[c]) 99999)=[]:=by
  rw[List.filter_eq_nil_iff];intro m hm;rw[List.mem_singleton]at hm;subst hm
  have:zlc ((l++[m])++[c]) m.Number 99999=true:=by
   rw[yoc,List.any_eq_true];exact⟨c,by simp,by rw[hc,ht,decide_eq_true hd];simp⟩
  unfold inF;rw[this];simp
 rw[e1,e2,List.append_nil,List.append_nil];refine List.filter_congr fun m hm => ?_
 have hlt:=h1 m hm
 have:zlc ((l++[n])++[c]) m.Number 99999=zlc l m.Number 99999:=by
  rw[yoc,yoc,List.any_append,List.any_append];have k1:(n.Kind == 4)=false:=by rw[beq_eq_false_iff_ne];exact hn
  have k2:(c.Target == m.Number)=false:=by rw[beq_eq_false_iff_ne];omega
  simp[k1,k2]
 unfold inF;rw[this]
theorem y2y (l:List Int):zif l l=true:=by
 unfold zif;have h0:((l.length:Int) != (l.length:Int))=false:=by simp
 rw[h0,cond_false]
 have:∀ k i,yh (y2m l l) k i ()=.ok ():=by
  intro k
  induction k with
  | zero=>intro i;rfl
  | succ k ih=>intro i;simp only[yh,y2m,bne_self_eq_false,cond_false];exact ih (i+1)
 rw[this]
theorem yjz (n:Notice):zjh [n] [n]=true:=by
 unfold zjh zvf;have:zih n n=true:=by unfold zih;rw[y6f];simp
 simp only[List.length_cons,List.length_nil,yh,yyq,List.getD_cons_zero,this];rfl
theorem nt_j {a0 a1:List Int} {A:List Aid} {l:List Notice} {n:Notice} (hA:okP AidQ A) (hN:NtsP l) (hl:l.length<=5) (hq:AidQ n.Aid) (hd:100<=n.Day):zdi a0 a1 A l n ()=true:=by
 unfold zdi;simp only[bnd];rw[yyf l n (fun m h=>(hN.q m h).l) hq.l];rcases y5i l n with⟨h1,h2⟩|⟨h1,h2,h3,h4,h5,h6⟩
 ·rw[h1,show((znc l n).2 != 0)=true by simpa using h2]
  simp
 rw[h1]
 cases hk:(n.Kind == 4)with
 | true=>simp
 | false=>
 rw[beq_eq_false_iff_ne]at hk;have hD2:=yio h3;obtain⟨n1,n2,d1,d2,_⟩:=ylo h3
 have hN2:NtsP (l++[n]):=⟨ydj h2 h3 h4 h5 h6,fun v hv=>by
  rcases List.mem_append.1 hv with h|h
  ·exact hN.q v h
  ·rw[List.mem_singleton]at h;subst h;exact hq,fun v hv=>by
  rcases List.mem_append.1 hv with h|h
  ·exact hN.d v h
  ·rw[List.mem_singleton]at h;subst h;exact⟨hd,hD2⟩⟩
 have hlast:(l++[n]).getD ((IntKind.wrap .i64 (((l++[n]).length:Int)-1)).toNat) default=n:=by
  have hw:(IntKind.wrap .i64 (((l++[n]).length:Int)-1)).toNat=l.length:=by rw[List.length_append,List.length_singleton,IntKind.wrap_i64];omega
  rw[hw,y0p]
 have hw:IntKind.wrap .i64 (n.Number+1)=n.Number+1:=by rw[IntKind.wrap_i64];omega
 have hX:zjg (l++[n])=bif (!(zgd (n.Number+1)))then(0,6)else(n.Number+1,0):=by
  unfold zjg;rw[hlast,hw,yqd _ (fun m h=>(hN2.q m h).l),hN2.ok,show(((l++[n]).length:Int) == 0)=false by rw[beq_eq_false_iff_ne,List.length_append,List.length_singleton];omega];rfl
 rw[hX]
 cases hi:zgd (n.Number+1)with
 | false=>rfl
 | true=>
 have hi2:n.Number+1<=9999:=by
  unfold zgd ze at hi;simp only[Bool.and_eq_true,decide_eq_true_eq]at hi;exact hi.2
 simp only[Bool.not_true,cond_false];generalize hc:({ Number:=n.Number+1,Day:=n.Day,Kind:=4,Target:=n.Number,Aid:={ Number:=0,Name:=[],At:={ X:=0,Y:=0:Point },Height:=0,Mark:={ Kind:=0,Colors:=[],Shape:=[],Topmark:=[]:Mark },Light:={ Kind:=0,Group:=[],Letter:=[],Colors:=[],Period:=0:Character },Sectors:=[],Intensity:=0:Aid }:Notice })=c;have c1:c.Number=n.Number+1:=by rw[<- hc]
 have c2:c.Day=n.Day:=by rw[<- hc]
 have c3:c.Kind=4:=by rw[<- hc]
 have c4:c.Target=n.Number:=by rw[<- hc]
 have c5:AidQ c.Aid:=by rw[<- hc];exact yp8
 have c6:zib c=true:=by
  rw[<- hc];unfold zib zuf zg;simp only[decide_eq_true (show 1<=n.Number+1 by omega),decide_eq_true hi2,decide_eq_true d1,decide_eq_true d2,decide_eq_true n1,decide_eq_true n2,y6f];rfl
 have b1:=yu8 (k:=n.Number) h2 (fun h=>(h4 h).1);have b2:=yhbb h2 b1;have hlen:(l++[n]).length=l.length+1:=by rw[List.length_append,List.length_singleton]
 have h7:zsb (l++[n]) c=true:=y6s hk c3 c4 b1 b2
 have h8:0<(l++[n]).length->((l++[n]).getD ((l++[n]).length-1) default).Number<c.Number/\((l++[n]).getD ((l++[n]).length-1) default).Day<=c.Day:=fun _=>by
  rw[hlen,Nat.add_sub_cancel,y0p,c1,c2];exact⟨by omega,Int.le_refl _⟩
 have hS:=yj9 hN2.ok c6 h8 h7 (by omega);rw[yyf (l++[n]) c (fun m h=>(hN2.q m h).l) c5.l,hS]
 have hN3:NtsP ((l++[n])++[c]):=⟨ydj hN2.ok c6 h8 h7 (by omega),fun v hv=>by
  rcases List.mem_append.1 hv with h|h
  ·exact hN2.q v h
  ·rw[List.mem_singleton]at h;subst h;exact c5,fun v hv=>by
  rcases List.mem_append.1 hv with h|h
  ·exact hN2.d v h
  ·rw[List.mem_singleton]at h;subst h;rw[c2];exact⟨hd,hD2⟩⟩
 have hF:zq ((l++[n])++[c]) 99999=zq l 99999:=yx2 hk c3 c4 (by omega) b1
 have hB:yfl A ((l++[n])++[c]) 99999=yfl A l 99999:=by
  funext i s
  unfold yfl;rw[hF]
 have hC:zcd A ((l++[n])++[c]) 99999=zcd A l 99999:=by
  unfold zcd;rw[hB,hF]
 have hL:zue A ((l++[n])++[c]) 99999=zue A l 99999:=by
  unfold zue;rw[yl2 hA hN (by omega) (by omega),yl2 hA hN3 (by omega) (by omega),hC]
 have f1:=ywn hN (d:=99999) (by omega) (by omega);have f2:=ywn hN3 (d:=99999) (by omega) (by omega);rw[hF]at f2;simp only[hL,f1,f2,yhz,y2y,hw];simp
theorem y5p (a0 a1:List Int) (hp0:∀ v∈a0,0<=v/\v<=255) (hp1:∀ v∈a1,0<=v/\v<=255):zci a0 a1=true:=by
 unfold zci
 cases zsh a0 a1 with
 | true=>rfl
 | false=>
 rw[cond_false];simp only[bnd];obtain⟨hA,hA5⟩:=y3x a0 hp0;obtain⟨hN,hN5⟩:=yh2 a1 (znf a0) hp1;obtain⟨hq,hb,hd⟩:=ya8 (znf a0) hp0 hN hN5;rw[nt_j hA hN hN5 hq hd]
 cases hv:zth (zig a0 (zrg a1 (znf a0)) (znf a0))with
 | false=>rfl
 | true=>
  rw[ybu hv hq.l,cond_true];simp only[yjz];rfl
end Go.Ab
