/- A part of a proof: walks of functions and lemmas of our own. No conditions. -/
import Derived.Test.YtijmcongeemehaaGreatDoorFBg
import Derived.Test.YtijmcongeemehaaGreatDoorFAq
import Derived.Test.YtijmcongeemehaaGreatDoorFAv
import Derived.Test.YtijmcongeemehaaGreatDoorFAw
import Derived.Test.YtijmcongeemehaaGreatDoorFBf
import Derived.Test.YtijmcongeemehaaGreatDoorFAx
import Derived.Test.YtijmcongeemehaaGreatDoorFAy
import Derived.Test.YtijmcongeemehaaGreatDoorFBd
import Derived.Test.YtijmcongeemehaaGreatDoorFAl
import Derived.Test.YtijmcongeemehaaGreatDoorFAi
import Derived.Test.YtijmcongeemehaaGreatDoorFAp
import Derived.Test.YtijmcongeemehaaGreatDoorFBe
import Derived.Test.YtijmcongeemehaaGreatDoorFAt
import Derived.Test.YtijmcongeemehaaGreatDoorFAr
import Derived.Test.YtijmcongeemehaaGreatDoorFAs
set_option linter.unusedSectionVars false
set_option linter.unusedVariables false
set_option linter.unusedSimpArgs false
set_option maxHeartbeats 1000000
namespace Go.Ab
open Go Go.Proofs
theorem y58 (a:List UInt8):yx8 a=parB:=rfl
theorem y66 (a:List UInt8):ys7 a=parB:=rfl
def lfl (a:List UInt8):Bool:=(decide (4<(a.length:Int)) && (((a.take a.length).drop ((IntKind.wrap .i64 ((a.length:Int)-4)).toNat)) == [43,76,70,108]))
theorem y3n (a:List UInt8):(decide (4<(a.length:Int)) && (((a.take a.length).drop ((IntKind.wrap .i64 ((a.length:Int)-4)).toNat)) == [43,76,70,108]))=lfl a:=rfl
theorem yz5 (X:List UInt8) (hX:X≠[]) (hl:X.length<=1048576):lfl (X++[43,76,70,108])=true/\(X++[43,76,70,108]).take ((IntKind.wrap .i64 (((X++[43,76,70,108]).length:Int)-4)).toNat)=X:=by
 have hp:0<X.length:=List.length_pos_iff.2 hX
 have hw:(IntKind.wrap .i64 (((X++[43,76,70,108]).length:Int)-4)).toNat=X.length:=by
  simp only[List.length_append,List.length_cons,List.length_nil];rw[IntKind.wrap_i64];omega
 unfold lfl;rw[hw,List.take_length,List.drop_left' rfl,List.take_left' rfl];refine⟨?_,rfl⟩;rw[decide_eq_true (by simp only[List.length_append,List.length_cons,List.length_nil];omega)];rfl
theorem y94 (X:List UInt8) (hl:X.length<=1048576):lfl (X++[41])=false:=by
 unfold lfl;by_cases h4:4<(((X++[41]).length:Int))
 ·rw[decide_eq_true h4,List.take_length,Bool.true_and,beq_eq_false_iff_ne]
  intro h
  have h2:(X++[41])=((X++[41]).take ((IntKind.wrap .i64 (((X++[41]).length:Int)-4)).toNat)++[43,76,70])++[108]:=by
   conv=>lhs;rw[<- List.take_append_drop ((IntKind.wrap .i64 (((X++[41]).length:Int)-4)).toNat) (X++[41]),h]
   simp
  have:=congrArg List.getLast? h2;rw[List.getLast?_append,List.getLast?_append]at this;simp at this
 ·rw[decide_eq_false h4];rfl
theorem y17 (k:Int) (h:1<=k/\k<=8):lfl (kt k)=false:=by
 rcases(show k=1\/k=2\/k=3\/k=4\/k=5\/k=6\/k=7\/k=8 by omega)with h|h|h|h|h|h|h|h<;>subst h<;>rfl
theorem y44 (k:Int) (h:1<=k/\k<=8):(kt k).length<=3/\kt k≠[]:=by
 rcases(show k=1\/k=2\/k=3\/k=4\/k=5\/k=6\/k=7\/k=8 by omega)with h|h|h|h|h|h|h|h<;>subst h<;>exact⟨by decide,by decide⟩
theorem ycp (g:List Int) (h1:g.length<=4) (h2:∀ v∈g,1<=v/\v<=9):(Lib.join (g.map Lib.itoa) [43]).length<=100:=by
 have:=yrh [43] (g.map Lib.itoa) 20 (fun x hx=>by
  obtain⟨z,hz,rfl⟩:=List.mem_map.1 hx;have:=h2 z hz
  exact ysf z (by omega) (by omega))
 simp only[List.length_map,List.length_singleton]at this;omega
theorem y2w (c:Character) (h:zqb c=true):(ybd c).length<=200:=by
 have hk:=y8c c h;obtain⟨g1,g2⟩:=y7c c h;have:=(y44 c.Kind hk).1;have hj:=ycp _ g1 g2;unfold ybd;by_cases h8:c.Kind=8
 ·rw[if_pos h8]
  have:=(y0j c h h8).2.1;have:(kt 8).length=2:=rfl;simp only[List.length_append,List.length_cons,List.length_nil];omega
 ·rw[if_neg h8]
  have hg:(grpT c.Group).length<=102:=by
   unfold grpT;split
   ·simp
   ·simp only[List.length_append,List.length_cons,List.length_nil];omega
  have hL:(if c.Letter=[]then([]:List UInt8)else[43,76,70,108]).length<=4:=by split<;>simp
  rw[List.length_append,List.length_append];omega
theorem y8x (c:Character) (h:zqb c=true):zz (ybd c)=({ Kind:=c.Kind,Group:=c.Group,Letter:=c.Letter,Colors:=[],Period:=0:Character },true):=by
 have hk:=y8c c h;obtain⟨g1,g2⟩:=y7c c h;have h40:=(y16 c.Kind hk).1;have hkl:=y44 c.Kind hk;have hjl:=ycp _ g1 g2;have hkp:decide (0<c.Kind)=true:=decide_eq_true (by omega);have hlen:=y2w c h;unfold ybd at hlen ⊢;by_cases h8:c.Kind=8
 ·obtain⟨f1,f2⟩:=y0j c h h8
  rw[if_pos h8]at hlen ⊢;rw[f1,h8];have eH:kt 8++40::(c.Letter++[41])=(kt 8++40::c.Letter)++[41]:=by simp
  have n1:lfl (kt 8++40::(c.Letter++[41]))=false:=by
   rw[eH];exact y94 _ (by simp only[List.length_append,List.length_cons,List.length_nil]at hlen ⊢;omega)
  have hw:=ysh (kt 8) c.Letter (by decide) (by omega) 2 0 ((((kt 8++40::(c.Letter++[41])).length:Int)-0).toNat+1) rfl (by simp only[List.length_append,List.length_cons,List.length_nil];omega);have hks:∀ s:List UInt8×Int,yf (yv3 (kt 8++40::(c.Letter++[41])) (kt 8,s)) (((zxf ).length)-1) 1 0=.ok 8:=fun s=>yfo 8 (by omega) _ (fun i t=>rfl)
  unfold zz;rw[y3n,n1,y66];simp only[cond_false];rw[show((kt 8++40::(c.Letter++[41]),([]:List UInt8),(0:Int)))=(kt 8++40::(c.Letter++[41]),[],((0:Nat):Int))from rfl,hw];simp only[hks];rfl
 ·have e8:(c.Kind == 8)=false:=by rw[beq_eq_false_iff_ne];exact h8
  rw[if_neg h8]at hlen ⊢;by_cases hL:c.Letter=[]
  ·rw[if_pos hL,List.append_nil]at hlen ⊢
   rw[hL];by_cases hg:c.Group=[]
   ·have eg:grpT c.Group=[]:=by rw[hg];rfl
    rw[eg,List.append_nil,hg];have hw:=yeu (kt c.Kind) h40 (by omega) (kt c.Kind).length 0 ((((kt c.Kind).length:Int)-0).toNat+1) (by omega) (by omega);have hks:∀ s:List UInt8×Int,yf (yv3 (kt c.Kind) (kt c.Kind,s)) (((zxf ).length)-1) 1 0=.ok c.Kind:=fun s=>yfo c.Kind hk _ (fun i t=>rfl)
    unfold zz;rw[y3n,y17 _ hk,y66];simp only[cond_false];rw[show((kt c.Kind,([]:List UInt8),(0:Int)))=(kt c.Kind,[],((0:Nat):Int))from rfl,hw];simp only[hks,e8,cond_false];rw[hkp];rfl
   ·have eg:grpT c.Group=40::(Lib.join (c.Group.map Lib.itoa) [43]++[41]):=by unfold grpT;rw[if_neg hg]
    rw[eg]at hlen ⊢
    have hsp:ze (Lib.join (c.Group.map Lib.itoa) [43]) 43=c.Group.map Lib.itoa:=by
     rw[show ze (Lib.join (c.Group.map Lib.itoa) [43]) 43=ym 43 (Lib.join (c.Group.map Lib.itoa) [43])from yft _ 43 (by omega)];exact y4d _ hg g2
    have hJ0:(Lib.join (c.Group.map Lib.itoa) [43] == [])=false:=by
     rw[beq_eq_false_iff_ne];intro h0;have:=y4d _ hg g2;rw[h0]at this
     cases hgg:c.Group with
     | nil=>exact hg hgg
     | cons x r=>
      rw[hgg]at this;simp only[ym,List.map_cons,List.cons.injEq]at this;exact(y5j x).2 this.1.symm
    generalize hJ:Lib.join (c.Group.map Lib.itoa) [43]=J at *;have eH:kt c.Kind++40::(J++[41])=(kt c.Kind++40::J)++[41]:=by simp
    have n1:lfl (kt c.Kind++40::(J++[41]))=false:=by
     rw[eH];exact y94 _ (by simp only[List.length_append,List.length_cons,List.length_nil]at hlen ⊢;omega)
    have hw:=ysh (kt c.Kind) J h40 (by omega) (kt c.Kind).length 0 ((((kt c.Kind++40::(J++[41])).length:Int)-0).toNat+1) (by omega) (by simp only[List.length_append,List.length_cons,List.length_nil];omega);have hks:∀ s:List UInt8×Int,yf (yv3 (kt c.Kind++40::(J++[41])) (kt c.Kind,s)) (((zxf ).length)-1) 1 0=.ok c.Kind:=fun s=>yfo c.Kind hk _ (fun i t=>rfl)
    have hgs:∀ (p:List UInt8) (q k:Int),yf (yo5 (kt c.Kind++40::(J++[41])) (p,J,q) k) ((c.Group.map Lib.itoa).length-0) 0 []=.ok c.Group:=fun p q k=>yh7 c.Group g2 (fun i t=>({ Kind:=k,Group:=t,Letter:=[],Colors:=[],Period:=0:Character },false)) _ (fun i t=>by unfold yo5;simp only;rw[hsp])
    unfold zz;rw[y3n,n1,y66];simp only[cond_false];rw[show((kt c.Kind++40::(J++[41]),([]:List UInt8),(0:Int)))=(kt c.Kind++40::(J++[41]),[],((0:Nat):Int))from rfl,hw];simp only[hks,e8,cond_false,hJ0,hsp,hgs,hkp]
  ·obtain⟨l1,l2⟩:=y1x c h h8 hL
   rw[if_neg hL]at hlen ⊢;have hg:c.Group≠[]:=by rw[l2];simp
   have eg:grpT c.Group=40::(Lib.join (c.Group.map Lib.itoa) [43]++[41]):=by unfold grpT;rw[if_neg hg]
   rw[eg]at hlen ⊢
   have hsp:ze (Lib.join (c.Group.map Lib.itoa) [43]) 43=c.Group.map Lib.itoa:=by
    rw[show ze (Lib.join (c.Group.map Lib.itoa) [43]) 43=ym 43 (Lib.join (c.Group.map Lib.itoa) [43])from yft _ 43 (by omega)];exact y4d _ hg g2
   have hJ0:(Lib.join (c.Group.map Lib.itoa) [43] == [])=false:=by
    rw[beq_eq_false_iff_ne];intro h0;have:=y4d _ hg g2;rw[h0,l2]at this;simp only[ym,List.map_cons,List.cons.injEq]at this;exact(y5j 6).2 this.1.symm
   generalize hJ:Lib.join (c.Group.map Lib.itoa) [43]=J at *;have eH:kt c.Kind++(40::(J++[41])++[43,76,70,108])=(kt c.Kind++40::(J++[41]))++[43,76,70,108]:=by simp
   rw[eH]at hlen ⊢;rw[l1];have hl2:(kt c.Kind++40::(J++[41])).length<=1048576:=by rw[List.length_append]at hlen;omega
   obtain⟨y1,y2⟩:=yz5 (kt c.Kind++40::(J++[41])) (by simp) hl2;have hw:=ysh (kt c.Kind) J h40 hl2 (kt c.Kind).length 0 (((((kt c.Kind++40::(J++[41]))++[43,76,70,108]).length:Int)-0).toNat+1) (by omega) (by simp only[List.length_append,List.length_cons,List.length_nil];omega);have hks:∀ s:List UInt8×Int,yf (yf8 ((kt c.Kind++40::(J++[41]))++[43,76,70,108]) (kt c.Kind,s)) (((zxf ).length)-1) 1 0=.ok c.Kind:=fun s=>yfo c.Kind hk _ (fun i t=>rfl)
   have hgs:∀ (p:List UInt8) (q k:Int),yf (yb6 ((kt c.Kind++40::(J++[41]))++[43,76,70,108]) (p,J,q) k) ((c.Group.map Lib.itoa).length-0) 0 []=.ok c.Group:=fun p q k=>yh7 c.Group g2 (fun i t=>({ Kind:=k,Group:=t,Letter:=[76],Colors:=[],Period:=0:Character },false)) _ (fun i t=>by unfold yb6;simp only;rw[hsp])
   unfold zz;rw[y3n,y1,y2,y58];simp only[cond_true];rw[show((kt c.Kind++40::(J++[41]),([]:List UInt8),(0:Int)))=(kt c.Kind++40::(J++[41]),[],((0:Nat):Int))from rfl,hw];simp only[hks,e8,cond_false,hJ0,hsp,hgs,hkp]
theorem y20 {n m:Int} (h1:0<n) (h2:n<=600) (h3:0<m) (h4:m<=600) (h:secT n=secT m):n=m:=by
 have e1:=yco n h1 h2;rw[h,yco m h3 h4]at e1;exact(congrArg Prod.fst e1).symm
theorem yjv (p : Int) (h1 : 0 < p) (h2 : p <= 600) : ∀ (k n : Nat) (i : Int), 1 <= i -> i + k = p -> k < n -> y0 (yqu (secT p ++ [115])) n i = .error (.inl (p, true))
 | k,0,i,_,_,h=>by omega
 | 0,n+1,i,hi,he,_=>by
  have e:i=p:=by omega
  subst e;simp only[y0,yqu];rw[decide_eq_true h2,ydo _ (by omega) h2];simp
 | k+1,n+1,i,hi,he,hn=>by
  have hne:(zig i == secT p++[115])=false:=by
   rw[beq_eq_false_iff_ne,ydo _ (by omega) (by omega)];intro h;have:=y20 (by omega) (by omega) h1 h2 (List.append_cancel_right h);omega
  have hw:IntKind.wrap .i64 (i+1)=i+1:=by rw[IntKind.wrap_i64];omega
  have:=yjv p h1 h2 k n (i+1) (by omega) (by omega) (by omega);simp only[y0,yqu];rw[decide_eq_true (show i<=600 by omega),hne,hw];simp only[cond_true,cond_false];exact this
theorem y9s (p:Int) (h1:0<p) (h2:p<=600):zkg (secT p++[115])=(p,true):=by
 unfold zkg;rw[yjv p h1 h2 (p-1).toNat _ 1 (by omega) (by omega) (by omega)]
theorem yp6 (p:Int) (h1:0<p) (h2:p<=600):(32:UInt8)∉secT p++[115]:=by
 intro hm;rcases List.mem_append.1 hm with hm|hm
 ·unfold secT at hm
  split at hm
  ·exact y3c (by omega) 32 (by decide) hm
  ·rcases List.mem_append.1 hm with hm|hm
   ·exact y3c (by omega) 32 (by decide) hm
   ·rcases List.mem_cons.1 hm with hm|hm
    ·exact absurd hm (by decide)
    ·exact y3c (by omega) 32 (by decide) hm
 ·rw[List.mem_singleton]at hm;exact absurd hm (by decide)
theorem yoz (c:Character) (h:zib c=true) (hl:c.Colors.length<9223372036854775808) (ha:(chrT c).length<=1048576):zog (chrT c)=(c,true):=by
 have hf:=yzb c h;have hr:=y8x c hf;have hp:=y2c c h;have hp2:=(ymc c h).2.2;have hcol:=yvo _ (yef c h hl);have hok:ztb c=true:=by rw[<- yre c hl];exact h
 have htext:=ymh c h;have hsp:ze (chrT c) 32=ym 32 (chrT c):=yft _ 32 (by omega);unfold zog;by_cases h0:c.Period=0
 ·have e1:ze (chrT c) 32=[ybd c,c.Colors]:=by
   rw[hsp];unfold chrT;rw[h0,show perT 0=[]from rfl,List.append_nil,y7 32 _ _ (yrs c hf),ykb 32 _ hcol]
  rw[e1];have ec:({ Kind:=c.Kind,Group:=c.Group,Letter:=c.Letter,Colors:=c.Colors,Period:=0:Character })=c:=by rw[<- h0]
  have n2:((([ybd c,c.Colors]:List (List UInt8)).length:Int) != 2)=false:=rfl;have n3:((([ybd c,c.Colors]:List (List UInt8)).length:Int) == 3)=false:=rfl;rw[n2,n3];simp only[Bool.false_and,cond_false,List.getD_cons_zero,List.getD_cons_succ];rw[hr];simp only[ec,hok,htext];simp
 ·have e2:perT c.Period=32::(secT c.Period++[115]):=by unfold perT;rw[if_neg h0]
  have e1:ze (chrT c) 32=[ybd c,c.Colors,secT c.Period++[115]]:=by
   rw[hsp];unfold chrT;rw[e2,y7 32 _ _ (yrs c hf),y7 32 _ _ hcol,ykb 32 _ (yp6 _ (by omega) hp2)]
  rw[e1];have n2:((([ybd c,c.Colors,secT c.Period++[115]]:List (List UInt8)).length:Int) != 3)=false:=rfl;have n3:((([ybd c,c.Colors,secT c.Period++[115]]:List (List UInt8)).length:Int) == 3)=true:=rfl;rw[n2,n3];simp only[Bool.and_false,cond_false,cond_true,List.getD_cons_zero,List.getD_cons_succ];rw[hr,y9s _ (by omega) hp2];have ec:({ Kind:=c.Kind,Group:=c.Group,Letter:=c.Letter,Colors:=c.Colors,Period:=c.Period:Character })=c:=rfl;simp only[ec,hok,htext];simp
theorem ydh (a:List UInt8):zog a=({ Kind:=0,Group:=[],Letter:=[],Colors:=[],Period:=0:Character },false)\/∃ c,ztb c=true/\zfd c=a/\(∃ i,c.Colors=(ze a 32).getD i default)/\zog a=(c,true):=by
 unfold zog;generalize ze a 32=w
 cases hA:(((w.length:Int) != 2) && ((w.length:Int) != 3))with
 | true=>left;rfl
 | false=>
  simp only[cond_false]
  cases((w.length:Int) == 3)with
  | true=>
   simp only[cond_true];generalize hc:({ Kind:=((zz (w.getD 0 default)).1).Kind,Group:=((zz (w.getD 0 default)).1).Group,Letter:=((zz (w.getD 0 default)).1).Letter,Colors:=(w.getD 1 default),Period:=(zkg (w.getD 2 default)).1:Character })=c
   cases hv:ztb c with
   | false=>left;simp
   | true=>
    by_cases ht:zfd c=a
    ·cases hq:((zz (w.getD 0 default)).2 && (zkg (w.getD 2 default)).2)with
     | true=>right;exact⟨c,hv,ht,⟨1,by rw[<- hc]⟩,by simp[ht]⟩
     | false=>left;simp
    ·left
     have:(zfd c != a)=true:=by simpa using ht
     rw[this];simp
  | false=>
   simp only[cond_false];generalize hc:({ Kind:=((zz (w.getD 0 default)).1).Kind,Group:=((zz (w.getD 0 default)).1).Group,Letter:=((zz (w.getD 0 default)).1).Letter,Colors:=(w.getD 1 default),Period:=((zz (w.getD 0 default)).1).Period:Character })=c
   cases hv:ztb c with
   | false=>left;simp
   | true=>
    by_cases ht:zfd c=a
    ·cases hq:(zz (w.getD 0 default)).2 with
     | true=>right;exact⟨c,hv,ht,⟨1,by rw[<- hc]⟩,by simp[ht]⟩
     | false=>left;simp
    ·left
     have:(zfd c != a)=true:=by simpa using ht
     rw[this];simp
theorem yoo (a:List UInt8) (ha:a.length<=1048576):zhd a=zog a:=by
 rcases y9g a with h|⟨c,hv,ht,hr⟩
 ·rcases ydh a with g|⟨c,hv,ht,⟨i,hci⟩,hr⟩
  ·rw[h,g]
  ·have hl:c.Colors.length<9223372036854775808:=by
    rw[hci,yft a 32 (by omega) |> (fun e=>(e:ze a 32=ym 32 a))];rw[List.getD_eq_getElem?_getD]
    cases hg:(ym 32 a)[i]? with
    | none=>show(0:Nat)<_;omega
    | some x=>have:=(ycb 32 a).2 x (List.mem_of_getElem? hg);simp only[Option.getD_some];omega
   rw[<- yre c hl]at hv;have hT:=ymh c hv;rw[hT]at ht;rw[hr, <- ht,ynp c hv hl]
 ·have hT:=ypk c hv
  rw[hT]at ht
  have hl:c.Colors.length<9223372036854775808:=by
   have:c.Colors.length<=(chrT c).length:=by unfold chrT;simp only[List.length_append,List.length_cons];omega
   rw[ht]at this;omega
  rw[hr, <- ht,yoz c hv hl (by rw[ht];exact ha)]
theorem ym7 (w:List UInt8) (hw:w.length<=1048576):bdMark (zbd w).1:=by
 cases e:(zbd w).2 with
 | true=>
  have h:=y8g (m:=(zbd w).1) (yb5.r2 w hw e).1;exact⟨Nat.lt_of_le_of_lt h.2.2.1 (by decide),Nat.lt_of_le_of_lt h.2.2.2.1 (by decide),Nat.lt_of_le_of_lt h.2.2.2.2 (by decide)⟩
 | false=>rw[yb5.r3 w hw e];decide
theorem y77 {l:List Sector} (h:zy l=true):l.length<1099511627776/\∀ v∈l,bdSector v:=by
 have hr:=yne h;refine⟨Nat.lt_of_le_of_lt hr.1 (by decide),fun v hv => ?_⟩;obtain⟨i,hi,e⟩:=List.getElem_of_mem hv;have h9:=(hr.2 i).2.2.2.2;rw[List.getD_eq_getElem?_getD,List.getElem?_eq_getElem hi,Option.getD_some,e]at h9;exact Nat.lt_of_le_of_lt h9 (by decide)
theorem yu7 (w:List UInt8) (hw:w.length<=1048576):(zwb w).1.length<1099511627776/\∀ v∈(zwb w).1,bdSector v:=by
 cases e:(zwb w).2 with
 | true=>exact y77 (yc6.r2 w hw e).1
 | false=>rw[yc6.r3 w hw e];exact⟨by decide,by simp⟩
theorem y97 {c:Character} (h:zib c=true):bdCharacter c:=by
 have hf:=yzb c h;have hg:=(ymc c h).1;have hc:=ynm h
 have hl:c.Letter.length<=1:=by
  by_cases h8:c.Kind=8
  ·rw[(y0j c hf h8).2.1];exact Nat.le_refl _
  ·by_cases hL:c.Letter=[]
   ·rw[hL];simp
   ·rw[(y1x c hf h8 hL).1];simp
 exact⟨Nat.lt_of_le_of_lt hg (by decide),Nat.lt_of_le_of_lt hl (by decide),Nat.lt_of_le_of_lt hc (by decide)⟩
theorem yg7 (w:List UInt8):bdCharacter (zhd w).1:=by
 rcases y9g w with h|⟨c,h1,_,h3⟩
 ·rw[h];decide
 ·rw[h3];exact y97 h1
def zje (a0:(List UInt8)):(Aid×Bool):=
 (bif (((zg a0 [47]).length:Int) != 8)then({ Number:=0,Name:=[],At:={ X:=0,Y:=0:Point },Height:=0,Mark:={ Kind:=0,Colors:=[],Shape:=[],Topmark:=[]:Mark },Light:={ Kind:=0,Group:=[],Letter:=[],Colors:=[],Period:=0:Character },Sectors:=[],Intensity:=0:Aid },false)else(bif (((zg a0 [47]).getD 5 default) == [45])then(bif ((!(((zp ((zg a0 [47]).getD 0 default)).2) == true && (((zde ((zg a0 [47]).getD 2 default)).2) == true && (((zp ((zg a0 [47]).getD 3 default)).2) == true && (((zbd ((zg a0 [47]).getD 4 default)).2) == true && (true == true && (((zwb ((zg a0 [47]).getD 6 default)).2) == true && ((zp ((zg a0 [47]).getD 7 default)).2) == true))))))) || ((zsc ({ Number:=(zp ((zg a0 [47]).getD 0 default)).1,Name:=((zg a0 [47]).getD 1 default),At:=(zde ((zg a0 [47]).getD 2 default)).1,Height:=(zp ((zg a0 [47]).getD 3 default)).1,Mark:=(zbd ((zg a0 [47]).getD 4 default)).1,Light:=(zhd ((zg a0 [47]).getD 5 default)).1,Sectors:=(zwb ((zg a0 [47]).getD 6 default)).1,Intensity:=(zp ((zg a0 [47]).getD 7 default)).1:Aid })) != a0))then({ Number:=0,Name:=[],At:={ X:=0,Y:=0:Point },Height:=0,Mark:={ Kind:=0,Colors:=[],Shape:=[],Topmark:=[]:Mark },Light:={ Kind:=0,Group:=[],Letter:=[],Colors:=[],Period:=0:Character },Sectors:=[],Intensity:=0:Aid },false)else({ Number:=(zp ((zg a0 [47]).getD 0 default)).1,Name:=((zg a0 [47]).getD 1 default),At:=(zde ((zg a0 [47]).getD 2 default)).1,Height:=(zp ((zg a0 [47]).getD 3 default)).1,Mark:=(zbd ((zg a0 [47]).getD 4 default)).1,Light:=(zhd ((zg a0 [47]).getD 5 default)).1,Sectors:=(zwb ((zg a0 [47]).getD 6 default)).1,Intensity:=(zp ((zg a0 [47]).getD 7 default)).1:Aid },true))else(bif ((!(((zp ((zg a0 [47]).getD 0 default)).2) == true && (((zde ((zg a0 [47]).getD 2 default)).2) == true && (((zp ((zg a0 [47]).getD 3 default)).2) == true && (((zbd ((zg a0 [47]).getD 4 default)).2) == true && (((zhd ((zg a0 [47]).getD 5 default)).2) == true && (((zwb ((zg a0 [47]).getD 6 default)).2) == true && ((zp ((zg a0 [47]).getD 7 default)).2) == true))))))) || ((zsc ({ Number:=(zp ((zg a0 [47]).getD 0 default)).1,Name:=((zg a0 [47]).getD 1 default),At:=(zde ((zg a0 [47]).getD 2 default)).1,Height:=(zp ((zg a0 [47]).getD 3 default)).1,Mark:=(zbd ((zg a0 [47]).getD 4 default)).1,Light:=(zhd ((zg a0 [47]).getD 5 default)).1,Sectors:=(zwb ((zg a0 [47]).getD 6 default)).1,Intensity:=(zp ((zg a0 [47]).getD 7 default)).1:Aid })) != a0))then({ Number:=0,Name:=[],At:={ X:=0,Y:=0:Point },Height:=0,Mark:={ Kind:=0,Colors:=[],Shape:=[],Topmark:=[]:Mark },Light:={ Kind:=0,Group:=[],Letter:=[],Colors:=[],Period:=0:Character },Sectors:=[],Intensity:=0:Aid },false)else({ Number:=(zp ((zg a0 [47]).getD 0 default)).1,Name:=((zg a0 [47]).getD 1 default),At:=(zde ((zg a0 [47]).getD 2 default)).1,Height:=(zp ((zg a0 [47]).getD 3 default)).1,Mark:=(zbd ((zg a0 [47]).getD 4 default)).1,Light:=(zhd ((zg a0 [47]).getD 5 default)).1,Sectors:=(zwb ((zg a0 [47]).getD 6 default)).1,Intensity:=(zp ((zg a0 [47]).getD 7 default)).1:Aid },true))))
namespace N28
theorem DD:DOk Tryz.prog (Go.Ab.DD [(21,dP D_zsc),(80,dP D_zg),(81,dP D_zp),(82,dP D_zde),(83,dP D_zbd),(84,dP D_zhd),(85,dP D_zwb)]):=ya y0u.e <| ya ygo.e <| ya y3j.e <| ya yd0.e <| ya yi3.e <| ya yo1.e <| ya yp0.e <| ye _
theorem dn:type_of% (And.intro @D_zsc.eq_1 <| And.intro @D_zg.eq_1 <| And.intro @D_zp.eq_1 <| And.intro @D_zde.eq_1 <| And.intro @D_zbd.eq_1 <| And.intro @D_zhd.eq_1 <| @D_zwb.eq_1):=by and_intros<;>intros<;>rfl
set_option maxHeartbeats 4000000 in
set_option maxRecDepth 20000 in
theorem den (a0:(List UInt8)) (hb0:a0.length<1099511627776) (hp0:a0.length<=1048576):Den Tryz.prog 28 [.str a0] (.tup [.agg (yob ((zje a0).1)),.bool ((zje a0).2)]):=by
 generalize hR:zje a0=r;unfold zje at hR;refine di Tryz.func28 Tryz.ntmps28 Tryz.results28 ?_;intro c hL hc hk;obtain⟨hL0,_⟩:=hL;have hw0:a0.length<9223372036854775808:=Nat.lt_succ_of_le hL0;clear hL0;simp only[pars,Nat.zero_add];have e1:=fun i=>ypu a0 47 i
 have s0_:=e1 0;have s1_:=e1 1;have s2_:=e1 2;have s3_:=e1 3;have s4_:=e1 4;have s5_:=e1 5;have s6_:=e1 6;have s7_:=e1 7;have b4:=ym7 ((zg a0 [47]).getD 4 default) (by omega);have b5:=yg7 ((zg a0 [47]).getD 5 default);have b6:=yu7 ((zg a0 [47]).getD 6 default) (by omega);have b61:=b6.1;have b62:=b6.2;iterate 3 refine rS ?_
 refine AWP.cond rfl (fun hb => ?_) (fun hb => ?_)
 ·replace hR:=ct hR
  refine rS ?_;refine AWP.ret ?_;subst hR;exact es
 ·replace hR:=cf hR
  iterate 10 refine rS ?_
  refine AWP.cond rfl (fun hb => ?_) (fun hb => ?_)
  ·replace hR:=ct hR
   iterate 2 refine rS ?_
   refine AWP.cond rfl (fun hb => ?_) (fun hb => ?_)
   ·replace hR:=ct hR
    refine rS ?_;refine AWP.ret ?_;subst hR;exact es
   ·replace hR:=cf hR
    refine rS ?_;refine AWP.ret ?_;subst hR;exact es
  ·replace hR:=cf hR
   refine rS ?_;refine AWP.cond rfl (fun hb => ?_) (fun hb => ?_)
   ·replace hR:=ct hR
    refine rS ?_;refine AWP.ret ?_;subst hR;exact es
   ·replace hR:=cf hR
    refine rS ?_;refine AWP.ret ?_;subst hR;exact es
end N28
def D_zje : DF
 | [x0]=>some (.tup [.agg (yob ((zje (rdS x0)).1)),.bool ((zje (rdS x0)).2)],false,[wS x0,(rdS x0).length<1099511627776,(rdS x0).length<=1048576])
 | _=>none
theorem yy1:OkD Tryz.prog 28 D_zje:=by unfold D_zje;exact dk N28.den
theorem yq8 (w:List UInt8) (hw:w.length<=1048576):bdMark (zif w).1:=by rw[<- y3p w hw];exact ym7 w hw
theorem yj8 (w:List UInt8) (hw:w.length<=1048576):(zwc w).1.length<1099511627776/\∀ v∈(zwc w).1,bdSector v:=by rw[<- yqp w hw];exact yu7 w hw
theorem yv7 (w:List UInt8) (hw:w.length<=1048576):bdCharacter (zog w).1:=by rw[<- yoo w hw];exact yg7 w
end Go.Ab
