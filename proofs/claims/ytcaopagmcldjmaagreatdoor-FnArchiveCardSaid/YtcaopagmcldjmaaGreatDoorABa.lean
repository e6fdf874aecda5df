/- A part of a proof: walks of functions and lemmas of our own. No conditions. -/
import Derived.Test.YtcaopagmcldjmaaGreatDoorAAp
import Derived.Test.YtcaopagmcldjmaaGreatDoorAAz
import Derived.Test.YtcaopagmcldjmaaGreatDoorAAq
import Derived.Test.YtcaopagmcldjmaaGreatDoorAAu
import Derived.Test.YtcaopagmcldjmaaGreatDoorAAy
import Derived.Test.YtcaopagmcldjmaaGreatDoorAAr
import Derived.Test.YtcaopagmcldjmaaGreatDoorAAo
import Derived.Test.YtcaopagmcldjmaaGreatDoorAAx
import Derived.Test.YtcaopagmcldjmaaGreatDoorAAt
import Derived.Test.YtcaopagmcldjmaaGreatDoorAAs
import Derived.Test.YtcaopagmcldjmaaGreatDoorAAl
import Derived.Test.YtcaopagmcldjmaaGreatDoorAAn
set_option linter.unusedSectionVars false
set_option linter.unusedVariables false
set_option linter.unusedSimpArgs false
set_option maxHeartbeats 1000000
namespace Go.Ab
open Go Go.Proofs
theorem yo7 {l:List Sector} (h:zhb l=true):l.length<=12:=by
 unfold zhb at h
 have he:=y9e (b:=yfg l) (e0:=false) (fun j s e h=>by
  unfold yfg at h;rw[Bool.cond_eq_ite]at h;split at h
  ·simpa using h.symm
  ·have h2:=y9e (b:=ydi l j s) (e0:=false) (fun k s2 e2 h2=>by
    unfold ydi at h2;rw[Bool.cond_eq_ite]at h2;split at h2
    ·simpa using h2.symm
    ·cases h2) (l.length-0) 0 ()
   generalize yf (ydi l j s) (l.length-0) 0 ()=z at h h2
   cases z with
   | error e3=>
    have h:e3=e:=by simpa using h
    rw[<- h];exact h2 e3 rfl
   | ok _=>cases h) (l.length-0) 0 0
 generalize yf (yfg l) (l.length-0) 0 0=z at h he
 cases z with
 | error e=>have:=he e rfl;subst this;cases h
 | ok s=>simp[zx]at h;omega
theorem yyh (c : UInt8) : ∀ xs : List (List UInt8), Lib.join xs [c] = y6x c xs
 | []=>rfl
 | [x]=>by simp[Lib.join_cons,Lib.joinTail,y6x]
 | x::y::r=>by
  have ih:=yyh c (y::r);rw[y6x, <- ih];simp[Lib.join_cons,Lib.joinTail]
theorem yo4 {s:Sector} (h:zzd s=true) (c:UInt8) (h1:c≠45) (h2:c.toNat<48):c∉scT s:=by
 unfold zzd at h;rw[Bool.and_eq_true]at h;unfold scT;intro hm;rw[List.mem_append]at hm;rcases hm with hm|hm
 ·exact yov _ c h1 (.inl h2) hm
 rcases List.mem_cons.1 hm with hm|hm
 ·exact h1 hm
 rw[List.mem_append]at hm;rcases hm with hm|hm
 ·exact yov _ c h1 (.inl h2) hm
 ·rcases yas h.2 with e|e|e|e<;>rw[e]at hm<;>rw[List.mem_singleton]at hm<;>subst hm<;>revert h2<;>decide
theorem y5y {s:Sector} (h:zzd s=true):0<=s.From/\s.From<=359/\0<=s.To/\s.To<=359/\s.Color.length=1/\(45:UInt8)∉s.Color:=by
 have hb:=y0m h;unfold zzd at h;rw[Bool.and_eq_true]at h;refine⟨hb.1.1,hb.1.2,hb.2.1,hb.2.2,?_,?_⟩<;>rcases yas h.2 with e|e|e|e<;>rw[e]<;>decide
theorem y5o {l:List Sector} (h:zpb l=true) (hn:l≠[]):y9 44 (scsT l)=l.map scT:=by
 have h1:=(y6f h).2
 have hmem:∀ s∈l,(44:UInt8)∉scT s:=fun s hs=>by
  obtain⟨i,hi,e⟩:=List.getElem_of_mem hs;have:=h1 i hi;rw[List.getD_eq_getElem?_getD,List.getElem?_eq_getElem hi,Option.getD_some,e]at this;exact yo4 this 44 (by decide) (by decide)
 unfold scsT;rw[if_neg hn]
 cases l with
 | nil=>exact absurd rfl hn
 | cons x r=>
  rw[List.map_cons,Lib.join_cons,yph 44 _ _ (hmem x (by simp)) (fun y hy=>by
   obtain⟨s,hs,rfl⟩:=List.mem_map.1 hy
   exact hmem s (by simp[hs]))]
theorem yv7 {l:List Sector} (hn:l≠[]):(scsT l == [45])=false:=by
 rw[beq_eq_false_iff_ne];unfold scsT;rw[if_neg hn]
 cases l with
 | nil=>exact absurd rfl hn
 | cons x r=>
  intro e;rw[List.map_cons,Lib.join_cons]at e;have:=congrArg List.length e;unfold scT at this;have h1:=List.length_pos_iff.2 (y5w x.From);have h2:=List.length_pos_iff.2 (y5w x.To);simp only[List.length_append,List.length_cons,List.length_nil]at this;omega
theorem yq5 (l:List Sector) (j:Nat) (hj:j<l.length):(l.map scT).getD j default=scT (l.getD j default):=ysz scT l j hj
theorem yxx (x y:List UInt8) (h:y.length=1) (hl:x.length<=1048576):(x++y).take ((IntKind.wrap .i64 (((x++y).length:Int)-1)).toNat)=x/\(((x++y).take (x++y).length).drop ((IntKind.wrap .i64 (((x++y).length:Int)-1)).toNat))=y:=by
 have hw:(IntKind.wrap .i64 (((x++y).length:Int)-1)).toNat=x.length:=by
  rw[List.length_append,h,IntKind.wrap_i64];omega
 rw[hw];exact⟨List.take_left' rfl,by rw[List.take_length,List.drop_left' rfl]⟩
theorem ycw (s:List UInt8) (h:zmc s=true):(47:UInt8)∉s:=by
 intro hm;obtain⟨i,hi,he⟩:=List.getElem_of_mem hm;unfold zmc at h
 cases hl:yf (yfh s) (s.length-0) 0 ()with
 | error e=>
  rw[hl]at h;obtain⟨j,t,_,_,h3⟩:=yvb hl;unfold yfh at h3;simp only[Bool.cond_eq_ite]at h3;split at h3
  ·cases h3;simp at h
  ·cases h3
 | ok u=>
  have hk:=yof (fun k (_:Unit)=>∀ j,j<k->zug ((s.getD j 0).toNat:Int)≠0) hl (by intro j hj;omega) (fun j u v _ _ hI hv=>by
   unfold yfh at hv;simp only[Bool.cond_eq_ite]at hv;split at hv
   ·cases hv
   ·rename_i hn
    simp only[Bool.or_eq_true,beq_iff_eq,not_or]at hn;intro q hq;by_cases hqj:q=j
    ·subst hqj;exact hn.1
    ·exact hI q (by omega))
  have:=hk i (by omega);rw[List.getD_eq_getElem?_getD,List.getElem?_eq_getElem hi,Option.getD_some,he]at this;exact this rfl
theorem yr3 (c:Character) (h:zob c=true):(47:UInt8)∉yri c:=by
 have hk:=ymf c h;obtain⟨g1,g2⟩:=yle c h
 have h47:(47:UInt8)∉kt c.Kind:=by
  rcases(show c.Kind=1\/c.Kind=2\/c.Kind=3\/c.Kind=4\/c.Kind=5\/c.Kind=6\/c.Kind=7\/c.Kind=8 by omega)with e|e|e|e|e|e|e|e<;>rw[e]<;>decide
 unfold yri;by_cases h8:c.Kind=8
 ·rw[if_pos h8]
  obtain⟨_,f2,f3,f4⟩:=y8p c h h8;obtain⟨x,hx⟩:=List.length_eq_one_iff.1 f2;rw[hx]at f3 f4 ⊢;simp only[List.getD_cons_zero]at f3 f4;intro hm;simp only[List.mem_append,List.mem_cons,List.not_mem_nil,or_false]at hm;rcases hm with hm|hm|hm|hm
  ·exact absurd hm (by decide)
  ·exact absurd hm (by decide)
  ·subst hm;exact absurd f3 (by decide)
  ·exact absurd hm (by decide)
 ·rw[if_neg h8]
  intro hm;rcases List.mem_append.1 hm with hm|hm
  ·exact h47 hm
  ·rcases List.mem_append.1 hm with hm|hm
   ·unfold grpT at hm
    split at hm
    ·simp at hm
    ·rcases List.mem_cons.1 hm with hm|hm
     ·exact absurd hm (by decide)
     ·rcases List.mem_append.1 hm with hm|hm
      ·refine ysy 47 (by decide) (c.Group.map Lib.itoa) (fun y hy => ?_) hm
       obtain⟨z,hz,rfl⟩:=List.mem_map.1 hy;exact yoe (by have:=g2 z hz;omega) 47 (by decide)
      ·rw[List.mem_singleton]at hm;exact absurd hm (by decide)
   ·split at hm
    ·simp at hm
    ·exact absurd hm (by decide)
theorem yo5 (n:Int) (h1:0<=n) (h2:n<=600):(47:UInt8)∉perT n:=by
 unfold perT;split
 ·simp
 ·unfold secT
  have i1:=yoe (n:=n / 10) (by omega) 47 (by decide);have i2:=yoe (n:=n % 10) (by omega) 47 (by decide);split
  ·intro hm
   simp only[List.mem_append,List.mem_cons,List.not_mem_nil,or_false]at hm;rcases hm with hm|hm|hm
   ·exact absurd hm (by decide)
   ·exact i1 hm
   ·exact absurd hm (by decide)
  ·intro hm
   simp only[List.mem_append,List.mem_cons,List.not_mem_nil,or_false]at hm;rcases hm with hm|(hm|hm|hm)|hm
   ·exact absurd hm (by decide)
   ·exact i1 hm
   ·exact absurd hm (by decide)
   ·exact i2 hm
   ·exact absurd hm (by decide)
theorem y84 (c:Character) (h:zgb c=true) (hl:c.Colors.length<9223372036854775808):(47:UInt8)∉chrT c:=by
 have hf:=yoc c h;have hp:=y6d c h;have hp2:=(ygd c h).2.2;unfold chrT;intro hm;simp only[List.mem_append,List.mem_cons]at hm;rcases hm with hm|hm|hm|hm
 ·exact yr3 c hf hm
 ·exact absurd hm (by decide)
 ·exact ycw _ (yei c h hl) hm
 ·exact yo5 _ hp hp2 hm
theorem y5u (c : UInt8) (hc : c ≠ 44) : ∀ (xs : List (List UInt8)), (∀ x ∈ xs, c ∉ x) -> c ∉ Lib.join xs [44]
 | [],_=>by simp[Lib.join_nil]
 | x::r,h=>by
  rw[yyh]
  cases r with
  | nil=>exact h x (by simp)
  | cons y r=>
   simp only[y6x];have ih:=y5u c hc (y::r) (fun z hz=>h z (by simp[hz]));rw[yyh]at ih;intro hm;simp only[List.mem_append,List.mem_cons]at hm;rcases hm with hm|hm|hm
   ·exact h x (by simp) hm
   ·exact hc hm
   ·exact ih hm
theorem yi6 {l:List Sector} (h:zpb l=true):(47:UInt8)∉scsT l:=by
 unfold scsT;split
 ·decide
 ·refine y5u 47 (by decide) _ (fun x hx => ?_)
  obtain⟨s,hs,rfl⟩:=List.mem_map.1 hx;obtain⟨i,hi,e⟩:=List.getElem_of_mem hs;have:=(y6f h).2 i hi;rw[List.getD_eq_getElem?_getD,List.getElem?_eq_getElem hi]at this;rw[<- e];exact yo4 this 47 (by decide) (by decide)
theorem y41 {s:List UInt8} (h:ztb s=true):(47:UInt8)∉s:=by
 obtain⟨h1,h2,h3⟩:=(y2b s).1 h;intro hm;obtain⟨j,hj,e⟩:=List.getElem_of_mem hm;have:=h3 j hj;have hg:s.getD j 0=47:=by simp[List.getD,List.getElem?_eq_getElem hj,e]
 rw[hg]at this;rcases this with⟨h,_⟩|⟨_,h,_⟩<;>simp at h
theorem ynh {n:Int} (h0:0<=n) (h1:n<=100000000):zl (zo n)=(n,true):=by
 show y8b (Lib.itoa n)=(n,true)
 rcases yji (Lib.itoa n)with⟨m,hm,he,hr⟩|⟨hn,_⟩
 ·rw[hr,ynu he]
 ·exact absurd rfl (hn n (by unfold E18;omega))
theorem yte {n:Int} (h0:0<=n) (c:UInt8) (hc:c.toNat<48):c∉zo n:=yoe h0 c (.inl hc)
def ptT (p:Point):List UInt8:=zo p.X++44::zo p.Y
theorem pt_I {p:Point} (h:zwf p=true):zqf p=ptT p/\(ptT p).length<=13/\(47:UInt8)∉ptT p/\zhe (ptT p)=(p,true):=by
 obtain⟨h1,h2,h3,h4⟩:=y03 h;have hv:zpd p=true:=h;refine⟨?_,?_,?_,?_⟩
 ·unfold zqf ptT
  rw[hv];simp
 ·have k1:=y0c p.X 5 (by omega) (by show p.X<(1000000:Int);omega)
  have k2:=y0c p.Y 5 (by omega) (by show p.Y<(1000000:Int);omega);show(Lib.itoa p.X++44::Lib.itoa p.Y).length<=13;rw[List.length_append,List.length_cons];omega
 ·unfold ptT
  intro hm;rcases List.mem_append.1 hm with hm|hm
  ·exact yte h1 47 (by decide) hm
  ·rcases List.mem_cons.1 hm with hm|hm
   ·cases hm
   ·exact yte h3 47 (by decide) hm
 ·unfold zhe
  have e:zd (ptT p) [44]=(zo p.X,zo p.Y,true):=y0d _ _ 44 (yte h1 44 (by decide));rw[e];simp only;rw[ynh h1 (by omega),ynh h3 (by omega)];have e2:({ X:=p.X,Y:=p.Y }:Point)=p:=rfl;simp only[e2,hv];rfl
theorem y94:(allMarks.all fun m=>(decide (zwd (zpc m)=(m,true)) && !((zpc m).contains 47)) && decide ((zpc m).length<=40))=true:=by decide +kernel
theorem yvo {m:Mark} (h:zmg m=true):zwd (zpc m)=(m,true)/\(47:UInt8)∉zpc m/\(zpc m).length<=40:=by
 have:=List.all_eq_true.1 y94 m (y62 h);simp only[Bool.and_eq_true,decide_eq_true_eq,Bool.not_eq_true',List.contains_eq_mem,decide_eq_false_iff_not]at this;exact⟨this.1.1,this.1.2,this.2⟩
theorem sx_I {l:List Sector} (h:zpb l=true):zzb (scsT l)=(l,true):=by
 by_cases hn:l=[]
 ·subst hn;rfl
 have hv:zhb l=true:=by
  have:=(y6f h).1;rw[ysb l (by omega)];exact h
 unfold zzb;rw[yv7 hn,cond_false,y0q,y5o h hn,List.length_map]
 obtain⟨t,q1,q2⟩:=yy (b:=ybh (scsT l)) (fun i s=>s=l.take i) (k:=l.length-0) (i:=0) (s:=[]) rfl (fun j u _ hj hu=>by
  have hj:j<l.length:=by omega
  refine⟨_,?_,rfl⟩;subst hu;have h1:=y5y ((y6f h).2 j hj);have k2:=y0c (l.getD j default).To 2 (by omega) (by show _<(1000:Int);omega);have h12:=(y6f h).1;unfold ybh;rw[y0q,y5o h hn,yq5 l j hj,cutI];unfold scT;rw[y0d (Lib.itoa _) _ 45 (yte h1.1 45 (by decide))];simp only
  have hne:(Lib.itoa (l.getD j default).To++(l.getD j default).Color == [])=false:=by
   rw[beq_eq_false_iff_ne];intro e;have:=congrArg List.length e;simp only[List.length_append,List.length_nil]at this;omega
  have tl:=yxx (Lib.itoa (l.getD j default).To) (l.getD j default).Color h1.2.2.2.2.1 (by omega)
  have hf:zx ((l.take j).length:Int) 12=true:=by
   unfold zx;rw[List.length_take];simp;omega
  have r1:zl (Lib.itoa (l.getD j default).From)=((l.getD j default).From,true):=ynh h1.1 (by omega);have r2:zl (Lib.itoa (l.getD j default).To)=((l.getD j default).To,true):=ynh h1.2.2.1 (by omega);rw[hne,hf,tl.1,tl.2,r1,r2];simp only[Bool.not_true,Bool.or_self,cond_false]
  rw[yub l j hj])
 rw[q1];simp only;have:t=l:=by rw[q2];simp
 rw[this,hv,yjs h];simp
theorem yir {a:Aid} (h:zcd a=true) (hl:a.Light.Colors.length<9223372036854775808) (ht:zpf a=true):zgb a.Light=true:=by
 rw[y4i _ hl];exact(y9b h).2.2.2.2.2.2.2.1 ht
theorem ap_I {a:Aid} (h:zcd a=true) (hl:a.Light.Colors.length<9223372036854775808) :
  (zo a.Number).length<=4/\(zqf a.At).length<=13/\(zo a.Height).length<=4/\(zpc a.Mark).length<=40/\(zpf a=true->(znd a.Light).length<=40)/\(zwc a.Sectors).length<=120/\(zo a.Intensity).length<=9/\a.Name.length<=10:=by
 obtain⟨n1,n2,nm,at1,h1,h2,mk,lt,sx,i1,i2⟩:=y9b h;refine⟨y0c a.Number 3 (by omega) (by show _<(10000:Int);omega),?_,y0c a.Height 3 (by omega) (by show _<(10000:Int);omega),(yvo mk).2.2,fun hq => ?_,?_,y0c a.Intensity 8 (by omega) (by show _<(1000000000:Int);omega),y3n nm⟩
 ·rw[(pt_I at1).1];exact(pt_I at1).2.1
 ·rw[yek a.Light (yir h hl hq)];exact y23 (yir h hl hq)
 ·rw[yjs sx];exact y83 sx
def yho (a0:(List Item)) (i1:Nat) (s1:List UInt8):Except (((List UInt8)×Int)) (List UInt8):=
 .ok (s1++(((((((((a0.getD i1 default).Key)++[32])++(zo (((a0.getD i1 default).Text).length:Int)))++[32])++(zo (zz (a0.getD i1 default))))++[10])++((a0.getD i1 default).Text))++[10]))
def znb (a0:(List Item)):((List UInt8)×Int):=
 (bif (!(zab a0))then([],1)else(match yf (yho a0) (a0.length-0) 0 (([97,114,99,104,105,118,101,32]++(zo (a0.length:Int)))++[10])with|.error e=>e|.ok s1=>(s1,0)))
namespace N7
theorem DD:DOk Tryz.prog (Go.Ab.DD [(20,dP D_zab),(24,dP D_zo),(25,dP D_zz)]):=ya y5i.e <| ya y3f.e <| ya y8n.e <| yd _
theorem dn:type_of% (And.intro @D_zab.eq_1 <| And.intro @D_zo.eq_1 <| @D_zz.eq_1):=by and_intros<;>intros<;>rfl
theorem gr {p:Prop} (h:p:=by(grind [yrk,ypd]);first|done|fail):p:=h
theorem o0 {p:Prop} (h:p:=by(first|(have h9:=hit (by assumption) i1 (by assumption);have h5:=hvl (by assumption);have h8:=hdl i1 h9.2;have h7:=hck i1;obtain⟨hu1,hu2⟩:=hu i1;have h6:=hW1;(repeat' with_reducible apply And.intro)<;>first|with_reducible assumption|omega|(simp only[List.length_append,List.length_cons,List.length_nil,List.length_singleton];omega)|(exact y3c hb1 (by decide) i1)|(exact(y3c (p:=bdItem) hb1 (by decide) i1).1)|(exact(y3c (p:=bdItem) hb1 (by decide) i1).2))|(have h5:=hvl (by assumption);(repeat' with_reducible apply And.intro)<;>first|with_reducible assumption|omega|(simp only[List.length_append,List.length_cons,List.length_nil,List.length_singleton];omega)));first|done|fail):p:=h
set_option maxHeartbeats 1000000 in
set_option maxRecDepth 20000 in
theorem den (a0:(List Item)) (hb0:a0.length<1099511627776) (hb1:∀ v∈a0,bdItem v):Den Tryz.prog 7 [encL 2 yr a0] (.tup [.str ((znb a0).1),.int .i64 ((znb a0).2)]):=by
 generalize hR:znb a0=r;unfold znb at hR;refine di Tryz.func7 Tryz.ntmps7 Tryz.results7 ?_;intro c hL hc hk;obtain⟨hL0,_⟩:=hL;have hw0:a0.length<9223372036854775808:=Nat.lt_succ_of_le (yc hL0).1;have hw1:∀ v∈a0,bwItem v:=fun v hv=>y6 v ((yc hL0).2 v hv)
 clear hL0;simp only[pars,Nat.zero_add];have hit:=fun h i hi=>yil (l:=a0) h i hi
 have hvl:=fun(h:(!zab a0)=false)=>yrk a0 (by simpa using h)
 have hd0:=y3b (a0.length:Int) (by omega) (by omega);have hdl:=fun i:Nat=>fun(h:(a0.getD i default).Text.length<=400)=>y3b ((a0.getD i default).Text.length:Int) (by omega) (by omega)
 have hck:=fun i:Nat=>(fun(h:u16 (zz (a0.getD i default)))=>y3b (zz (a0.getD i default)) (by have:=h.1;omega) (by have:=h.2;omega)) (yzs _)
 have hu:∀ i:Nat,u16 (zz (a0.getD i default)):=fun i=>yzs _
 iterate 2 refine rS ?_
 refine AWP.cond rfl (fun hb => ?_) (fun hb => ?_)
 ·replace hR:=ct hR
  refine rS ?_;refine AWP.ret ?_;subst hR;exact es
 ·replace hR:=cf hR
  iterate 2 refine rS ?_
  refine AWP.block ?_;generalize hz1:yf (yho a0) (a0.length-0) 0 (([97,114,99,104,105,118,101,32]++(zo (a0.length:Int)))++[10])=z1 at hR;refine AWP.range (yho a0) (fun i1 s1=>⟨[(4,.str s1),(15,encL 2 yr a0),(16,.int .i64 (a0.length:Int)),(17,.int .i64 (i1:Int))],[]⟩) (fun i1 s1=>s1.length<=100+500 * i1) (a0.length) 0 (([97,114,99,104,105,118,101,32]++(zo (a0.length:Int)))++[10]) [] hz1 ot (by((simp only[List.length_append,List.length_cons,List.length_nil,List.length_singleton];omega))) sm ?_;clear hz1;intro i1 s1 hi1 hW1 hz1;refine rS ?_;refine AWP.seq ?_;refine AWP.cond rfl (fun hb => ?_) (fun hb => ?_)
  ·have hlt1:i1<a0.length:=ot
   rw[yk hlt1]at hz1;simp only[yho]at hz1;refine rS ?_;refine rD 20 ?_;refine rS ?_;exact⟨_,[],hlt1,by(have h9:=hit (by assumption) i1 (by assumption);have h8:=hdl i1 h9.2;have h7:=hck i1;obtain⟨hu1,hu2⟩:=hu i1;have h6:=hW1;(simp only[List.length_append,List.length_cons,List.length_nil,List.length_singleton];omega)),hz1,sm⟩
  ·obtain rfl:i1=a0.length:=ot
   rw[yl (Nat.le_refl _)]at hz1;subst hz1;dsimp only at hR;refine AWP.exit ?_;refine yb ?_;refine rS ?_;refine AWP.ret ?_;subst hR;exact es
end N7
def D_znb : DF
 | [x0]=>some (.tup [.str ((znb (rdL yp x0)).1),.int .i64 ((znb (rdL yp x0)).2)],false,[wL 2 yr yp x0,(rdL yp x0).length<1099511627776,∀ v∈(rdL yp x0),bdItem v])
 | _=>none
theorem yd2:OkD Tryz.prog 7 D_znb:=by unfold D_znb;exact dk N7.den
def yio (x:Item):List UInt8:=x.Key++32::(zo (x.Text.length:Int)++32::zo (zz x))
def ysg (x:Item):List UInt8:=yio x++10::(x.Text++[10])
def y8 (l:List Item):List UInt8:=l.flatMap ysg
theorem ycy {x:Item} (h:zsc x=true):ztb x.Key=true/\x.Text.length<=400:=by
 unfold zsc at h;rw[Bool.and_eq_true,decide_eq_true_eq]at h;exact⟨h.1,by have:=h.2;omega⟩
theorem y5x {s:List UInt8} (h:ztb s=true) (c:UInt8) (hc:c.toNat<48):c∉s:=by
 obtain⟨_,_,h3⟩:=(y2b s).1 h;intro hm;obtain⟨j,hj,e⟩:=List.getElem_of_mem hm;have:=h3 j hj;rw[List.getD_eq_getElem?_getD,List.getElem?_eq_getElem hj,Option.getD_some,e]at this;omega
theorem yls (x:Item):0<=zz x/\zz x<=65535:=yzs _
theorem y14 {x:Item} (h:zsc x=true):(10:UInt8)∉yio x:=by
 have hc:=yls x;unfold yio;intro hm;rcases List.mem_append.1 hm with hm|hm
 ·exact y5x (ycy h).1 10 (by decide) hm
 ·rcases List.mem_cons.1 hm with hm|hm
  ·cases hm
  ·rcases List.mem_append.1 hm with hm|hm
   ·exact yte (by omega) 10 (by decide) hm
   ·rcases List.mem_cons.1 hm with hm|hm
    ·cases hm
    ·exact yte hc.1 10 (by decide) hm
theorem yih {x:Item} (h:zsc x=true) (r:List UInt8):zn (ysg x++r)=(x,zz x,r,0):=by
 have hc:=yls x;obtain⟨hn,ht⟩:=ycy h
 have e1:zd (ysg x++r) [10]=(yio x,x.Text++10::r,true):=by
  unfold ysg;rw[List.append_assoc,List.cons_append,List.append_assoc,List.singleton_append];exact y0d _ _ 10 (y14 h)
 have e2:zf (yio x) [32]=[x.Key,zo (x.Text.length:Int),zo (zz x)]:=by
  rw[y0q];unfold yio;rw[ygb 32 _ _ (y5x hn 32 (by decide)),ygb 32 _ _ (yte (by omega) 32 (by decide)),yid 32 _ (yte hc.1 32 (by decide))]
 have e3:zqc x.Key=true:=by rw[ywr];exact hn
 have e4:=ynh (n:=(x.Text.length:Int)) (by omega) (by omega);have e5:=ynh (n:=zz x) hc.1 (by omega);have e6:IntKind.wrap .i64 ((x.Text.length:Int)+1)=((x.Text.length+1:Nat):Int):=by rw[IntKind.wrap_i64];omega
 have e7:zg (x.Text.length:Int) 0 400=true:=by
  unfold zg;rw[Bool.and_eq_true,decide_eq_true_eq,decide_eq_true_eq];omega
 have e8:decide (zz x<0)=false:=decide_eq_false (by omega);have e9:decide (((x.Text++10::r).length:Int)<((x.Text.length+1:Nat):Int))=false:=decide_eq_false (by simp only[List.length_append,List.length_cons];omega);have e10:(x.Text++10::r).getD x.Text.length 0=10:=by simp
 have e11:(x.Text++10::r).take x.Text.length=x.Text:=by simp
 unfold zn;rw[e1];simp only[e2,List.length_cons,List.length_nil,List.getD_cons_zero,List.getD_cons_succ,e3,e4,e5,e6,e7,e8,e9,Int.toNat_natCast,e10,e11]
 have e12:((x.Text++10::r).take (x.Text++10::r).length).drop (x.Text.length+1)=r:=by
  rw[List.take_length,List.drop_append];simp
 simp only[List.length_append,List.length_cons]at e12;simp[e12]
theorem yci (x:Item) (l:List Item):y8 (x::l)=ysg x++y8 l:=by simp[y8]
theorem yqq (l:List Item) (x:Item):y8 (l++[x])=y8 l++ysg x:=by simp[y8]
def y4d (n:Nat):List UInt8:=[97,114,99,104,105,118,101,32]++zo (n:Int)
theorem y8u {l:List Item} (h:OkI l):znb l=(y4d l.length++10::y8 l,0):=by
 unfold znb;rw[y2e h];simp only[Bool.not_true,cond_false]
 obtain⟨t,q1,q2⟩:=yy (b:=yho l) (fun i s=>s=y4d l.length++10::y8 (l.take i)) (k:=l.length-0) (i:=0) (s:=([97,114,99,104,105,118,101,32]++(zo (l.length:Int)))++[10]) (by simp[y4d,y8]) (fun j u _ hj hu=>by
  refine⟨_,rfl,?_⟩;rw[<- yub l j (by omega),yqq,hu]
  simp[ysg,yio])
 rw[q1];simp only;rw[q2];simp
theorem yon (n:Nat) (h:n<=40) (r:List UInt8):zd (y4d n++10::r) [10]=(y4d n,r,true):=by
 refine y0d _ _ 10 (fun hm => ?_);unfold y4d at hm;rcases List.mem_append.1 hm with hm|hm
 ·revert hm;decide
 ·exact yte (by omega) 10 (by decide) hm
theorem yxm (n:Nat) (h:n<=40):zjb (y4d n)=((n:Int),true):=by
 have hc:zhc (y4d n) [97,114,99,104,105,118,101,32]=(zo (n:Int),true):=by
  unfold zhc zbf zjf y4d;simp
  rw[decide_eq_true (by omega)];simp
 unfold zjb;rw[hc];simp only[ynh (n:=(n:Int)) (by omega) (by omega)];simp[zg]
 omega
theorem ylq {l:List Item} (h:OkI l) (i:Nat) (hi:i<l.length):(decide (0<((l.take i).length:Int)) && !(Op.bytesLess (((l.take i).getD ((IntKind.wrap .i64 (((l.take i).length:Int)-1)).toNat) default).Key) (l.getD i default).Key))=false:=by
 have hn:=h.n;have hl:(l.take i).length=i:=by rw[List.length_take];omega
 rw[hl];by_cases h0:0<i
 ·have hw:(IntKind.wrap .i64 ((i:Int)-1)).toNat=i-1:=by rw[IntKind.wrap_i64];omega
  have hg:(l.take i).getD (i-1) default=l.getD (i-1) default:=by
   rw[List.getD_eq_getElem?_getD,List.getD_eq_getElem?_getD,List.getElem?_take,if_pos (by omega)]
  rw[hw,hg,ynn h.r (by omega:i-1<i) hi];simp
 ·rw[decide_eq_false (by omega)]
  rfl
theorem y97 {l:List Item} (h:OkI l) (i:Nat) (hi:i<l.length):zjd (l.getD i default) false (l.take i)=(0,l.take (i+1)):=by
 unfold zjd;rw[cond_false,ylq h i hi,cond_false,yub l i hi]
theorem y07 {l:List Item} (h:OkI l) (i:Nat) (hi:i<l.length):zkd (l.getD i default) false (l.take i)=(0,l.take (i+1)):=by
 have hn:=h.n
 have hb:((((l.take i).length:Int) == 0) || Op.bytesLess (((l.take i).getD ((IntKind.wrap .i64 (((l.take i).length:Int)-1)).toNat) default).Key) (l.getD i default).Key)=true:=by
  have:=ylq h i hi;rw[Bool.and_eq_false_iff,decide_eq_false_iff_not,Bool.not_eq_false']at this;rcases this with h1|h1
  ·rw[show(((l.take i).length:Int) == 0)=true by rw[beq_iff_eq];omega];rfl
  ·rw[h1,Bool.or_true]
 have ht:=yub l i hi;unfold zkd;simp only[Bool.not_false,Bool.true_and,hb,cond_true,ht]
theorem y8f {l:List Item} {i:Nat} (hi:i<l.length):y8 (l.drop i)=ysg (l.getD i default)++y8 (l.drop (i+1)):=by
 rw[List.drop_eq_getElem_cons hi,yci,getI hi]
theorem y35 (x:Item):(zz x != zz x)=false:=by simp
theorem yw0 {l:List Item} (h:OkI l):zoe (y4d l.length++10::y8 l)=(l,0):=by
 have hn:=h.n;have hone:∀ i,i<l.length->zsc (l.getD i default)=true:=fun i hi=>by rw[getI hi];exact h.o _ (List.getElem_mem hi)
 have hf:zec (y4d l.length++10::y8 l) []=(0,l):=by
  unfold zec;rw[yon _ hn];simp only[yxm _ hn,Bool.not_true,cond_false,Int.toNat_natCast]
  obtain⟨t,q1,q2⟩:=yy (b:=y8l (y4d l.length++10::y8 l) []) (fun i s=>s=(y8 (l.drop i),l.take i)) (k:=l.length-0) (i:=0) (s:=(y8 l,[])) (by simp) (fun j u _ hj hu=>by
   have hj:j<l.length:=by omega
   refine⟨_,?_,rfl⟩;subst hu;unfold y8l;simp only[y8f hj,yih (hone j hj),y35,y97 h j hj]
   rfl)
  rw[q1];simp only[q2,List.drop_length];simp[y8]
 unfold zoe;rw[hf];rfl
theorem y3r {l:List Item} (h:OkI l):zqe (y4d l.length++10::y8 l)=(l,0):=by
 have hn:=h.n;have hone:∀ i,i<l.length->zsc (l.getD i default)=true:=fun i hi=>by rw[getI hi];exact h.o _ (List.getElem_mem hi)
 have hf:zfc (y4d l.length++10::y8 l) []=(0,l):=by
  unfold zfc;rw[yon _ hn];simp only[yxm _ hn,Bool.not_true,cond_false,Int.toNat_natCast]
  obtain⟨t,q1,q2⟩:=yy (b:=yfl (y4d l.length++10::y8 l) []) (fun i s=>s=(y8 (l.drop i),l.take i)) (k:=l.length-0) (i:=0) (s:=(y8 l,[])) (by simp) (fun j u _ hj hu=>by
   have hj:j<l.length:=by omega
   refine⟨_,?_,rfl⟩;subst hu;unfold yfl;simp only[y8f hj,yih (hone j hj),y35,y07 h j hj]
   rfl)
  rw[q1];simp only[q2,List.drop_length];simp[y8]
 unfold zqe;rw[hf];rfl
theorem y0r {l:List Item} (h:OkI l):zpe (y4d l.length++10::y8 l)=([],0):=by
 have hn:=h.n;have hone:∀ i,i<l.length->zsc (l.getD i default)=true:=fun i hi=>by rw[getI hi];exact h.o _ (List.getElem_mem hi)
 have hf:∃ k,zxb (y4d l.length++10::y8 l) [] 0=(0,[],k):=by
  unfold zxb;rw[yon _ hn];simp only[yxm _ hn,Bool.not_true,cond_false,Int.toNat_natCast]
  obtain⟨t,q1,q2,q3⟩:=yy (b:=yrl (y4d l.length++10::y8 l) [] 0) (fun i s=>s.1=y8 (l.drop i)/\s.2.2=[]) (k:=l.length-0) (i:=0) (s:=(y8 l,0,[])) ⟨by simp,rfl⟩ (fun j u _ hj hu=>by
   have hj:j<l.length:=by omega
   obtain⟨w,n,o⟩:=u;obtain⟨h1,h2⟩:=hu;simp only at h1 h2;subst h1 h2;refine⟨(y8 (l.drop (j+1)),IntKind.wrap .i64 (n+1),[]),?_,rfl,rfl⟩;unfold yrl;simp only[y8f hj,yih (hone j hj),y35]
   rfl)
  rw[q1];simp only[Nat.sub_zero,Nat.zero_add,List.drop_length]at q2;refine⟨t.2.1,?_⟩;simp only[q2,q3];simp[y8]
 obtain⟨k,hf⟩:=hf;unfold zpe;rw[hf];rfl
def y7c (n:Int):List UInt8:=List.replicate (4-(Lib.itoa n).length) 48++Lib.itoa n
theorem y12 (k:Nat):Lib.repeatL [48] k=List.replicate k 48:=by
 induction k with
 | zero=>rfl
 | succ k ih=>simp[Lib.repeatL,ih,List.replicate_succ]
theorem y1u (n:Int) (h1:1<=n) (h2:n<=9999):zvf n 4=y7c n:=by
 have hl:=y0c n 3 (by omega) (by show n<(10000:Int);omega);unfold zvf y7c zne;rw[yw5];have hw:IntKind.wrap .i64 (4-((Lib.itoa n).length:Int))=4-((Lib.itoa n).length:Int):=by rw[IntKind.wrap_i64];omega
 rw[hw,y12];congr 2
 split<;>omega
theorem yur (n:Int) (h1:1<=n) (h2:n<=9999):(zvf n 4).length<=10:=by
 have hl:=y0c n 3 (by omega) (by show n<(10000:Int);omega);rw[y1u n h1 h2];unfold y7c;rw[List.length_append,List.length_replicate];omega
theorem ykg (n:Int) (h1:1<=n):y5c (y7c n):=by
 intro b hb;unfold y7c at hb;rcases List.mem_append.1 hb with hb|hb
 ·have:=(List.mem_replicate.1 hb).2
  subst this;decide
 ·rw[ywd (by omega)]at hb
  exact(ydb n.natAbs).1 b hb
theorem yw2 (k:Nat) (l:List UInt8):digV 0 (List.replicate k 48++l)=digV 0 l:=by
 induction k with
 | zero=>simp
 | succ k ih=>
  rw[List.replicate_succ,List.cons_append,yqc];exact ih
theorem ych (n:Int) (h1:1<=n):digV 0 (y7c n)=n.natAbs:=by
 unfold y7c;rw[yw2,ywd (by omega)];exact(ydb n.natAbs).2.1
theorem yxi (n:Int) (h1:1<=n) (h2:n<=9999):(y7c n).length=4:=by
 have hl:=y0c n 3 (by omega) (by show n<(10000:Int);omega);unfold y7c;rw[List.length_append,List.length_replicate];omega
theorem y1t : ∀ (a b : List UInt8) (n m : Nat), a.length = b.length -> y5c a -> y5c b -> n <= m -> (n < m \/ Op.bytesLess a b = true) -> digV n a < digV m b
 | [],[],n,m,_,_,_,_,h=>by
  rw[yee,yee];rcases h with h|h
  ·exact h
  ·simp[Op.bytesLess]at h
 | [],_::_,_,_,h,_,_,_,_=>by simp at h
 | _::_,[],_,_,h,_,_,_,_=>by simp at h
 | x::a,y::b,n,m,hl,ha,hb,hnm,h=>by
  have hx:=ha x (by simp);have hy:=hb y (by simp);rw[yqc,yqc];have hl':a.length=b.length:=by simpa using hl
  have ha':y5c a:=fun z hz=>ha z (List.mem_cons_of_mem _ hz)
  have hb':y5c b:=fun z hz=>hb z (List.mem_cons_of_mem _ hz)
  by_cases hlt:n<m
  ·exact y1t a b _ _ hl' ha' hb' (by omega) (.inl (by omega))
  ·have h:=h.resolve_left hlt
   simp only[Op.bytesLess,Bool.or_eq_true,Bool.and_eq_true,decide_eq_true_eq,beq_iff_eq]at h;rcases h with h|⟨h,h2⟩
   ·have h:x.toNat<y.toNat:=UInt8.lt_iff_toNat_lt.1 h
    exact y1t a b _ _ hl' ha' hb' (by omega) (.inl (by omega))
   ·subst h
    exact y1t a b _ _ hl' ha' hb' (by omega) (.inr h2)
theorem ym1 {n m:Int} (h1:1<=n) (h2:n<m) (h3:m<=9999):Op.bytesLess (110::y7c n) (110::y7c m)=true:=by
 have hc:∀ a b:List UInt8,Op.bytesLess (110::a) (110::b)=Op.bytesLess a b:=fun a b=>by simp[Op.bytesLess]
 rw[hc]
 cases hb:Op.bytesLess (y7c n) (y7c m)with
 | true=>rfl
 | false=>
  exfalso
  have hne:y7c n≠y7c m:=fun e=>by
   have:=congrArg (digV 0) e;rw[ych n h1,ych m (by omega)]at this;omega
  have hr:=yrh _ _ hb hne;have:=y1t _ _ 0 0 (by rw[yxi m (by omega) h3,yxi n h1 (by omega)]) (ykg m (by omega)) (ykg n h1) (Nat.le_refl _) (.inr hr);rw[ych n h1,ych m (by omega)]at this;omega
theorem yc7 (n:Int) (h1:1<=n) (h2:n<=9999):ztb (110::y7c n)=true:=by
 have hl:=yxi n h1 h2;refine(y2b _).2 ⟨by simp,by rw[List.length_cons];omega,fun j hj => ?_⟩
 cases j with
 | zero=>left;show 97<=(110:UInt8).toNat/\(110:UInt8).toNat<=122;decide
 | succ j=>
  right
  refine⟨by omega,?_⟩;rw[List.length_cons]at hj;have hj:j<(y7c n).length:=by omega
  have hg:(110::y7c n).getD (j+1) 0=(y7c n)[j]:=by simp[List.getD_eq_getElem?_getD,List.getElem?_eq_getElem hj]
  rw[hg];exact ykg n h1 _ (List.getElem_mem hj)
theorem yq6 (n:Int) (h1:1<=n) (h2:n<=9999):zhf (110::y7c n)=(n,true):=by
 have hl:=yxi n h1 h2
 have hc:zhc (110::y7c n) [110]=(y7c n,true):=by
  unfold zhc zbf zjf;simp[hl]
  exact List.take_of_length_le (by omega)
 have hd:zfd (y7c n)=(n,true):=by
  rw[yfs _ (by omega) (by intro e;rw[e]at hl;simp at hl),if_pos (ykg n h1),ych n h1];simp only[Prod.mk.injEq,and_true];omega
 unfold zhf;rw[hc];simp only[hd,hl];simp
 omega
def zdd (a0:Aid):(List UInt8):=
 (bif (!(zze a0))then[]else(bif (zte a0)then(zic [(zo a0.Number),a0.Name,(zqf a0.At),(zo a0.Height),(zpc a0.Mark),(znd a0.Light),(zwc a0.Sectors),(zo a0.Intensity)] [47])else(zic [(zo a0.Number),a0.Name,(zqf a0.At),(zo a0.Height),(zpc a0.Mark),[45],(zwc a0.Sectors),(zo a0.Intensity)] [47])))
namespace N35
theorem DD:DOk Tryz.prog (Go.Ab.DD [(24,dP D_zo),(55,dP D_zze),(57,dP D_zte),(58,dP D_znd),(59,dP D_zic),(60,dP D_zqf),(61,dP D_zpc),(62,dP D_zwc)]):=ya y3f.e <| ya y7s.e <| ya you.e <| ya ywt.e <| ya y6i.e <| ya yd1.e <| ya ylv.e <| ya ykt.e <| yd _
theorem dn:type_of% (And.intro @D_zo.eq_1 <| And.intro @D_zze.eq_1 <| And.intro @D_zte.eq_1 <| And.intro @D_znd.eq_1 <| And.intro @D_zic.eq_1 <| And.intro @D_zqf.eq_1 <| And.intro @D_zpc.eq_1 <| @D_zwc.eq_1):=by and_intros<;>intros<;>rfl
theorem gr {p:Prop} (h:p:=by(grind [ypd]);first|done|fail):p:=h
theorem o0 {p:Prop} (h:p:=by(first|(have h9:=ykv hb0 (by assumption);have hr:=y9b h9;obtain⟨l1,l2,l3,l4,hch,l6,l7,l8⟩:=ap_I h9 (Nat.lt_of_lt_of_le hb0.2.2.1.2.2 (by decide));have l5:=hch (by rw[<- hlt h9];assumption);(repeat' with_reducible apply And.intro)<;>(first|omega|exact hb0.2.1|exact hb0.2.2.2.1|exact hb0.2.2.2.2|exact hb0.2.2.1|exact hr.2.2.2.1|exact hr.2.2.2.2.2.2.2.2.1|(refine Nat.le_trans (ynj _ _) ?_;simp only[jl,List.length_cons,List.length_nil];omega)))|(have h9:=ykv hb0 (by assumption);have hr:=y9b h9;obtain⟨l1,l2,l3,l4,hch,l6,l7,l8⟩:=ap_I h9 (Nat.lt_of_lt_of_le hb0.2.2.1.2.2 (by decide));skip;(repeat' with_reducible apply And.intro)<;>(first|omega|exact hb0.2.1|exact hb0.2.2.2.1|exact hb0.2.2.2.2|exact hb0.2.2.1|exact hr.2.2.2.1|exact hr.2.2.2.2.2.2.2.2.1|(refine Nat.le_trans (ynj _ _) ?_;simp only[jl,List.length_cons,List.length_nil];omega))));first|done|fail):p:=h
theorem lx {p:Prop} (h:p:=by(exact lxx);first|done|fail):p:=h
set_option maxHeartbeats 4000000 in
set_option maxRecDepth 20000 in
theorem den (a0:Aid) (hb0:bdAid a0):Den Tryz.prog 35 [.agg (eAid a0)] (.str (zdd a0)):=by
 generalize hR:zdd a0=r;unfold zdd at hR;refine di Tryz.func35 Tryz.ntmps35 Tryz.results35 ?_;intro c hL hc hk;obtain⟨hL0,_⟩:=hL;have hw0:bwAid a0:=ylb a0 hL0;clear hL0;simp only[pars,Nat.zero_add];have hlt:=fun h=>yk4 (a:=a0) h (Nat.lt_of_lt_of_le hb0.2.2.1.2.2 (by decide))
 iterate 2 refine rS ?_
 refine AWP.cond rfl (fun hb => ?_) (fun hb => ?_)
 ·replace hR:=ct hR
  refine rS ?_;refine AWP.ret ?_;subst hR;exact es
 ·replace hR:=cf hR
  iterate 2 refine rS ?_
  refine AWP.cond rfl (fun hb => ?_) (fun hb => ?_)
  ·replace hR:=ct hR
   refine rS ?_;refine rD 21 ?_;refine AWP.ret ?_;subst hR;exact es
  ·replace hR:=cf hR
   refine rD 21 ?_;refine AWP.ret ?_;subst hR;exact es
end N35
def D_zdd : DF
 | [x0]=>some (.str (zdd (rdG dAid x0)),false,[wG eAid dAid x0,bdAid (rdG dAid x0)])
 | _=>none
theorem y4t:OkD Tryz.prog 35 D_zdd:=by unfold D_zdd;exact dk N35.den
theorem y47 {m:Mark} (h:zmg m=true):bdMark m:=by
 have h:=yvm (m:=m) h;exact⟨Nat.lt_of_le_of_lt h.2.2.1 (by decide),Nat.lt_of_le_of_lt h.2.2.2.1 (by decide),Nat.lt_of_le_of_lt h.2.2.2.2 (by decide)⟩
theorem y67 (w:List UInt8) (hw:w.length<=1048576):bdMark (zwd w).1:=by
 have z0:bdMark zMark:=by decide
 have key:∀ m:Mark,∀ b:Bool,bdMark (bif ((b || (!(zzc m))) || ((zpc m) != w))then(zMark,false)else(m,true)).1:=fun m b=>by
  cases hc:((b || (!(zzc m))) || ((zpc m) != w))with
  | true=>exact z0
  | false=>
   simp only[Bool.or_eq_false_iff,Bool.not_eq_false']at hc;show bdMark m;exact y47 (by rw[<- show znf m=zmg m from rfl, <- yze];exact hc.1.2)
 unfold zwd
 cases h0:(w == zrd 0)with
 | true=>exact z0
 | false=>
  rw[cond_false]
  cases h1:(((zcb w).length:Int) != 4)with
  | true=>exact z0
  | false=>
   rw[cond_false]
   cases h2:(((zcb w).getD 3 default) == [45])with
   | true=>rw[cond_true];exact key _ _
   | false=>rw[cond_false];exact key _ _
theorem y76 {l:List Sector} (h:zpb l=true):l.length<1099511627776/\∀ v∈l,bdSector v:=by
 have hr:=y1e h;refine⟨Nat.lt_of_le_of_lt hr.1 (by decide),fun v hv => ?_⟩;obtain⟨i,hi,e⟩:=List.getElem_of_mem hv;have h9:=(hr.2 i).2.2.2.2;rw[List.getD_eq_getElem?_getD,List.getElem?_eq_getElem hi,Option.getD_some,e]at h9;exact Nat.lt_of_le_of_lt h9 (by decide)
theorem yz7 (w:List UInt8) (hw:w.length<=1048576):(zzb w).1.length<1099511627776/\∀ v∈(zzb w).1,bdSector v:=by
 unfold zzb
 cases h0:(w == [45])with
 | true=>rw[cond_true];exact⟨by decide,by simp⟩
 | false=>
  rw[cond_false]
  have he:=y9e (b:=ybh w) (e0:=([],false)) (fun j s e h=>by
   unfold ybh at h;simp only[Bool.cond_eq_ite]at h;split at h
   ·simpa using h.symm
   ·split at h
    ·simpa using h.symm
    ·cases h) ((zf w [44]).length-0) 0 []
  generalize yf (ybh w) ((zf w [44]).length-0) 0 []=z at he
  cases z with
  | error e=>rw[he e rfl];exact⟨by show(0:Nat)<_;decide,by intro v hv;cases hv⟩
  | ok s=>
   simp only
   cases hc:((!(zhb s)) || ((zwc s) != w))with
   | true=>rw[cond_true];exact⟨by decide,by simp⟩
   | false=>
    rw[cond_false];simp only[Bool.or_eq_false_iff,Bool.not_eq_false']at hc;have h12:=yo7 hc.1;exact y76 (by rw[<- ysb s (by omega)];exact hc.1)
theorem yg7 {c:Character} (h:zgb c=true):bdCharacter c:=by
 have hf:=yoc c h;have hg:=(ygd c h).1;have hc:=ymm h
 have hl:c.Letter.length<=1:=by
  by_cases h8:c.Kind=8
  ·rw[(y8p c hf h8).2.1];exact Nat.le_refl _
  ·by_cases hL:c.Letter=[]
   ·rw[hL];simp
   ·rw[(yx3 c hf h8 hL).1];simp
 exact⟨Nat.lt_of_le_of_lt hg (by decide),Nat.lt_of_le_of_lt hl (by decide),Nat.lt_of_le_of_lt hc (by decide)⟩
theorem y57 (w:List UInt8):bdCharacter (zod w).1:=by
 rcases yyn w with h|⟨c,h1,_,h3⟩
 ·rw[h];decide
 ·rw[h3];exact yg7 h1
def zaf (a0:(List UInt8)):(Aid×Bool):=
 (bif (((zf a0 [47]).length:Int) != 8)then({ Number:=0,Name:=[],At:={ X:=0,Y:=0:Point },Height:=0,Mark:={ Kind:=0,Colors:=[],Shape:=[],Topmark:=[]:Mark },Light:={ Kind:=0,Group:=[],Letter:=[],Colors:=[],Period:=0:Character },Sectors:=[],Intensity:=0:Aid },false)else(bif (((zf a0 [47]).getD 5 default) == [45])then(bif ((!(((zl ((zf a0 [47]).getD 0 default)).2) == true && (((zhe ((zf a0 [47]).getD 2 default)).2) == true && (((zl ((zf a0 [47]).getD 3 default)).2) == true && (((zwd ((zf a0 [47]).getD 4 default)).2) == true && (true == true && (((zzb ((zf a0 [47]).getD 6 default)).2) == true && ((zl ((zf a0 [47]).getD 7 default)).2) == true))))))) || ((zdd ({ Number:=(zl ((zf a0 [47]).getD 0 default)).1,Name:=((zf a0 [47]).getD 1 default),At:=(zhe ((zf a0 [47]).getD 2 default)).1,Height:=(zl ((zf a0 [47]).getD 3 default)).1,Mark:=(zwd ((zf a0 [47]).getD 4 default)).1,Light:=(zod ((zf a0 [47]).getD 5 default)).1,Sectors:=(zzb ((zf a0 [47]).getD 6 default)).1,Intensity:=(zl ((zf a0 [47]).getD 7 default)).1:Aid })) != a0))then({ Number:=0,Name:=[],At:={ X:=0,Y:=0:Point },Height:=0,Mark:={ Kind:=0,Colors:=[],Shape:=[],Topmark:=[]:Mark },Light:={ Kind:=0,Group:=[],Letter:=[],Colors:=[],Period:=0:Character },Sectors:=[],Intensity:=0:Aid },false)else({ Number:=(zl ((zf a0 [47]).getD 0 default)).1,Name:=((zf a0 [47]).getD 1 default),At:=(zhe ((zf a0 [47]).getD 2 default)).1,Height:=(zl ((zf a0 [47]).getD 3 default)).1,Mark:=(zwd ((zf a0 [47]).getD 4 default)).1,Light:=(zod ((zf a0 [47]).getD 5 default)).1,Sectors:=(zzb ((zf a0 [47]).getD 6 default)).1,Intensity:=(zl ((zf a0 [47]).getD 7 default)).1:Aid },true))else(bif ((!(((zl ((zf a0 [47]).getD 0 default)).2) == true && (((zhe ((zf a0 [47]).getD 2 default)).2) == true && (((zl ((zf a0 [47]).getD 3 default)).2) == true && (((zwd ((zf a0 [47]).getD 4 default)).2) == true && (((zod ((zf a0 [47]).getD 5 default)).2) == true && (((zzb ((zf a0 [47]).getD 6 default)).2) == true && ((zl ((zf a0 [47]).getD 7 default)).2) == true))))))) || ((zdd ({ Number:=(zl ((zf a0 [47]).getD 0 default)).1,Name:=((zf a0 [47]).getD 1 default),At:=(zhe ((zf a0 [47]).getD 2 default)).1,Height:=(zl ((zf a0 [47]).getD 3 default)).1,Mark:=(zwd ((zf a0 [47]).getD 4 default)).1,Light:=(zod ((zf a0 [47]).getD 5 default)).1,Sectors:=(zzb ((zf a0 [47]).getD 6 default)).1,Intensity:=(zl ((zf a0 [47]).getD 7 default)).1:Aid })) != a0))then({ Number:=0,Name:=[],At:={ X:=0,Y:=0:Point },Height:=0,Mark:={ Kind:=0,Colors:=[],Shape:=[],Topmark:=[]:Mark },Light:={ Kind:=0,Group:=[],Letter:=[],Colors:=[],Period:=0:Character },Sectors:=[],Intensity:=0:Aid },false)else({ Number:=(zl ((zf a0 [47]).getD 0 default)).1,Name:=((zf a0 [47]).getD 1 default),At:=(zhe ((zf a0 [47]).getD 2 default)).1,Height:=(zl ((zf a0 [47]).getD 3 default)).1,Mark:=(zwd ((zf a0 [47]).getD 4 default)).1,Light:=(zod ((zf a0 [47]).getD 5 default)).1,Sectors:=(zzb ((zf a0 [47]).getD 6 default)).1,Intensity:=(zl ((zf a0 [47]).getD 7 default)).1:Aid },true))))
namespace N37
theorem DD:DOk Tryz.prog (Go.Ab.DD [(35,dP D_zdd),(65,dP D_zf),(66,dP D_zl),(67,dP D_zhe),(68,dP D_zwd),(69,dP D_zod),(70,dP D_zzb)]):=ya y4t.e <| ya ypj.e <| ya y9f.e <| ya y02.e <| ya yk3.e <| ya y5z.e <| ya yz0.e <| yd _
theorem dn:type_of% (And.intro @D_zdd.eq_1 <| And.intro @D_zf.eq_1 <| And.intro @D_zl.eq_1 <| And.intro @D_zhe.eq_1 <| And.intro @D_zwd.eq_1 <| And.intro @D_zod.eq_1 <| @D_zzb.eq_1):=by and_intros<;>intros<;>rfl
set_option maxHeartbeats 4000000 in
set_option maxRecDepth 20000 in
theorem den (a0:(List UInt8)) (hb0:a0.length<1099511627776) (hp0:a0.length<=1048576):Den Tryz.prog 37 [.str a0] (.tup [.agg (yud ((zaf a0).1)),.bool ((zaf a0).2)]):=by
 generalize hR:zaf a0=r;unfold zaf at hR;refine di Tryz.func37 Tryz.ntmps37 Tryz.results37 ?_;intro c hL hc hk;obtain⟨hL0,_⟩:=hL;have hw0:a0.length<9223372036854775808:=Nat.lt_succ_of_le hL0;clear hL0;simp only[pars,Nat.zero_add];have e1:=fun i=>ycj a0 47 i
 have s0_:=e1 0;have s1_:=e1 1;have s2_:=e1 2;have s3_:=e1 3;have s4_:=e1 4;have s5_:=e1 5;have s6_:=e1 6;have s7_:=e1 7;have b4:=y67 ((zf a0 [47]).getD 4 default) (by omega);have b5:=y57 ((zf a0 [47]).getD 5 default);have b6:=yz7 ((zf a0 [47]).getD 6 default) (by omega);have b61:=b6.1;have b62:=b6.2;iterate 3 refine rS ?_
 refine AWP.cond rfl (fun hb => ?_) (fun hb => ?_)
 ·replace hR:=ct hR
  refine rS ?_;refine AWP.ret ?_;subst hR;exact es
 ·replace hR:=cf hR
  iterate 10 refine rS ?_
  refine AWP.cond rfl (fun hb => ?_) (fun hb => ?_)
  ·replace hR:=ct hR
   iterate 2 refine rS ?_
   refine AWP.cond rfl (fun hb => ?_) (fun hb => ?_)
   ·replace hR:=ct hR
    refine rS ?_;refine AWP.ret ?_;subst hR;exact es
   ·replace hR:=cf hR
    refine rS ?_;refine AWP.ret ?_;subst hR;exact es
  ·replace hR:=cf hR
   refine rS ?_;refine AWP.cond rfl (fun hb => ?_) (fun hb => ?_)
   ·replace hR:=ct hR
    refine rS ?_;refine AWP.ret ?_;subst hR;exact es
   ·replace hR:=cf hR
    refine rS ?_;refine AWP.ret ?_;subst hR;exact es
end N37
def D_zaf : DF
 | [x0]=>some (.tup [.agg (yud ((zaf (rdS x0)).1)),.bool ((zaf (rdS x0)).2)],false,[wS x0,(rdS x0).length<1099511627776,(rdS x0).length<=1048576])
 | _=>none
theorem yl3:OkD Tryz.prog 37 D_zaf:=by unfold D_zaf;exact dk N37.den
abbrev zChr:Character:={ Kind:=0,Group:=[],Letter:=[],Colors:=[],Period:=0 }
theorem y95 {c:Character} (h:zif c=true):c=zChr:=by
 obtain⟨K,G,L,C,P⟩:=c;unfold zif at h;simp only[Bool.and_eq_true,beq_iff_eq]at h;obtain⟨⟨⟨⟨h1,h2⟩,h3⟩,h4⟩,h5⟩:=h;have hG:G=[]:=List.length_eq_zero_iff.1 (by omega);subst h1 hG h3 h4 h5;rfl
theorem y05 {a:Aid} (h:zcd a=true) (hl:zpf a=false):a.Light=zChr:=by
 have hk:a.Light.Kind=0:=by
  unfold zpf at hl;simpa using hl
 unfold zcd at h
 cases hc:(((((!(zv a.Number 1 9999)) || (!(ztb a.Name))) || (!(zwf a.At))) || (!(zv a.Height 0 3000))) || (!(znf a.Mark)))with
 | true=>rw[hc]at h;cases h
 | false=>
  rw[hc,cond_false]at h
  cases hp:zif a.Light with
  | true=>exact y95 hp
  | false=>
   rw[hp,cond_false]at h
   cases hd:(((!(zse a.Light)) || (!(zv a.Intensity 1 100000000))) || (!(zpb a.Sectors)))with
   | true=>rw[hd]at h;cases h
   | false=>
    simp only[Bool.or_eq_false_iff,Bool.not_eq_false']at hd;have g1:=hd.1.1;unfold zse ztg zwg zv at g1;rw[hk]at g1;cases g1
end Go.Ab
