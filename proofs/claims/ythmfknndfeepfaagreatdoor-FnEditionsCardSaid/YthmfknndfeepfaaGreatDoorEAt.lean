/- Walks and lemmas. No conditions. -/
import Derived.Test.YthmfknndfeepfaaGreatDoorEAs
set_option linter.unusedSectionVars false
set_option linter.unusedVariables false
set_option linter.unusedSimpArgs false
set_option maxHeartbeats 1000000
namespace Go.Ab
open Go Go.Proofs
def yok (a0:Edition) (i1:Nat) (s1:List UInt8):Except (((List UInt8)×Int)) (List UInt8):=
 .ok (s1++((ztc (a0.Aids.getD i1 default))++[10]))
def zob (a0:Edition):((List UInt8)×Int):=
 (bif (!(zvg a0))then([],1)else(match ye (yok a0) (a0.Aids.length-0) 0 ((zpc a0.Number a0.Day (a0.Aids.length:Int))++[10])with|.error e=>e|.ok s1=>((s1++(zde s1))++[10],0)))
namespace N13
theorem DD:DOk Tryz.prog (Go.Ab.DD [(28,dP D_zvg),(29,dP D_zpc),(30,dP D_ztc),(31,dP D_zde)]):=ya y64.e <| ya yey.e <| ya ykx.e <| ya y2y.e <| yc _
abbrev dn:=cj @D_zvg.eq_1 <| cj @D_zpc.eq_1 <| cj @D_ztc.eq_1 <| @D_zde.eq_1
theorem o0 {p:Prop} (h:p:=by(first|(have h9:=hve (by assumption);have l2:=y5l (a0.Aids.getD i1 default) (hbe i1);have hbd:=hbe i1;(repeat' with_reducible apply And.intro)<;>first|with_reducible assumption|omega|(simp only[List.length_append,List.length_cons,List.length_nil,List.length_singleton];omega))|(have h9:=hve (by assumption);have h8:=hh (by omega) (by omega) (by omega) (by omega);(repeat' with_reducible apply And.intro)<;>first|with_reducible assumption|omega|(simp only[List.length_append,List.length_cons,List.length_nil,List.length_singleton];omega))|(have h9:=hve (by assumption);have l3:=y3d s1;(repeat' with_reducible apply And.intro)<;>first|with_reducible assumption|omega|(simp only[List.length_append,List.length_cons,List.length_nil,List.length_singleton];omega)));first|done|fail):p:=h
set_option maxHeartbeats 1000000 in
set_option maxRecDepth 20000 in
theorem den (a0:Edition) (hb0:bdEdition a0):Den Tryz.prog 13 [.agg (ywb a0)] (.tup [.str ((zob a0).1),.int .i64 ((zob a0).2)]):=by
 generalize hR:zob a0=r;unfold zob at hR;refine di Tryz.func13 Tryz.ntmps13 Tryz.results13 ?_;intro c hL hc hk;obtain⟨hL0,_⟩:=hL;have hw0:bwEdition a0:=ysc a0 hL0;clear hL0;simp only[pars,Nat.zero_add];have hve:=fun h=>y8bb (e:=a0) hb0 h
 have hh:=yqk a0.Number a0.Day (a0.Aids.length:Int);have hbe:∀ i:Nat,bdAid (a0.Aids.getD i default):=fun i=>ytf hb0.2 (by decide) i
 have hbl:a0.Aids.length<1099511627776:=hb0.1;have hbv:∀ v∈a0.Aids,bdAid v:=hb0.2;iterate 2 refine rS ?_
 refine yb ?_ ?_<;>intro hb
 ·replace hR:=ct hR
  exact retR
 ·replace hR:=cf hR
  iterate 2 refine rS ?_
  refine AWP.block ?_;refine AWP.lensS 15 rfl (fun hLn1 => ?_);generalize hz1:ye (yok a0) (a0.Aids.length-0) 0 ((zpc a0.Number a0.Day (a0.Aids.length:Int))++[10])=z1 at hR;refine AWP.range (yok a0) (fun i1 s1=>⟨[(4,.str s1),(20,encL 16 eAid a0.Aids),(21,.int .i64 (a0.Aids.length:Int)),(22,.int .i64 (i1:Int))],[]⟩) (fun i1 s1=>s1.length<=100000+400 * i1) (a0.Aids.length) 0 ((zpc a0.Number a0.Day (a0.Aids.length:Int))++[10]) [] hz1 ot (by(have h9:=hve (by assumption);have h8:=hh (by omega) (by omega) (by omega) (by omega);simp only[List.length_append,List.length_cons,List.length_nil,List.length_singleton];omega)) sm ?_;clear hz1;intro i1 s1 hi1 hW1 hz1;refine rS ?_;refine AWP.seq ?_;refine yb ?_ ?_<;>intro hb
  ·have hlt1:i1<a0.Aids.length:=ot
   rw[yi hlt1]at hz1;simp only[yok]at hz1;iterate 3 refine rS ?_
   exact⟨_,[],hlt1,by(have l2:=y5l (a0.Aids.getD i1 default) (hbe i1);simp only[List.length_append,List.length_cons,List.length_nil,List.length_singleton];omega),hz1,sm⟩
  ·obtain rfl:i1=a0.Aids.length:=ot
   exact retX
end N13
def D_zob : DF
 | [x0]=>some (.tup [.str ((zob (rdG ygb x0)).1),.int .i64 ((zob (rdG ygb x0)).2)],false,[wG ywb ygb x0,bdEdition (rdG ygb x0)])
 | _=>none
theorem yr4:OkD Tryz.prog 13 D_zob:=by unfold D_zob;exact dk N13.den
theorem yvab {n:Nat} (h:((n:Int) == 24)=false):n≠24:=by
 rw[beq_eq_false_iff_ne]at h;omega
theorem yudb {a0:List UInt8} (h:2<=(zb a0 [10]).length) (i:Nat):((zb a0 [10]).getD i default).length+1<=a0.length:=y93 10 a0 h i
theorem yeab {a0:List UInt8} (hp:a0.length<=1048576) (h:3<=(zb a0 [10]).length):0<=IntKind.wrap .i64 ((IntKind.wrap .i64 ((a0.length:Int)-(((zb a0 [10]).getD ((IntKind.wrap .i64 (((zb a0 [10]).length:Int)-2)).toNat) default).length:Int)))-1) /\
  IntKind.wrap .i64 ((IntKind.wrap .i64 ((a0.length:Int)-(((zb a0 [10]).getD ((IntKind.wrap .i64 (((zb a0 [10]).length:Int)-2)).toNat) default).length:Int)))-1)<=(a0.length:Int):=by
 have:=yudb (a0:=a0) (by omega) ((IntKind.wrap .i64 (((zb a0 [10]).length:Int)-2)).toNat);generalize ((zb a0 [10]).getD ((IntKind.wrap .i64 (((zb a0 [10]).length:Int)-2)).toNat) default).length=t at this;rw[IntKind.wrap_i64,IntKind.wrap_i64];omega
theorem y0db {n:Nat} {b:Bool} (h:(decide (IntKind.wrap .i64 ((n:Int)-2)<1) || b)=false) (hn:n<=2000000):3<=n:=by
 rw[Bool.or_eq_false_iff]at h;have:=of_decide_eq_false h.1;rw[IntKind.wrap_i64]at this;omega
theorem yp3 (l:List UInt8) (k:Int):(zwd l k).1.Aids=[]:=by
 unfold zwd;cases(((zp l).length:Int) != 4)<;>rfl
def ylp (a0:(List UInt8)) (i1:Nat) (s1:List Aid):Except ((Edition×Int×Int)) (List Aid):=
 (bif (!((zcg ((zb a0 [10]).getD (1+i1) default)).2))then .error ({ Number:=0,Day:=0,Aids:=[]:Edition },IntKind.wrap .i64 ((i1:Int)+2),9)else(bif (decide (0<(i1:Int)) && decide ((((zcg ((zb a0 [10]).getD (1+i1) default)).1).Number)<=((s1.getD ((IntKind.wrap .i64 ((i1:Int)-1)).toNat) default).Number)))then .error ({ Number:=0,Day:=0,Aids:=[]:Edition },IntKind.wrap .i64 ((i1:Int)+2),7)else(bif ((s1.length:Int) == 24)then .error ({ Number:=0,Day:=0,Aids:=[]:Edition },IntKind.wrap .i64 ((i1:Int)+2),5)else .ok (s1++[(zcg ((zb a0 [10]).getD (1+i1) default)).1]))))
def zad (a0:(List UInt8)):(Edition×Int×Int):=
 (bif (decide ((IntKind.wrap .i64 (((zb a0 [10]).length:Int)-2))<1) || (((zb a0 [10]).getD ((IntKind.wrap .i64 ((IntKind.wrap .i64 (((zb a0 [10]).length:Int)-2))+1)).toNat) default) != []))then({ Number:=0,Day:=0,Aids:=[]:Edition },0,11)else(bif (((zb a0 [10]).getD ((IntKind.wrap .i64 (((zb a0 [10]).length:Int)-2)).toNat) default) != (zde (a0.take ((IntKind.wrap .i64 ((IntKind.wrap .i64 ((a0.length:Int)-(((zb a0 [10]).getD ((IntKind.wrap .i64 (((zb a0 [10]).length:Int)-2)).toNat) default).length:Int)))-1)).toNat))))then({ Number:=0,Day:=0,Aids:=[]:Edition },0,10)else(bif (!((zwd ((zb a0 [10]).getD 0 default) (IntKind.wrap .i64 ((IntKind.wrap .i64 (((zb a0 [10]).length:Int)-2))-1))).2))then({ Number:=0,Day:=0,Aids:=[]:Edition },1,9)else(match ye (ylp a0) (((IntKind.wrap .i64 (((zb a0 [10]).length:Int)-2)).toNat-1)-0) 0 (((zwd ((zb a0 [10]).getD 0 default) (IntKind.wrap .i64 ((IntKind.wrap .i64 (((zb a0 [10]).length:Int)-2))-1))).1).Aids)with|.error e=>e|.ok s1=>({ Number:=((zwd ((zb a0 [10]).getD 0 default) (IntKind.wrap .i64 ((IntKind.wrap .i64 (((zb a0 [10]).length:Int)-2))-1))).1).Number,Day:=((zwd ((zb a0 [10]).getD 0 default) (IntKind.wrap .i64 ((IntKind.wrap .i64 (((zb a0 [10]).length:Int)-2))-1))).1).Day,Aids:=s1:Edition },0,0)))))
namespace N14
theorem DD:DOk Tryz.prog (Go.Ab.DD [(31,dP D_zde),(32,dP D_zb),(33,dP D_zwd),(34,dP D_zcg)]):=ya y2y.e <| ya yxj.e <| ya yp5.e <| ya ys5.e <| yc _
abbrev dn:=cj @D_zde.eq_1 <| cj @D_zb.eq_1 <| cj @D_zwd.eq_1 <| @D_zcg.eq_1
theorem o0 {p:Prop} (h:p:=by(first|(have h9:=y0db (by assumption) (by omega);have h8:=yeab hp0 h9;have q1:=e1 (1+i1);(repeat' with_reducible apply And.intro)<;>first|with_reducible assumption|omega|(intros;first|with_reducible assumption|omega|(rename_i hg9;have hg9:=of_decide_eq_false hg9;omega)))|(have h9:=y0db (by assumption) (by omega);have h8:=yeab hp0 h9;(repeat' with_reducible apply And.intro)<;>first|with_reducible assumption|omega|(intros;first|with_reducible assumption|omega|(rename_i hg9;have hg9:=of_decide_eq_false hg9;omega)))|((repeat' with_reducible apply And.intro)<;>first|with_reducible assumption|omega|(intros;first|with_reducible assumption|omega|(rename_i hg9;have hg9:=of_decide_eq_false hg9;omega))));first|done|fail):p:=h
theorem o2 {p:Prop} (h:p:=by(first|((repeat' with_reducible apply And.intro)<;>first|(simp only[List.length_append,List.length_singleton];(first|done|fail))|(rw[IntKind.wrap_i64];omega)|(intro j hj;by_cases hji:j<s1.length;(focus(simp only[yik hji,yst hji,cond_true];first|(first|done|fail)|with_reducible rfl));(have e0:j-s1.length=0:=by omega);(simp only[ypk hji hj,ygu hji,cond_false,e0,elt,yz,yeb];first|(first|done|fail)|with_reducible rfl))|decide));first|done|fail):p:=h
set_option maxHeartbeats 4000000 in
set_option maxRecDepth 20000 in
theorem den (a0:(List UInt8)) (hb0:a0.length<1099511627776) (hp0:a0.length<=1048576):Den Tryz.prog 14 [.str a0] (.tup [.agg (yig ((zad a0).1)),.int .i64 ((zad a0).2.1),.int .i64 ((zad a0).2.2)]):=by
 generalize hR:zad a0=r;unfold zad at hR;refine di Tryz.func14 Tryz.ntmps14 Tryz.results14 ?_;intro c hL hc hk;obtain⟨hL0,_⟩:=hL;have hw0:=lwS hL0;clear hL0;simp only[pars,Nat.zero_add];have e1:=fun i=>ycr a0 10 i
 have e2:=y5x a0 10;have e10:=e1 0;have hcl:=fun s=>y3d s
 have e1w:=e1 ((IntKind.wrap .i64 (((zb a0 [10]).length:Int)-2)).toNat);have w9:(IntKind.wrap .i64 (((zb a0 [10]).length:Int)-2))=((zb a0 [10]).length:Int)-2:=(by rw[IntKind.wrap_i64];omega)
 have w10:(IntKind.wrap .i64 ((IntKind.wrap .i64 (((zb a0 [10]).length:Int)-2))+1))=((zb a0 [10]).length:Int)-1:=(by rw[w9,IntKind.wrap_i64];omega)
 have w11:(IntKind.wrap .i64 ((IntKind.wrap .i64 (((zb a0 [10]).length:Int)-2))-1))=((zb a0 [10]).length:Int)-3:=(by rw[w9,IntKind.wrap_i64];omega)
 iterate 4 refine rS ?_
 refine yb ?_ ?_<;>intro hb
 ·replace hR:=ct hR
  exact retR
 ·replace hR:=cf hR
  refine rS ?_;refine rD 6 ?_;refine yb ?_ ?_<;>intro hb
  ·replace hR:=ct hR
   exact retR
  ·replace hR:=cf hR
   iterate 2 refine rS ?_
   refine yb ?_ ?_<;>intro hb
   ·replace hR:=ct hR
    exact retR
   ·replace hR:=cf hR
    refine rS ?_;refine AWP.block ?_;generalize hz1:ye (ylp a0) (((IntKind.wrap .i64 (((zb a0 [10]).length:Int)-2)).toNat-1)-0) 0 (((zwd ((zb a0 [10]).getD 0 default) (IntKind.wrap .i64 ((IntKind.wrap .i64 (((zb a0 [10]).length:Int)-2))-1))).1).Aids)=z1 at hR;refine AWP.range (ylp a0) (fun i1 s1=>⟨[(2,.ptr 0 0),(8,.ptr 1 0),(64,.ref 3 1 1 ((IntKind.wrap .i64 (((zb a0 [10]).length:Int)-2)).toNat-1)),(65,.int .i64 ((IntKind.wrap .i64 (((zb a0 [10]).length:Int)-2)).toNat-1:Int)),(66,.int .i64 (i1:Int))],[.box [.int .i64 0,.int .i64 0,.nils],.box [.int .i64 (((zwd ((zb a0 [10]).getD 0 default) (IntKind.wrap .i64 ((IntKind.wrap .i64 (((zb a0 [10]).length:Int)-2))-1))).1).Number),.int .i64 (((zwd ((zb a0 [10]).getD 0 default) (IntKind.wrap .i64 ((IntKind.wrap .i64 (((zb a0 [10]).length:Int)-2))-1))).1).Day),.ref 2 16 0 s1.length],.arr 56 16 s1.length (fun j=>ytb (s1.getD j default)),.arr 9 1 (zb a0 [10]).length (fun j=>eS ((zb a0 [10]).getD j default))]⟩) (fun i1 s1=>s1.length<=(((zwd ((zb a0 [10]).getD 0 default) (IntKind.wrap .i64 ((IntKind.wrap .i64 (((zb a0 [10]).length:Int)-2))-1))).1).Aids).length+1 * i1/\s1.length=i1/\s1.length<=24) (((IntKind.wrap .i64 (((zb a0 [10]).length:Int)-2)).toNat-1)) 0 (((zwd ((zb a0 [10]).getD 0 default) (IntKind.wrap .i64 ((IntKind.wrap .i64 (((zb a0 [10]).length:Int)-2))-1))).1).Aids) [0,3,2,1] hz1 ot (by(simp only[yp3];simp)) sm ?_;clear hz1;intro i1 s1 hi1 hW1 hz1;refine rS ?_;refine AWP.seq ?_;refine yb ?_ ?_<;>intro hb
    ·have hlt1:i1<((IntKind.wrap .i64 (((zb a0 [10]).length:Int)-2)).toNat-1):=ot
     rw[yi hlt1]at hz1;simp only[ylp]at hz1;iterate 4 refine rS ?_
     refine yb ?_ ?_<;>intro hb
     ·simp only[hb,cond_true]at hz1
      refine rS ?_;refine AWP.ret ?_;subst hz1;dsimp only at hR;subst hR;exact es
     ·simp only[hb,cond_false]at hz1
      refine AWP.seq ?_;refine AWP.regP mixed G_ok DD hc 15 [0,1,2,3,4,5,6,7,8,9,10,11,12,13] (.alt 14 [] [5,6,7,8,9] .leaf .stop) (by kernel_rfl) (by kernel_rfl) (by kernel_rfl) (fun K hK => ?_);simp only[y1k,runN,runP,y3c,nthO,ea,absV,yoc,cput,gv,sv,dn,reduceCtorEq,reduceIte,Nat.reduceBEq,Nat.reduceAdd,Nat.reduceEqDiff,Nat.reduceLT,Nat.reduceLeDiff,Nat.reduceMul,Nat.reduceSub,BEq.rfl,beq_self_eq_true,Int.reduceToNat];repeat' apply And.intro
      all_goals first|refine hK _ ?_|exact ot
      all_goals clear hK K
      refine yb ?_ ?_<;>intro hb
      ·simp only[hb,cond_true]at hz1
       refine rS ?_;refine AWP.ret ?_;subst hz1;dsimp only at hR;subst hR;exact es
      ·simp only[hb,cond_false]at hz1
       refine rS ?_;refine yb ?_ ?_<;>intro hb
       ·simp only[hb,cond_true]at hz1
        refine rS ?_;refine AWP.ret ?_;subst hz1;dsimp only at hR;subst hR;exact es
       ·simp only[hb,cond_false]at hz1
        iterate 2 refine rS ?_
        exact⟨_,[0,1,8,3],hlt1,by(have h24:=yvab (by assumption);simp only[List.length_append,List.length_cons,List.length_nil];omega),hz1,sm⟩
    ·obtain rfl:i1=((IntKind.wrap .i64 (((zb a0 [10]).length:Int)-2)).toNat-1):=ot
     exact retX
end N14
def D_zad : DF
 | [x0]=>some (.tup [.agg (yig ((zad (rdS x0)).1)),.int .i64 ((zad (rdS x0)).2.1),.int .i64 ((zad (rdS x0)).2.2)],false,[wS x0,(rdS x0).length<1099511627776,(rdS x0).length<=1048576])
 | _=>none
theorem yu5:OkD Tryz.prog 14 D_zad:=by unfold D_zad;exact dk N14.den
theorem y7h {ρ α β : Type} (g : α -> List β) : ∀ (l : List α) (s : List β), y9e (ρ := ρ) (fun x s => .ok (s ++ g x)) l s = .ok (s ++ l.flatMap g)
 | [],s=>by simp[y9e]
 | x::l,s=>by
  simp only[y9e];rw[y7h g l,List.flatMap_cons,List.append_assoc]
def jlN (L:List (List UInt8)):List UInt8:=L.flatMap (fun x=>x++[10])
theorem yg2 {L:List (List UInt8)} (h:L≠[]):∃ E,jlN L=E++[10]:=by
 refine⟨jlN L.dropLast++L.getLast h,?_⟩;have e:=List.dropLast_concat_getLast h;conv=>lhs;rw[<- e]
 unfold jlN;rw[List.flatMap_append,List.flatMap_singleton,List.append_assoc]
theorem yur : ∀ (L : List (List UInt8)) (w : List UInt8), (∀ x ∈ L, (10 : UInt8) ∉ x) -> yq 10 (jlN L ++ w) = L ++ yq 10 w
 | [],w,_=>rfl
 | x::L,w,h=>by
  have e:jlN (x::L)++w=x++10::(jlN L++w):=by unfold jlN;rw[List.flatMap_cons];simp
  rw[e,y9 10 _ _ (h x (by simp)),yur L w (fun y hy=>h y (by simp[hy]))];rfl
theorem ytw : ∀ (L : List (List UInt8)) (y : List UInt8), joinC 10 (L ++ [y]) = jlN L ++ y
 | [],y=>rfl
 | [x],y=>by simp[jlN,joinC]
 | x::z::r,y=>by
  have ih:=ytw (z::r) y;simp only[List.cons_append,joinC]at ih ⊢;rw[ih];unfold jlN;rw[List.flatMap_cons (x:=x)];simp
theorem ye5 {a:Int} (h1:0<=a) (h2:a<=99999):(10:UInt8)∉zdb a:=by
 obtain⟨y,m,d,_,_,_,_,_,_,_,_,e⟩:=yqd h1 h2;obtain⟨p1,_⟩:=yfi (y:=y) (by omega);obtain⟨p3,_⟩:=ypd (m:=m) (by omega);obtain⟨p5,_⟩:=ypd (m:=d) (by omega);rw[e];intro hm;unfold D10 at hm;simp only[List.mem_append,List.mem_cons]at hm;rcases hm with hm|hm|hm|hm|hm
 ·have:=p1 10 hm;simp at this
 ·simp at hm
 ·have:=p3 10 hm;simp at this
 ·simp at hm
 ·have:=p5 10 hm;simp at this
theorem chkL (s:List UInt8):zde s=chkW++zh (zu s 65535):=rfl
theorem yc3 (l:List UInt8):∀ x∈zh (zu l 65535),48<=x.toNat/\x.toNat<=57:=fun x hx=>by
 have h:=(y3p l).1;apply Classical.byContradiction;intro hn;exact yxd h x (by omega) hx
theorem yocb (a b:List UInt8) (h:zh (zu a 65535)=zh (zu b 65535)):zu a 65535=zu b 65535:=yml h
theorem y2ab (s:List UInt8):(10:UInt8)∉zde s:=by rw[chkL];exact y79 (yc3 s)
structure EdOk (e:Edition):Prop where
 n1:1<=e.Number
 n2:e.Number<=9999
 d1:0<=e.Day
 d2:e.Day<=99999
 a:okP AidQ e.Aids
def edL (e:Edition):List (List UInt8):=zpc e.Number e.Day (e.Aids.length:Int)::e.Aids.map ztc
theorem EdOk.lit {e:Edition} (h:EdOk e) {v:Aid} (hv:v∈e.Aids):v.Light.Colors.length<9223372036854775808:=Nat.lt_of_lt_of_le (h.a.2 v hv).1.2.2.1.2.2 (by decide)
theorem y29 {N D k:Int} (h1:0<=N) (h2:0<=D) (h3:D<=99999) (hk:0<=k):(10:UInt8)∉zpc N D k:=by
 rw[yhm];have i1:=yxd h1 10 (.inl (by decide));have i2:=ye5 h2 h3;have i3:=yxd hk 10 (.inl (by decide));have e:¬ (10:UInt8)=32:=by decide
 simp only[List.mem_append,List.mem_cons,not_or];exact⟨by decide,e,i1,e,i2,e,i3⟩
theorem EdOk.lines {e:Edition} (h:EdOk e):∀ x∈edL e,(10:UInt8)∉x:=fun x hx=>by
 have:=h.n1;rcases List.mem_cons.1 hx with rfl|hx
 ·exact y29 (by omega) h.d1 h.d2 (by omega)
 ·obtain⟨v,hv,rfl⟩:=List.mem_map.1 hx
  exact ytcb (h.a.1.1 v hv) (h.lit hv)
theorem EdOk.valid {e:Edition} (h:EdOk e):zvg e=true:=by
 rw[yiq (fun v hv=>(h.a.2 v hv).l)];unfold zxe zlh zj;rw[(y4h _).2 h.a.1];have h1:=h.n1;have h2:=h.n2;have h3:=h.d1;have h4:=h.d2;simp[h1,h2,h3,h4]
theorem yit {e:Edition} (h:EdOk e):zob e=(jlN (edL e)++zde (jlN (edL e))++[10],0):=by
 unfold zob;rw[h.valid];simp only[Bool.not_true,cond_false];rw[ymf e.Aids (yok e) (fun v s=>.ok (s++(ztc v++[10]))) _ (fun i s _=>rfl),y7h]
 have e1:zpc e.Number e.Day (e.Aids.length:Int)++[10]++e.Aids.flatMap (fun v=>ztc v++[10])=jlN (edL e):=by
  unfold jlN edL;rw[List.flatMap_cons,List.flatMap_map]
 simp only[e1]
theorem EdOk.split {e:Edition} (h:EdOk e) {C:List UInt8} (hC:(10:UInt8)∉C):yq 10 (jlN (edL e)++C++[10])=edL e++[C,[]]:=by
 rw[List.append_assoc,yur _ _ h.lines];rw[show C++[10]=C++10::[]from rfl,y9 10 _ _ hC];rfl
theorem yk4 : ∀ (L : List (List UInt8)) (k : Nat), (∀ x ∈ L, x.length <= k) -> (jlN L).length <= L.length * (k + 1)
 | [],k,_=>by simp[jlN]
 | x::L,k,h=>by
  have ih:=yk4 L k (fun y hy=>h y (by simp[hy]));have hx:=h x (by simp);unfold jlN at ih ⊢;rw[List.flatMap_cons,List.length_append,List.length_append,List.length_singleton,List.length_cons,Nat.add_mul];omega
theorem yjj {e:Edition} (h:EdOk e):(zob e).1.length<=1000000/\(jlN (edL e)).length<=800000:=by
 have h24:=h.a.1.2.2;have n1:=h.n1;have n2:=h.n2
 have hl:=yk4 (edL e) 20000 (fun x hx=>by
  rcases List.mem_cons.1 hx with rfl|hx
  ·exact yqk _ _ _ (by omega) (by omega) (by omega) (by omega)
  ·obtain⟨v,hv,rfl⟩:=List.mem_map.1 hx
   have:=yk1 (h.a.1.1 v hv) (h.lit hv)
   omega)
 have hn:(edL e).length=e.Aids.length+1:=by unfold edL;simp
 have hc:=y3d (jlN (edL e));rw[hn]at hl;have:(e.Aids.length+1) * (20000+1)<=25 * 20001:=Nat.mul_le_mul (by omega) (by omega);rw[yit h];simp only[List.length_append,List.length_singleton];omega
theorem ypv {N D k:Int} (h1:1<=N) (h2:N<=9999) (h3:0<=D) (h4:D<=99999) (hk:0<=k):zwd (zpc N D k) k=({ Number:=N,Day:=D,Aids:=[]:Edition },true):=by
 have hO:HeadOk (zpc N D k) k N D:=⟨h1,h2,h3,h4,yhm N D k⟩
 have hw:zp (zpc N D k)=[[101,100,105,116,105,111,110],Lib.itoa N,zdb D,Lib.itoa k]:=by
  rw[yndb,hO.split];have g1:(Lib.itoa N != [])=true:=by rw[bne_iff_ne];exact(ymg N).2
  have g2:(zdb D != [])=true:=by rw[bne_iff_ne];exact(yhn h3 h4).2.1
  have g3:(Lib.itoa k != [])=true:=by rw[bne_iff_ne];exact(ymg k).2
  simp only[List.filter_cons,g1,g2,g3,List.filter_nil];rfl
 have hd:zl (Lib.itoa N)=(N,true):=y4l (n:=N) (by omega) (by omega);unfold zwd;rw[hw];simp only[List.getD_cons_zero,List.getD_cons_succ];rw[hd,y7p h3 h4];have e1:(zpc N D k == zpc N D k)=true:=by simp
 have e2:zpe N=true:=by unfold zpe ze;simp;omega
 simp only[e1,e2];rfl
theorem gdA {α:Type} {L M:List α} {d:α} {i:Nat} (h:L.length<=i):(L++M).getD i d=M.getD (i-L.length) d:=by
 rw[List.getD_eq_getElem?_getD,List.getD_eq_getElem?_getD,List.getElem?_append_right h]
theorem gdA1 {α:Type} {L M:List α} {d:α} {i:Nat} (h:i<L.length):(L++M).getD i d=L.getD i d:=by
 rw[List.getD_eq_getElem?_getD,List.getD_eq_getElem?_getD,List.getElem?_append_left h]
theorem ysdb {e:Edition} (h:EdOk e):zad (zob e).1=(e,0,0):=by
 have h24:=h.a.1.2.2;have hlen:=(yjj h).2;have hcl:=y3d (jlN (edL e));have hn:(edL e).length=e.Aids.length+1:=by unfold edL;simp
 rw[yit h];generalize hC:zde (jlN (edL e))=C at hcl;have hsp:=h.split (C:=C) (by rw[<- hC];exact y2ab _);unfold zad;rw[yul,hsp];have hN:(edL e++[C,[]]).length=e.Aids.length+3:=by rw[List.length_append,hn];simp
 have hS:(jlN (edL e)++C++[10]).length=(jlN (edL e)).length+C.length+1:=by simp only[List.length_append,List.length_singleton]
 have w1:IntKind.wrap .i64 (((edL e++[C,[]]).length:Int)-2)=((e.Aids.length+1:Nat):Int):=by rw[IntKind.wrap_i64,hN];omega
 have w2:IntKind.wrap .i64 (((e.Aids.length+1:Nat):Int)+1)=((e.Aids.length+2:Nat):Int):=by rw[IntKind.wrap_i64];omega
 have w3:IntKind.wrap .i64 (((e.Aids.length+1:Nat):Int)-1)=(e.Aids.length:Int):=by rw[IntKind.wrap_i64];omega
 have w4:IntKind.wrap .i64 ((IntKind.wrap .i64 (((jlN (edL e)++C++[10]).length:Int)-(C.length:Int)))-1)=((jlN (edL e)).length:Int):=by rw[IntKind.wrap_i64,IntKind.wrap_i64,hS];omega
 have g1:(edL e++[C,[]]).getD (e.Aids.length+1) default=C:=by rw[gdA (by omega),hn,Nat.sub_self];rfl
 have g2:(edL e++[C,[]]).getD (e.Aids.length+2) default=[]:=by rw[gdA (by omega),hn,show e.Aids.length+2-(e.Aids.length+1)=1 from by omega];rfl
 have g0:(edL e++[C,[]]).getD 0 default=zpc e.Number e.Day (e.Aids.length:Int):=rfl;have d1:decide (((e.Aids.length+1:Nat):Int)<1)=false:=decide_eq_false (by omega);have tk:(jlN (edL e)++C++[10]).take (jlN (edL e)).length=jlN (edL e):=by rw[List.append_assoc];exact List.take_left
 have c1:(C != C)=false:=by simp
 have c2:(([]:List UInt8) != [])=false:=by simp
 simp only[w1,w2,w3,Int.toNat_natCast,g1,g2,w4,tk,hC,g0,d1,c1,c2,Bool.or_self,cond_false,ypv h.n1 h.n2 h.d1 h.d2 (Int.natCast_nonneg _),Bool.not_true]
 obtain⟨t,q1,q2⟩:=ydb (b:=ylp (jlN (edL e)++C++[10])) (fun i s=>s=e.Aids.take i) (k:=e.Aids.length+1-1-0) (i:=0) (s:=[]) rfl (fun j u _ hj hu=>by
  have hj:j<e.Aids.length:=by omega
  refine⟨_,?_,rfl⟩;subst hu;unfold ylp;rw[yul,hsp,gdA1 (by omega)]
  have gl:(edL e).getD (1+j) default=ztc (e.Aids.getD j default):=by
   unfold edL;rw[Nat.add_comm,List.getD_cons_succ,List.getD_eq_getElem?_getD,List.getElem?_map,List.getElem?_eq_getElem hj,List.getD_eq_getElem?_getD,List.getElem?_eq_getElem hj];rfl
  have hmem:e.Aids.getD j default∈e.Aids:=by rw[List.getD_eq_getElem?_getD,List.getElem?_eq_getElem hj];exact List.getElem_mem hj
  rw[gl,yes (h.a.1.1 _ hmem) (h.lit hmem)];have hl:((e.Aids.take j).length:Int)=(j:Int):=by rw[List.length_take];omega
  have h24':(((e.Aids.take j).length:Int) == 24)=false:=by rw[hl,beq_eq_false_iff_ne];omega
  have ho:(decide (0<(j:Int)) && decide ((e.Aids.getD j default).Number<=((e.Aids.take j).getD ((IntKind.wrap .i64 ((j:Int)-1)).toNat) default).Number))=false:=by
   rw[Bool.and_eq_false_iff];by_cases h0:j=0
   ·left;subst h0;rfl
   ·right
    have hw:(IntKind.wrap .i64 ((j:Int)-1)).toNat=j-1:=by rw[IntKind.wrap_i64];omega
    have hg:(e.Aids.take j).getD (j-1) default=e.Aids.getD (j-1) default:=by
     rw[List.getD_eq_getElem?_getD,List.getD_eq_getElem?_getD,List.getElem?_take,if_pos (by omega)]
    have:=ygg h.a.1.2.1 (i:=j-1) (j:=j) (by omega) hj;rw[hw,hg];exact decide_eq_false (by omega)
  simp only[Bool.not_true,cond_false,ho,h24'];congr 1
  rw[List.getD_eq_getElem?_getD,List.getElem?_eq_getElem hj]
  exact(List.take_succ_eq_append_getElem hj).symm)
 rw[q1];have:t=e.Aids:=by rw[q2];simp
 subst this;rfl
theorem yo3 {s:List UInt8} (hs:s.length<=1048576) (h:(zad s).2.2=0):∃ E,s=(E++[10])++zde (E++[10])++[10]:=by
 have hsl:=(y6c 10 s).1;have hj:=y1o 10 s;unfold zad at h;rw[yul]at h;have w1:IntKind.wrap .i64 (((yq 10 s).length:Int)-2)=((yq 10 s).length:Int)-2:=by rw[IntKind.wrap_i64];omega
 have w2:IntKind.wrap .i64 (((yq 10 s).length:Int)-2+1)=((yq 10 s).length:Int)-1:=by rw[IntKind.wrap_i64];omega
 rw[w1,w2]at h
 cases hA:(decide (((yq 10 s).length:Int)-2<1) || ((yq 10 s).getD ((((yq 10 s).length:Int)-1).toNat) default != []))with
 | true=>rw[hA,cond_true]at h;exact absurd h (by decide)
 | false=>
  rw[hA,cond_false]at h;rw[Bool.or_eq_false_iff]at hA;have hn3:3<=(yq 10 s).length:=by have:=of_decide_eq_false hA.1;omega
  have hlast:(yq 10 s).getD ((yq 10 s).length-1) default=[]:=by
   have:=hA.2;rw[bne_eq_false_iff_eq,show(((yq 10 s).length:Int)-1).toNat=(yq 10 s).length-1 from by omega]at this;exact this
  rw[show(((yq 10 s).length:Int)-2).toNat=(yq 10 s).length-2 from by omega]at h;generalize hL:yq 10 s=L at *
  have eL:L=(L.take (L.length-2)++[L.getD (L.length-2) default])++[[]]:=by
   have e1:L=L.take (L.length-1)++[L.getD (L.length-1) default]:=by
    conv=>lhs;rw[<- List.take_append_drop (L.length-1) L]
    rw[List.drop_eq_getElem_cons (by omega),List.drop_eq_nil_of_le (by omega),List.getD_eq_getElem?_getD,List.getElem?_eq_getElem (by omega)];rfl
   have e2:L.take (L.length-1)=L.take (L.length-2)++[L.getD (L.length-2) default]:=by
    rw[show L.length-1=(L.length-2)+1 from by omega,List.take_succ_eq_append_getElem (by omega),List.getD_eq_getElem?_getD,List.getElem?_eq_getElem (by omega)];rfl
   rw[<- e2, <- hlast];exact e1
  generalize hT:L.getD (L.length-2) default=T at h eL
  have hne:L.take (L.length-2)≠[]:=by
   intro e0;have:=congrArg List.length e0;rw[List.length_take,List.length_nil]at this;omega
  obtain⟨E,hE⟩:=yg2 hne
  have es:s=jlN (L.take (L.length-2))++T++[10]:=by
   rw[eL,ytw]at hj;rw[<- hj];unfold jlN;rw[List.flatMap_append,List.flatMap_singleton,List.append_nil,List.append_assoc]
  have hlen:s.length=(jlN (L.take (L.length-2))).length+T.length+1:=by
   conv=>lhs;rw[es]
   simp only[List.length_append,List.length_singleton]
  have w4:(IntKind.wrap .i64 ((IntKind.wrap .i64 ((s.length:Int)-(T.length:Int)))-1)).toNat=(jlN (L.take (L.length-2))).length:=by rw[IntKind.wrap_i64,IntKind.wrap_i64];omega
  have tk:s.take (jlN (L.take (L.length-2))).length=jlN (L.take (L.length-2)):=by
   conv=>lhs;rw[es]
   rw[List.append_assoc];exact List.take_left
  rw[w4,tk]at h
  cases hB:(T != zde (jlN (L.take (L.length-2))))with
  | true=>rw[hB,cond_true]at h;exact absurd h (by decide)
  | false=>
   rw[bne_eq_false_iff_eq]at hB;refine⟨E,?_⟩;rw[es,hB,hE]
theorem ytfb {e:Edition} (h:EdOk e) {k:Nat} {x:UInt8} (hk:k<(zob e).1.length) (hx:x≠(zob e).1.getD k 0):(zad ((zob e).1.set k x)).2.2≠0:=by
 have hlen:=(yjj h).1;intro h0;obtain⟨E',h1⟩:=yo3 (by rw[List.length_set];omega) h0;obtain⟨E,hE⟩:=yg2 (L:=edL e) (by unfold edL;simp);rw[yit h,hE]at h1 hk hx;simp only[chkL]at h1 hk hx;exact ykdb zh (fun l=>zu l 65535) yc3 yocb (fun l k x hk hx=>ywbb hk hx) hk hx h1
def zrb (a0:(List Aid)) (a1:Correction):((List Aid)×Int):=
 (bif (a1.Kind == 2)then((zec a0 a1.Aid).1,(zec a0 a1.Aid).2)else(bif (a1.Kind == 3)then((zlg a0 a1.Aid).1,(zlg a0 a1.Aid).2)else(bif (decide (0<=(zkb a0 a1.Aid.Number)) && (!(zrc (a0.getD (((zkb a0 a1.Aid.Number)).toNat) default) a1.Aid)))then([],6)else((zmg a0 a1.Aid.Number).1,(zmg a0 a1.Aid.Number).2))))
namespace N43
theorem DD:DOk Tryz.prog (Go.Ab.DD [(27,dP D_zrc),(40,dP D_zec),(91,dP D_zlg),(92,dP D_zkb),(93,dP D_zmg)]):=ya y5p.e <| ya yfx.e <| ya yv7.e <| ya ynr.e <| ya ye9.e <| yc _
abbrev dn:=cj @D_zrc.eq_1 <| cj @D_zec.eq_1 <| cj @D_zlg.eq_1 <| cj @D_zkb.eq_1 <| @D_zmg.eq_1
theorem gr {p:Prop} (h:p:=by(grind [ydp]);first|done|fail):p:=h
theorem den (a0:(List Aid)) (a1:Correction) (hb0:a0.length<1099511627776) (hb1:∀ v∈a0,bdAid v) (hb2:bdCorrection a1) (hp0:a0.length<=1073741824):Den Tryz.prog 43 [encL 16 eAid a0,.ep (y8 a1)] (.tup [ownL 56 16 ytb ((zrb a0 a1).1),.int .i64 ((zrb a0 a1).2)]):=by
 generalize hR:zrb a0 a1=r;unfold zrb at hR;refine di Tryz.func43 Tryz.ntmps43 Tryz.results43 ?_;intro c hL hc hk;obtain⟨hL0,hL1,_⟩:=hL;have hw0:=lwA hL0;have hw1:∀ v∈a0,bwAid v:=fun v hv=>yr v ((yj hL0).2 v hv)
 have hw2:bwCorrection a1:=ymc a1 hL1;clear hL0 hL1;simp only[pars,Nat.zero_add];have hix:=ydp a0 a1.Aid.Number;iterate 3 refine rS ?_
 refine yb ?_ ?_<;>intro hb
 ·replace hR:=ct hR
  exact retR
 ·replace hR:=cf hR
  refine rS ?_;refine yb ?_ ?_<;>intro hb
  ·replace hR:=ct hR
   exact retR
  ·replace hR:=cf hR
   refine rS ?_;refine rD 12 ?_;refine yb ?_ ?_<;>intro hb
   ·replace hR:=ct hR
    exact retR
   ·replace hR:=cf hR
    exact retR
end N43
def D_zrb : DF
 | [x0,x1]=>some (.tup [ownL 56 16 ytb ((zrb (rdL dAid x0) (rdP ym x1)).1),.int .i64 ((zrb (rdL dAid x0) (rdP ym x1)).2)],false,[wL 16 eAid dAid x0,wP y8 ym x1,(rdL dAid x0).length<1099511627776,∀ v∈(rdL dAid x0),bdAid v,bdCorrection (rdP ym x1),(rdL dAid x0).length<=1073741824])
 | _=>none
theorem y07:OkD Tryz.prog 43 D_zrb:=by unfold D_zrb;exact dk N43.den
theorem mk23 {l:List Aid} {x:Correction} (hl:okP AidQ l) (h1:zw x.Aid=true) (h2:AidQ x.Aid) (hc:((zrb l x).2 == 0)=true):okP AidQ (zrb l x).1:=by
 rw[beq_iff_eq]at hc;unfold zrb at hc ⊢
 cases k2:(x.Kind == 2)with
 | true=>
  rw[k2]at hc;exact yvu AidQ hl ⟨h1,h2⟩ (Prod.ext rfl hc)
 | false=>
  rw[k2]at hc
  cases k3:(x.Kind == 3)with
  | true=>
   rw[k3]at hc;exact yb8 AidQ hl ⟨h1,h2⟩ (Prod.ext rfl hc)
  | false=>
   rw[k3]at hc;simp only[cond_false]at hc ⊢
   cases hd:(decide (0<=(zkb l x.Aid.Number)) && (!(zrc (l.getD (((zkb l x.Aid.Number)).toNat) default) x.Aid)))with
   | true=>rw[hd]at hc;exact absurd hc (by simp)
   | false=>
    rw[hd]at hc;exact y88 AidQ hl (Prod.ext rfl hc)
theorem memD {l:List Aid} {i:Nat} (h:i<l.length):l.getD i default∈l:=by
 rw[List.getD_eq_getElem?_getD,List.getElem?_eq_getElem h];exact List.getElem_mem h
theorem yjdb {n:Int} {s:l00Src} {l:List Aid} (hS:SrcOk n s) (hn:n<=900000) (hl:okP AidQ l) (hc:((zrb l ({ Kind:=2,Aid:=(zr s).1:Correction })).2 == 0)=true):okP AidQ (zrb l ({ Kind:=2,Aid:=(zr s).1:Correction })).1:=
 mk23 hl (ymh hS hn).2.1 (yj1 (ymh hS hn)) hc
theorem yjab {l:List Aid} {i:Nat} (hi:i<l.length) (hl:okP AidQ l) (hc:((zrb l ({ Kind:=1,Aid:=l.getD i default:Correction })).2 == 0)=true):okP AidQ (zrb l ({ Kind:=1,Aid:=l.getD i default:Correction })).1:=
 mk23 hl (hl.1.1 _ (memD hi)) (hl.2 _ (memD hi)) hc
def numA (k:Int) (a:Aid):Aid:={ Number:=k,Name:=a.Name,At:=a.At,Height:=a.Height,Mark:=a.Mark,Light:=a.Light,Sectors:=a.Sectors,Intensity:=a.Intensity:Aid }
theorem ykbb {a b:Aid} (ha:zw a=true) (hb:zw b=true):zw (numA b.Number a)=true:=by
 have hn:(!(zj b.Number 1 9999))=false:=by
  cases h:zj b.Number 1 9999 with
  | true=>rfl
  | false=>unfold zw at hb;rw[h]at hb;simp at hb
 have hm:(!(zj a.Number 1 9999))=false:=by
  cases h:zj a.Number 1 9999 with
  | true=>rfl
  | false=>unfold zw at ha;rw[h]at ha;simp at ha
 unfold zw at ha ⊢;rw[hm]at ha;unfold numA;simp only[hn];exact ha
theorem yddb {n:Int} {s:l00Src} {l:List Aid} {i:Nat} (hS:SrcOk n s) (hn:n<=900000) (hi:i<l.length) (hl:okP AidQ l) (hc:((zrb l ({ Kind:=3,Aid:=numA (l.getD i default).Number (zr s).1:Correction })).2 == 0)=true):okP AidQ (zrb l ({ Kind:=3,Aid:=numA (l.getD i default).Number (zr s).1:Correction })).1:=
 mk23 hl (ykbb (ymh hS hn).2.1 (hl.1.1 _ (memD hi))) (yj1 (ymh hS hn)) hc
def yps (a0:Edition) (i1:Nat) (s1:List UInt8):Except ((List UInt8)) (List UInt8):=
 .ok (s1++((ztf (a0.Aids.getD i1 default))++[10]))
def zdg (a0:Edition):(List UInt8):=
 (match ye (yps a0) (a0.Aids.length-0) 0 (((((([101,100,105,116,105,111,110,32]++(zf a0.Number))++[32])++(zqe a0.Day))++[32])++(zf (a0.Aids.length:Int)))++[10])with|.error e=>e|.ok s1=>((s1++[99,104,101,99,107,32])++(zf (zhc s1 65535)))++[10])
namespace N37
theorem DD:DOk Tryz.prog (Go.Ab.DD [(78,dP D_zf),(79,dP D_zqe),(80,dP D_ztf),(81,dP D_zhc)]):=ya yrf.e <| ya ye6.e <| ya ys6.e <| ya ye7.e <| yc _
abbrev dn:=cj @D_zf.eq_1 <| cj @D_zqe.eq_1 <| cj @D_ztf.eq_1 <| @D_zhc.eq_1
theorem o0 {p:Prop} (h:p:=by(first|(have h8:=hon i1 (by assumption);have l4:=yzl (hbe i1) h8;have hbd:=hbe i1;(repeat' with_reducible apply And.intro)<;>first|with_reducible assumption|omega|(simp only[List.length_append,List.length_cons,List.length_nil,List.length_singleton];omega))|(have hc:=ycx s1;have l5:=yhd (zhc s1 65535) (by omega) (by omega);(repeat' with_reducible apply And.intro)<;>first|with_reducible assumption|omega|(simp only[List.length_append,List.length_cons,List.length_nil,List.length_singleton];omega))|((repeat' with_reducible apply And.intro)<;>first|with_reducible assumption|omega|(simp only[List.length_append,List.length_cons,List.length_nil,List.length_singleton];omega)));first|done|fail):p:=h
set_option maxHeartbeats 1000000 in
set_option maxRecDepth 20000 in
theorem den (a0:Edition) (hb0:bdEdition a0) (hp0:zxe a0=true):Den Tryz.prog 37 [.ep (ywb a0)] (.str (zdg a0)):=by
 generalize hR:zdg a0=r;unfold zdg at hR;refine di Tryz.func37 Tryz.ntmps37 Tryz.results37 ?_;intro c hL hc hk;obtain⟨hL0,_⟩:=hL;have hw0:bwEdition a0:=ysc a0 hL0;clear hL0;simp only[pars,Nat.zero_add];have h9:=yh2 hp0;have hon:=ytx h9.2.2.2.2.2;have l1:=yhd a0.Number (by omega) (by omega);have l2:=y8cb a0.Day (by omega) (by omega);have l3:=yhd (a0.Aids.length:Int) (by omega) (by omega);have hbe:∀ i:Nat,bdAid (a0.Aids.getD i default):=fun i=>ytf hb0.2 (by decide) i
 have hbl:a0.Aids.length<1099511627776:=hb0.1;have hbv:∀ v∈a0.Aids,bdAid v:=hb0.2;refine rS ?_;refine rD 22 ?_;refine rS ?_;refine AWP.block ?_;refine AWP.lensS 22 rfl (fun hLn1 => ?_);generalize hz1:ye (yps a0) (a0.Aids.length-0) 0 (((((([101,100,105,116,105,111,110,32]++(zf a0.Number))++[32])++(zqe a0.Day))++[32])++(zf (a0.Aids.length:Int)))++[10])=z1 at hR;refine AWP.range (yps a0) (fun i1 s1=>⟨[(0,.ep (ywb a0)),(3,.str s1),(4,.int .i64 (i1:Int))],[]⟩) (fun i1 s1=>s1.length<=100000+400 * i1) (a0.Aids.length) 0 (((((([101,100,105,116,105,111,110,32]++(zf a0.Number))++[32])++(zqe a0.Day))++[32])++(zf (a0.Aids.length:Int)))++[10]) [] hz1 ot (by(simp only[List.length_append,List.length_cons,List.length_nil,List.length_singleton];omega)) sm ?_;clear hz1;intro i1 s1 hi1 hW1 hz1;refine rS ?_;refine yb ?_ ?_<;>intro hb
 ·have hlt1:i1<a0.Aids.length:=ot
  rw[yi hlt1]at hz1;simp only[yps]at hz1;iterate 2 refine rS ?_
  exact⟨_,[],hlt1,by(have h8:=hon i1 (by assumption);have l4:=yzl (hbe i1) h8;simp only[List.length_append,List.length_cons,List.length_nil,List.length_singleton];omega),hz1,sm⟩
 ·obtain rfl:i1=a0.Aids.length:=ot
  exact retX
end N37
def D_zdg : DF
 | [x0]=>some (.str (zdg (rdP ygb x0)),false,[wP ywb ygb x0,bdEdition (rdP ygb x0),zxe (rdP ygb x0)=true])
 | _=>none
theorem yt5:OkD Tryz.prog 37 D_zdg:=by unfold D_zdg;exact dk N37.den
def zhg (a0:Edition):((List UInt8)×Int):=
 (bif (!(zxe a0))then([],1)else((zdg a0),0))
namespace N16
theorem DD:DOk Tryz.prog (Go.Ab.DD [(36,dP D_zxe),(37,dP D_zdg)]):=ya yy4.e <| ya yt5.e <| yc _
abbrev dn:=cj @D_zxe.eq_1 <| @D_zdg.eq_1
theorem o0 {p:Prop} (h:p:=by(first|(have q9 := ‹(!zxe a0)=false›;have q8:zxe a0=true:=(by simpa using q9);(repeat' with_reducible apply And.intro)<;>first|exact q8|assumption|omega));first|done|fail):p:=h
theorem den (a0:Edition) (hb0:bdEdition a0):Den Tryz.prog 16 [.agg (ywb a0)] (.tup [.str ((zhg a0).1),.int .i64 ((zhg a0).2)]):=by
 generalize hR:zhg a0=r;unfold zhg at hR;refine di Tryz.func16 Tryz.ntmps16 Tryz.results16 ?_;intro c hL hc hk;obtain⟨hL0,_⟩:=hL;have hw0:bwEdition a0:=ysc a0 hL0;clear hL0;simp only[pars,Nat.zero_add];iterate 2 refine rS ?_
 refine yb ?_ ?_<;>intro hb
 ·replace hR:=ct hR
  exact retR
 ·replace hR:=cf hR
  exact retR
end N16
def D_zhg : DF
 | [x0]=>some (.tup [.str ((zhg (rdG ygb x0)).1),.int .i64 ((zhg (rdG ygb x0)).2)],false,[wG ywb ygb x0,bdEdition (rdG ygb x0)])
 | _=>none
theorem y86:OkD Tryz.prog 16 D_zhg:=by unfold D_zhg;exact dk N16.den
theorem yku (e:Edition) (hl:∀ v∈e.Aids,aidL v):zob e=zhg e:=by
 unfold zob zhg;rw[yiq hl]
 cases h:zxe e with
 | false=>rfl
 | true=>
  have hr:=yh2 h;have hd:∀ m:Int,0<=m->m<=99999->zh m=zf m:=fun m a b=>by rw[yoi m (by omega) (by omega)];rfl
  simp only[Bool.not_true,cond_false];unfold zdg zpc;have ej:∀ a b c d:List UInt8,zsb [a,b,c,d] [32]=a++([32]++(b++([32]++(c++([32]++d))))):=fun a b c d=>yzbb a b c d [32]
  have hb:∀ j (u:List UInt8),j<e.Aids.length->yok e j u=.ok (u++(ztf (e.Aids.getD j default)++[10])):=fun j u hj=>by
   have h1:=ytx hr.2.2.2.2.2 j hj
   have hA:aidL (e.Aids.getD j default):=by
    rw[List.getD_eq_getElem?_getD,List.getElem?_eq_getElem hj];exact hl _ (List.getElem_mem hj)
   unfold yok;rw[(y7k h1 hA.1).1]
  have l1:=y9c (yok e) (fun j=>ztf (e.Aids.getD j default)++[10]) e.Aids.length 0;have l2:=y9c (yps e) (fun j=>ztf (e.Aids.getD j default)++[10]) e.Aids.length 0;rw[Nat.sub_zero,l1 _ (fun j s _ hj=>hb j s (by omega)),l2 _ (fun j s _ hj=>rfl),ej,ycv _ hr.2.2.1 hr.2.2.2.1,hd _ (by omega) (by omega),hd _ (by omega) (by omega)];simp only;unfold zde;have hs:([101,100,105,116,105,111,110]:List UInt8)++([32]++(zf e.Number++([32]++(zqe e.Day++([32]++zf (e.Aids.length:Int))))))++[10]=((((([101,100,105,116,105,111,110,32]++zf e.Number)++[32])++zqe e.Day)++[32])++zf (e.Aids.length:Int))++[10]:=by simp
  rw[hs,yqab];generalize ((((([101,100,105,116,105,111,110,32]++zf e.Number)++[32])++zqe e.Day)++[32])++zf (e.Aids.length:Int))++[10]++(List.range' 0 e.Aids.length).flatMap (fun j=>ztf (e.Aids.getD j default)++[10])=t;have hc:0<=zhc t 65535/\zhc t 65535<=65535:=ycx t;rw[hd _ hc.1 (by omega)];simp
def yyl (a0:l00Src) (a1:(List Aid)) (q2:l00Src) (s1:List Aid×Int×l00Src):Except (Sum ((List Aid)×l00Src) (List Aid×Int×l00Src)) (List Aid×Int×l00Src):=
 (bif decide (0<s1.2.1)then(bnd ((zr s1.2.2).2) fun q12=>(bif decide (0<(s1.1.length:Int))then(bnd ((za q12 3).2) fun q14=>(bif decide (0<((za q12 3).1))then(bnd ((za q14 (s1.1.length:Int)).2) fun q16=>(bnd ((zn q16 2).2) fun q18=>(bif ((zn q16 2).1)then(bif (((zrb s1.1 ({ Kind:=3,Aid:={ Number:=(s1.1.getD ((((za q14 (s1.1.length:Int)).1)).toNat) default).Number,Name:=((zr s1.2.2).1).Name,At:=((zr s1.2.2).1).At,Height:=((zr s1.2.2).1).Height,Mark:=((zr s1.2.2).1).Mark,Light:=((zr s1.2.2).1).Light,Sectors:=((zr s1.2.2).1).Sectors,Intensity:=((zr s1.2.2).1).Intensity:Aid }:Correction })).2) == 0)then .ok ((zrb s1.1 ({ Kind:=3,Aid:={ Number:=(s1.1.getD ((((za q14 (s1.1.length:Int)).1)).toNat) default).Number,Name:=((zr s1.2.2).1).Name,At:=((zr s1.2.2).1).At,Height:=((zr s1.2.2).1).Height,Mark:=((zr s1.2.2).1).Mark,Light:=((zr s1.2.2).1).Light,Sectors:=((zr s1.2.2).1).Sectors,Intensity:=((zr s1.2.2).1).Intensity:Aid }:Correction })).1,IntKind.wrap .i64 (s1.2.1-1),q18)else .ok (s1.1,IntKind.wrap .i64 (s1.2.1-1),q18))else(bif (((zrb s1.1 ({ Kind:=1,Aid:=(s1.1.getD ((((za q14 (s1.1.length:Int)).1)).toNat) default):Correction })).2) == 0)then .ok ((zrb s1.1 ({ Kind:=1,Aid:=(s1.1.getD ((((za q14 (s1.1.length:Int)).1)).toNat) default):Correction })).1,IntKind.wrap .i64 (s1.2.1-1),q18)else .ok (s1.1,IntKind.wrap .i64 (s1.2.1-1),q18)))))else(bif (((zrb s1.1 ({ Kind:=2,Aid:=((zr s1.2.2).1):Correction })).2) == 0)then .ok ((zrb s1.1 ({ Kind:=2,Aid:=((zr s1.2.2).1):Correction })).1,IntKind.wrap .i64 (s1.2.1-1),q14)else .ok (s1.1,IntKind.wrap .i64 (s1.2.1-1),q14))))else(bif (((zrb s1.1 ({ Kind:=2,Aid:=((zr s1.2.2).1):Correction })).2) == 0)then .ok ((zrb s1.1 ({ Kind:=2,Aid:=((zr s1.2.2).1):Correction })).1,IntKind.wrap .i64 (s1.2.1-1),q12)else .ok (s1.1,IntKind.wrap .i64 (s1.2.1-1),q12))))else .error (.inr (s1.1,s1.2.1,s1.2.2)))
def zre (a0:l00Src) (a1:(List Aid)):(List Aid)×l00Src:=
 (bnd ((za a0 4).2) fun q2=>(match yab (yyl a0 a1 q2) (((((za a0 4).1)).toNat)+1) ((zpb a1),((za a0 4).1),q2)with|.error (.inl e)=>e|.error (.inr s1)=>(s1.1,s1.2.2)|.ok _=>default))
namespace N19
theorem DD:DOk Tryz.prog (Go.Ab.DD [(38,dM [true,false] D_za),(39,dM [true] D_zr),(41,dP D_zpb),(42,dM [true,false] D_zn),(43,dP D_zrb)]):=ya ylf.e <| ya yw3.e <| ya yal.e <| ya y3l.e <| ya y07.e <| yc _
abbrev dn:=cj @D_za.eq_1 <| cj @D_zr.eq_1 <| cj @D_zpb.eq_1 <| cj @D_zn.eq_1 <| @D_zrb.eq_1
abbrev ol:=@yuc
theorem o0 {p:Prop} (h:p:=by(first|(have hk24:=hW1.2.2.2.1.2.2;(repeat' with_reducible apply And.intro)<;>first|omega|(exact fun v h=>(hW1.2.2.2.2 v h).1)|(exact y9q (ymh hW1.2.2.1 (by omega)))|(exact(hW1.2.2.2.2 _ (memD (pk_b (by assumption) (by assumption) (by omega)).2.2)).1)));first|done|fail):p:=h
theorem o1 {p:Prop} (h:p:=by(first|(exact SrcOk.mono hW1.2.2.1 (by omega))|(with_reducible exact hpb)|(have hk24:=hW1.2.2.2.1.2.2;omega)|(exact fun v h=>(hW1.2.2.2.2 v h).1)|(exact y9q (ymh hW1.2.2.1 (by omega)))|(exact(hW1.2.2.2.2 _ (memD (pk_b (by assumption) (by assumption) (by omega)).2.2)).1)|(exact(pk_b (by assumption) (by assumption) (by omega)).1)|(exact(pk_b (by assumption) (by assumption) (by omega)).2.1)|(exact(pk_b (by assumption) (by assumption) (by omega)).2.2)|(refine SrcOk.mono (by repeat' first|assumption|exact SrcOk.next ‹_› | apply SrcOk.next|apply SrcOk.pick|apply SrcOk.one|apply SrcOk.among|apply SrcOk.text|apply SrcOk.colors|apply SrcOk.point|apply SrcOk.chr|apply SrcOk.sectors|apply SrcOk.aid|apply SrcOk.aids|apply SrcOk.notice|omega) (by omega))|(exact(yn _ (by assumption) (by omega)).1)|(exact(yn _ (by assumption) (by omega)).2 (by omega))|(rename_i h9;simp only[beq_eq_false_iff_ne,ne_eq]at h9;exact(yn _ (by assumption) (by omega)).2 (by omega))|(rename_i h9;replace h9:=of_decide_eq_true h9;exact(yn _ (by assumption) (by omega)).2 (by omega)));first|done|fail):p:=h
theorem wq0 {p:Prop} (h:p:=by(have hpos:0<s1.2.1:=of_decide_eq_true (by assumption);have hwr:IntKind.wrap .i64 (s1.2.1-1)=s1.2.1-1:=(by rw[IntKind.wrap_i64];omega);(try dsimp only);rw[hwr];exact⟨by omega,by omega,SrcOk.mono (by assumption) (by omega),by first|exact hW1.2.2.2|exact yjdb hW1.2.2.1 (by omega) hW1.2.2.2 (by assumption)|exact yjab (pk_b (by assumption) (by assumption) (by omega)).2.2 hW1.2.2.2 (by assumption)|exact yddb hW1.2.2.1 (by omega) (pk_b (by assumption) (by assumption) (by omega)).2.2 hW1.2.2.2 (by assumption)⟩);first|done|fail):p:=h
theorem wq1 {p:Prop} (h:p:=by(have hpos:0<s1.2.1:=of_decide_eq_true (by assumption);have hwr:IntKind.wrap .i64 (s1.2.1-1)=s1.2.1-1:=(by rw[IntKind.wrap_i64];omega);(try dsimp only);rw[hwr];omega);first|done|fail):p:=h
set_option maxHeartbeats 4000000 in
set_option maxRecDepth 20000 in
theorem den (a0:l00Src) (a1:(List Aid)) (hp0:SrcOk 300000 a0) (hp1:okP AidQ a1):DenM Tryz.prog 19 [.op (yt a0),encL 16 eAid a1] (encL 16 eAid ((zre a0 a1).1)) [(.op (yt ((zre a0 a1).2))),.any]:=by
 generalize hR:zre a0 a1=r;unfold zre at hR;refine dj (gb:=[true,false]) Tryz.func19 Tryz.ntmps19 Tryz.results19 ?_;intro c hL hc hk;obtain⟨hL0,hL1,_⟩:=hL;have hw0:bwl00Src a0:=ykb a0 hL0;have hw1:=lwA hL1;have hw2:∀ v∈a1,bwAid v:=fun v hv=>yr v ((yj hL1).2 v hv)
 clear hL0 hL1;simp only[adEL,adE,adRL,adR,ownL,encL,sv,List.nil_append,List.append_nil,List.cons_append,List.length_cons,List.length_nil,pars,Nat.zero_add,Nat.reduceAdd]at hk ⊢;have hp24:=hp1.1.2.2;have hpb:=fun v h=>(hp1.2 v h).1
 iterate 2 refine rS ?_
 refine AWP.lendV 5 1 (fun j=>eAid ((zpb a1).getD j default)) rfl rfl (Nat.le_refl _) lv1 lv2 ?_;simp only[setE];refine rS ?_;generalize hq2:(za a0 4).2=q2 at hR ⊢;replace hR:=bn hR;have hS_q2:SrcOk (300002) q2:=by rw[<- hq2];exact SrcOk.pick hp0 (by omega)
 refine AWP.block ?_;generalize hz1:yab (yyl a0 a1 q2) (((((za a0 4).1)).toNat)+1) ((zpb a1),((za a0 4).1),q2)=z1 at hR;refine AWP.whileW (yyl a0 a1 q2) (fun s1=>⟨[(0,.ptr 0 0),(5,encL 16 eAid s1.1),(6,.int .i64 s1.2.1)],[.box [encL 1 eIu8 s1.2.2.code,.int .i64 s1.2.2.at_,.int .u64 s1.2.2.seed]]⟩) (fun s1=>0<=s1.2.1/\s1.2.1<=3/\SrcOk (300040+1000 * (3-s1.2.1)) s1.2.2/\okP AidQ s1.1) (fun s1=>(s1.2.1).toNat) (((((za a0 4).1)).toNat)+1) ((zpb a1),((za a0 4).1),q2) [0] hz1 m0 (by(have h2:=yn 4 hp0 (by omega);have h3:=h2.2 (by omega);refine⟨h2.1,by(try dsimp only);omega,SrcOk.mono (by assumption) (by(try dsimp only);omega),by(try dsimp only);rw[yuc];exact hp1⟩)) sm ?_;clear hz1;intro s1 k1 hW1 hm1 hz1;simp only[yyl]at hz1;refine rS ?_;refine yb ?_ ?_<;>intro hb
 ·simp only[hb,cond_true]at hz1
  refine rS ?_;generalize hq12:(zr s1.2.2).2=q12 at hz1 ⊢;rw[bndv q12]at hz1;have hS_q12:SrcOk (300040+1000 * (3-s1.2.1)+400) q12:=by rw[<- hq12];exact SrcOk.aid hW1.2.2.1 (by omega)
  iterate 2 refine rS ?_
  refine AWP.seq ?_;refine AWP.seq ?_;rcases Bool.eq_false_or_eq_true (decide (0<(s1.1.length:Int)))with hb|hb
  ·simp only[hb,cond_true]at hz1
   refine rK [(3,0),(4,0),(5,0),(6,2)] ?_;generalize hq14:(za q12 3).2=q14 at hz1 ⊢;rw[bndv q14]at hz1;have hS_q14:SrcOk (300040+1000 * (3-s1.2.1)+400+2) q14:=by rw[<- hq14];exact SrcOk.pick hS_q12 (by omega)
   refine yb ?_ ?_<;>intro hb
   ·simp only[hb,cond_true]at hz1
    refine rS ?_;generalize hq16:(za q14 (s1.1.length:Int)).2=q16 at hz1 ⊢;rw[bndv q16]at hz1;have hS_q16:SrcOk (300040+1000 * (3-s1.2.1)+400+2+2) q16:=by rw[<- hq16];exact SrcOk.pick hS_q14 (by omega)
    iterate 2 refine rS ?_
    generalize hq18:(zn q16 2).2=q18 at hz1 ⊢;rw[bndv q18]at hz1;have hS_q18:SrcOk (300040+1000 * (3-s1.2.1)+400+2+2+2) q18:=by rw[<- hq18];exact SrcOk.one hS_q16 (by omega)
    refine yb ?_ ?_<;>intro hb
    ·simp only[hb,cond_true]at hz1
     iterate 3 refine rS ?_
     refine AWP.lendV 11 4 (fun j=>eAid (((zrb s1.1 ({ Kind:=3,Aid:={ Number:=(s1.1.getD ((((za q14 (s1.1.length:Int)).1)).toNat) default).Number,Name:=((zr s1.2.2).1).Name,At:=((zr s1.2.2).1).At,Height:=((zr s1.2.2).1).Height,Mark:=((zr s1.2.2).1).Mark,Light:=((zr s1.2.2).1).Light,Sectors:=((zr s1.2.2).1).Sectors,Intensity:=((zr s1.2.2).1).Intensity:Aid }:Correction })).1).getD j default)) rfl rfl (Nat.le_refl _) lv1 lv2 ?_;simp only[setE];refine rS ?_;refine yb ?_ ?_<;>intro hb
     ·simp only[hb,cond_true]at hz1
      iterate 2 refine rS ?_
      clear hR;exact⟨_,[0],wq1,wq0,hz1,sm⟩
     ·simp only[hb,cond_false]at hz1
      refine rS ?_;clear hR;exact⟨_,[0],wq1,wq0,hz1,sm⟩
    ·simp only[hb,cond_false]at hz1
     refine rS ?_;refine AWP.lendV 11 4 (fun j=>eAid (((zrb s1.1 ({ Kind:=1,Aid:=(s1.1.getD ((((za q14 (s1.1.length:Int)).1)).toNat) default):Correction })).1).getD j default)) rfl rfl (Nat.le_refl _) lv1 lv2 ?_;simp only[setE];refine rS ?_;refine yb ?_ ?_<;>intro hb
     ·simp only[hb,cond_true]at hz1
      iterate 2 refine rS ?_
      clear hR;exact⟨_,[0],wq1,wq0,hz1,sm⟩
     ·simp only[hb,cond_false]at hz1
      refine rS ?_;clear hR;exact⟨_,[0],wq1,wq0,hz1,sm⟩
   ·simp only[hb,cond_false]at hz1
    refine rS ?_;refine AWP.lendV 11 3 (fun j=>eAid (((zrb s1.1 ({ Kind:=2,Aid:=((zr s1.2.2).1):Correction })).1).getD j default)) rfl rfl (Nat.le_refl _) lv1 lv2 ?_;simp only[setE];refine rS ?_;refine yb ?_ ?_<;>intro hb
    ·simp only[hb,cond_true]at hz1
     iterate 2 refine rS ?_
     clear hR;exact⟨_,[0],wq1,wq0,hz1,sm⟩
    ·simp only[hb,cond_false]at hz1
     refine rS ?_;clear hR;exact⟨_,[0],wq1,wq0,hz1,sm⟩
  ·simp only[hb,cond_false]at hz1
   refine rK [(3,1),(4,1),(5,1),(6,3)] ?_;refine yb ?_ ?_<;>intro hb
   ·exact absurd hb (by decide)
   ·refine rS ?_
    refine AWP.lendV 11 3 (fun j=>eAid (((zrb s1.1 ({ Kind:=2,Aid:=((zr s1.2.2).1):Correction })).1).getD j default)) rfl rfl (Nat.le_refl _) lv1 lv2 ?_;simp only[setE];refine rS ?_;refine yb ?_ ?_<;>intro hb
    ·simp only[hb,cond_true]at hz1
     iterate 2 refine rS ?_
     clear hR;exact⟨_,[0],wq1,wq0,hz1,sm⟩
    ·simp only[hb,cond_false]at hz1
     refine rS ?_;clear hR;exact⟨_,[0],wq1,wq0,hz1,sm⟩
 ·simp only[hb,cond_false]at hz1
  refine AWP.exit ?_;refine yf ?_;subst hz1;dsimp only at hR;exact retR
end N19
def D_zre : List AV -> Option (AV × List AV × List Prop)
 | [x0,x1]=>some (encL 16 eAid ((zre (rdQ yx x0) (rdL dAid x1)).1),[(.op (yt ((zre (rdQ yx x0) (rdL dAid x1)).2))),.any],[wQ yt yx x0,wL 16 eAid dAid x1,SrcOk 300000 (rdQ yx x0),okP AidQ (rdL dAid x1)])
 | _=>none
theorem yo6:OkM Tryz.prog 19 D_zre:=by unfold D_zre;exact dm N19.den
def zwg (a0:(List Int)) (a1:(List Aid)):(List Aid):=
 ((zre (zzf a0) a1).1)
namespace N6
theorem DD:DOk Tryz.prog (Go.Ab.DD [(17,dP D_zzf),(19,dM [true,false] D_zre)]):=ya yzx.e <| ya yo6.e <| yc _
abbrev dn:=cj @D_zzf.eq_1 <| @D_zre.eq_1
theorem o1 {p:Prop} (h:p:=by(first|(exact⟨Int.le_refl _,by show(0:Int)<=300000;omega,hp0⟩));first|done|fail):p:=h
theorem den (a0:(List Int)) (a1:(List Aid)) (hp0:∀ v∈a0,0<=v/\v<=255) (hp1:okP AidQ a1):Den Tryz.prog 6 [encL 1 eIu8 a0,encL 16 eAid a1] (encL 16 eAid (zwg a0 a1)):=by
 generalize hR:zwg a0 a1=r;unfold zwg at hR;refine di Tryz.func6 Tryz.ntmps6 Tryz.results6 ?_;intro c hL hc hk;obtain⟨hL0,hL1,_⟩:=hL;have hw0:=lwA hL0;have hw1:=lwA hL1;have hw2:∀ v∈a1,bwAid v:=fun v hv=>yr v ((yj hL1).2 v hv)
 clear hL0 hL1;simp only[pars,Nat.zero_add];iterate 2 refine rS ?_
 exact retR
end N6
def D_zwg : DF
 | [x0,x1]=>some (encL 16 eAid (zwg (rdL dIu8 x0) (rdL dAid x1)),false,[wL 1 eIu8 dIu8 x0,wL 16 eAid dAid x1,∀ v∈(rdL dIu8 x0),0<=v/\v<=255,okP AidQ (rdL dAid x1)])
 | _=>none
theorem yf6:OkD Tryz.prog 6 D_zwg:=by unfold D_zwg;exact dk N6.den
theorem yybb {ρ:Type} {l:List Aid} {x:Correction} (hl:okP AidQ l) (h:((zrb l x).2 == 0)=true->okP AidQ (zrb l x).1) :
  ∃ l',okP AidQ l'/\∀ (k:Int) (q:l00Src),(bif ((zrb l x).2 == 0)then(.ok ((zrb l x).1,k,q):Except ρ (List Aid×Int×l00Src))else .ok (l,k,q))=.ok (l',k,q):=by
 cases hc:((zrb l x).2 == 0)with
 | true=>exact⟨_,h hc,fun k q=>rfl⟩
 | false=>exact⟨_,hl,fun k q=>rfl⟩
structure ChI (N:Int) (s:List Aid×Int×l00Src):Prop where
 a:0<=s.2.1
 b:s.2.1<=3
 q:SrcOk (N+500 * (3-s.2.1)) s.2.2
 o:okP AidQ s.1
theorem yicb {N:Int} (a0 q2:l00Src) (a1:List Aid) (hN:N<=500000) (k:Nat) (s:List Aid×Int×l00Src) (h:ChI N s) (hk:s.2.1.toNat<k):∃ t,yab (yyl a0 a1 q2) k s=.error (.inr t)/\ChI N t:=by
 obtain⟨e,h1,t,rfl,h2⟩:=yqg (b:=yyl a0 a1 q2) (ChI N) (fun e=>∃ t,e=.inr t/\ChI N t) (fun s=>s.2.1.toNat) (fun s h=>by
  obtain⟨l,k,src⟩:=s;obtain⟨ha,hb,hs,ho⟩:=h;simp only at ha hb hs ho;unfold yyl;simp only;by_cases hc:0<k
  ·rw[decide_eq_true hc,cond_true]
   left
   have hw:IntKind.wrap .i64 (k-1)=k-1:=by rw[IntKind.wrap_i64];omega
   have hs2:=(ymh hs (by omega)).1;simp only[bnd,hw];have fin:∀ (l':List Aid) (q':l00Src) (M:Int),okP AidQ l'->SrcOk M q'->M<=N+500 * (3-k)+406->ChI N (l',k-1,q')/\(k-1).toNat<k.toNat:=fun l' q' M hl hq hM=>⟨⟨by show 0<=k-1;omega,by show k-1<=3;omega,hq.mono (by show M<=N+500 * (3-(k-1));omega),hl⟩,by omega⟩
   obtain⟨lA,oA,eA⟩:=yybb (ρ:=Sum ((List Aid)×l00Src) (List Aid×Int×l00Src)) ho (yjdb hs (by omega) ho)
   cases hl:decide (0<(l.length:Int))with
   | false=>
    rw[cond_false,eA];obtain⟨f1,f2⟩:=fin lA _ _ oA hs2 (by omega);exact⟨_,rfl,f1,f2⟩
   | true=>
    rw[cond_true];have hq14:=hs2.pick (m:=3) (by omega)
    cases hp:decide (0<(za (zr src).2 3).1)with
    | false=>
     rw[cond_false,eA];obtain⟨f1,f2⟩:=fin lA _ _ oA hq14 (by omega);exact⟨_,rfl,f1,f2⟩
    | true=>
     rw[cond_true];have hix:=(pk_b hl hq14 (by omega)).2.2;have hq16:=hq14.pick (m:=(l.length:Int)) (by omega);have hq18:=SrcOk.one (n:=_) (s:=_) (m:=2) hq16 (by omega)
     cases(zn (za (za (zr src).2 3).2 (l.length:Int)).2 2).1 with
     | true=>
      rw[cond_true];obtain⟨lB,oB,eB⟩:=yybb (ρ:=Sum ((List Aid)×l00Src) (List Aid×Int×l00Src)) ho (yddb hs (by omega) hix ho);unfold numA at eB;rw[eB];obtain⟨f1,f2⟩:=fin lB _ _ oB hq18 (by omega);exact⟨_,rfl,f1,f2⟩
     | false=>
      rw[cond_false];obtain⟨lB,oB,eB⟩:=yybb (ρ:=Sum ((List Aid)×l00Src) (List Aid×Int×l00Src)) ho (yjab hix ho);rw[eB];obtain⟨f1,f2⟩:=fin lB _ _ oB hq18 (by omega);exact⟨_,rfl,f1,f2⟩
  ·rw[decide_eq_false hc,cond_false]
   exact .inr ⟨_,rfl,_,rfl,ha,hb,hs,ho⟩) k s h hk
 exact⟨t,h1,h2⟩
theorem yz2 {a1:List Int} {qa:List Aid} (hp1:∀ v∈a1,0<=v/\v<=255) (hA:okP AidQ qa):okP AidQ (zwg a1 qa):=by
 have h:SrcOk 0 (zzf a1):=⟨Int.le_refl _,Int.le_refl _,hp1⟩
 unfold zwg;generalize zzf a1=s at h;have hr:=yn 4 h (by omega);have hr2:=hr.2 (by omega);have q2:=h.pick (m:=4) (by omega);unfold zre;simp only[bnd];obtain⟨t,e1,e2⟩:=yicb (N:=2) s (za s 4).2 qa (by omega) (((za s 4).1).toNat+1) (zpb qa,(za s 4).1,(za s 4).2) ⟨hr.1,by show(za s 4).1<=3;omega,q2.mono (by show _<=2+500 * (3-(za s 4).1);omega),by show okP AidQ (zpb qa);rw[yuc];exact hA⟩ (by show((za s 4).1).toNat<_;omega);rw[e1];exact e2.o
def y6e (a b:List Aid):List Correction:=a.flatMap (dg1 b)++b.flatMap (dg2 a)
theorem ybm {a b:List Aid} (ha:okP AidQ a) (hb:okP AidQ b):zxb a b=(y6e a b,0):=by
 have la:=ha.1.2.2;have lb:=hb.1.2.2;unfold zxb;rw[ypc a (fun v h=>(ha.2 v h).l),ypc b (fun v h=>(hb.2 v h).l),(y4h a).2 ha.1,(y4h b).2 hb.1];simp only[Bool.not_true,Bool.or_false,cond_false]
 rw[ymf a (yxo a b) (fun x s=>.ok (s++dg1 b x)) [] (fun i s _=>by
  simp only[yxo,yqm b _ (show b.length<9223372036854775808 by omega),ykd];unfold dg1
  cases hasN b (a.getD i default).Number with
  | true=>simp
  | false=>rfl),y7h]
 simp only[List.nil_append]
 rw[ymf b (y6o a b (a.flatMap (dg1 b))) (fun x s=>.ok (s++dg2 a x)) _ (fun i s _=>by
  simp only[y6o,yqm a _ (show a.length<9223372036854775808 by omega),ykd];unfold dg2
  cases hasN a (b.getD i default).Number with
  | false=>rfl
  | true=>
   cases zrc (a.getD (upto a (b.getD i default).Number) default) (b.getD i default)with
   | false=>rfl
   | true=>simp),y7h]
 rfl
theorem y0bb {b:List Aid} {x:Aid} {c:Correction} (h:c∈dg1 b x):c.Aid=x/\c.Kind=1:=by
 unfold dg1 at h
 cases hn:hasN b x.Number with
 | true=>rw[hn]at h;cases h
 | false=>rw[hn]at h;rw[List.mem_singleton.1 h];exact⟨rfl,rfl⟩
theorem y1ab {a:List Aid} {x:Aid} {c:Correction} (h:c∈dg2 a x):c.Aid=x/\(c.Kind=2\/c.Kind=3):=by
 unfold dg2 at h
 cases hn:hasN a x.Number with
 | false=>rw[hn]at h;rw[List.mem_singleton.1 h];exact⟨rfl,.inl rfl⟩
 | true=>
  rw[hn]at h
  cases hs:zrc (a.getD (upto a x.Number) default) x with
  | true=>rw[hs]at h;cases h
  | false=>rw[hs]at h;rw[List.mem_singleton.1 h];exact⟨rfl,.inr rfl⟩
theorem ydn {a b:List Aid} {c:Correction} (h:c∈y6e a b):(c.Aid∈a\/c.Aid∈b)/\1<=c.Kind/\c.Kind<=3:=by
 rcases List.mem_append.1 h with h|h
 ·obtain⟨x,hx,hc⟩:=List.mem_flatMap.1 h
  obtain⟨e1,e2⟩:=y0bb hc;exact⟨.inl (by rw[e1];exact hx),by omega,by omega⟩
 ·obtain⟨x,hx,hc⟩:=List.mem_flatMap.1 h
  obtain⟨e1,e2⟩:=y1ab hc;exact⟨.inr (by rw[e1];exact hx),by omega,by omega⟩
theorem y4m {α β : Type} (g : α -> List β) (h : ∀ x, (g x).length <= 1) : ∀ l : List α, (l.flatMap g).length <= l.length
 | []=>by simp
 | x::l=>by
  have:=y4m g h l;have:=h x;rw[List.flatMap_cons,List.length_append,List.length_cons];omega
theorem ycm {a b:List Aid} (ha:a.length<=24) (hb:b.length<=24):(y6e a b).length<=48:=by
 have h1:=y4m (dg1 b) (fun x=>by unfold dg1;cases hasN b x.Number<;>simp) a;have h2:=y4m (dg2 a) (fun x=>by unfold dg2;cases hasN a x.Number<;>cases zrc (a.getD (upto a x.Number) default) x<;>simp) b;unfold y6e;rw[List.length_append];omega
theorem yidb {a b:List Aid} (ha:okP AidQ a) (hb:okP AidQ b):(∀ v∈(zxb a b).1,bdCorrection v)/\(zxb a b).1.length<=48:=by
 rw[ybm ha hb];refine⟨fun c hc => ?_,ycm ha.1.2.2 hb.1.2.2⟩;rcases(ydn hc).1 with h|h
 ·exact(ha.2 _ h).1
 ·exact(hb.2 _ h).1
theorem y62 (l:List Correction):(ztd l).length=4:=by
 unfold ztd
 obtain⟨t,q1,q2⟩:=ydb (b:=ynk l) (fun i s=>s.length=4) (k:=l.length-0) (i:=0) (s:=List.replicate 4 (default:Int)) (by simp) (fun j u _ hj hu=>by
  unfold ynk
  cases zdf ((l.getD j default).Kind)with
  | true=>exact⟨_,rfl,by simpa using hu⟩
  | false=>exact⟨_,rfl,hu⟩)
 rw[q1];exact q2
theorem edX {a1:List Int} {qb:List Aid} (hp1:∀ v∈a1,0<=v/\v<=255) (hB:okP AidQ qb):EdOk { Number:=IntKind.wrap .i64 (1+(zvb a1 0 200)),Day:=(zdd a1 1 9000),Aids:=qb:Edition }:=by
 have h1:=ygj a1 hp1 0 200 (by omega) (by omega);have h2:=yqh a1 hp1 1 9000 (by omega) (by omega) (by omega);have hw:IntKind.wrap .i64 (1+(zvb a1 0 200))=1+zvb a1 0 200:=by rw[IntKind.wrap_i64];omega
 exact⟨by show 1<=IntKind.wrap .i64 _;rw[hw];omega,by show IntKind.wrap .i64 _<=9999;rw[hw];omega,by show 0<=zdd a1 1 9000;omega,by show zdd a1 1 9000<=99999;omega,hB⟩
theorem yv1 {e:Edition} (h:EdOk e):(zob e).1.length<=1000000/\1<=(zob e).1.length:=by
 refine⟨(yjj h).1,?_⟩;rw[yit h];simp only[List.length_append,List.length_singleton];omega
def zxh (a0:(List Int)) (a1:(List Int)):Bool:=
 (decide (1048576<(a0.length:Int)) || decide (1048576<(a1.length:Int)))
namespace N4
theorem DD:DOk Tryz.prog (Go.Ab.DD []):=yc _
theorem den (a0:(List Int)) (a1:(List Int))  : Den Tryz.prog 4 [encL 1 eIu8 a0,encL 1 eIu8 a1] (.bool (zxh a0 a1)):=by
 generalize hR:zxh a0 a1=r;unfold zxh at hR;refine di Tryz.func4 Tryz.ntmps4 Tryz.results4 ?_;intro c hL hc hk;obtain⟨hL0,hL1,_⟩:=hL;have hw0:=lwA hL0;have hw1:=lwA hL1;clear hL0 hL1;simp only[pars,Nat.zero_add];refine rS ?_;exact retR
end N4
def D_zxh : DF
 | [x0,x1]=>some (.bool (zxh (rdL dIu8 x0) (rdL dIu8 x1)),false,[wL 1 eIu8 dIu8 x0,wL 1 eIu8 dIu8 x1])
 | _=>none
theorem yt7:OkD Tryz.prog 4 D_zxh:=by unfold D_zxh;exact dk N4.den
def zdi (a0:(List Int)) (a1:(List Int)):Bool:=
 (bif (zxh a0 a1)then true else(bnd (zng a0) fun qa=>(bnd (zwg a1 qa) fun qb=>(bnd (zxb qa qb) fun qd=>(bnd (zwc qa qd.1) fun qt=>(bnd (zxb qb qb) fun qn=>(bnd (ztd qd.1) fun qc=>(bif ((((((((qd.2 != 0) || (qt.2 != 0)) || (!(zkf qt.1 qb))) || (qn.2 != 0)) || ((qn.1.length:Int) != 0)) || ((qc.length:Int) != 4)) || ((qc.getD 0 default) != (qd.1.length:Int))) || ((IntKind.wrap .i64 ((IntKind.wrap .i64 ((qc.getD 1 default)+(qc.getD 2 default)))+(qc.getD 3 default))) != (qc.getD 0 default)))then false else(bnd (zob ({ Number:=IntKind.wrap .i64 (1+(zvb a1 0 200)),Day:=(zdd a1 1 9000),Aids:=qb:Edition })) fun qx=>(bnd (zad qx.1) fun qr=>(bif ((((qx.2 != 0) || (qr.2.2 != 0)) || (qr.2.1 != 0)) || (!(zmh qr.1 ({ Number:=IntKind.wrap .i64 (1+(zvb a1 0 200)),Day:=(zdd a1 1 9000),Aids:=qb:Edition }))))then false else(bnd (zhg ({ Number:=IntKind.wrap .i64 (1+(zvb a1 0 200)),Day:=(zdd a1 1 9000),Aids:=qb:Edition })) fun qf=>(((zad (qf.1.set (((zdd a0 0 (qf.1.length:Int))).toNat) (UInt8.ofNat (IntKind.wrap .u8 (BitVec.ofInt (IntKind.bits .u8) ((qf.1.getD (((zdd a0 0 (qf.1.length:Int))).toNat) 0).toNat:Int) ^^^ BitVec.ofInt (IntKind.bits .u8) (IntKind.wrap .u8 (IntKind.wrap .i64 (1+(zvb a0 2 255))))).toNat).toNat))).2.2) != 0)))))))))))))
namespace N3
theorem DD:DOk Tryz.prog (Go.Ab.DD [(10,dP D_zkf),(11,dP D_zvb),(12,dP D_zdd),(13,dP D_zob),(14,dP D_zad),(15,dP D_zmh),(16,dP D_zhg),(4,dP D_zxh),(5,dP D_zng),(6,dP D_zwg),(7,dP D_zxb),(8,dP D_zwc),(9,dP D_ztd)]):=ya yn8.e <| ya y0w.e <| ya yg9.e <| ya yr4.e <| ya yu5.e <| ya yz6.e <| ya y86.e <| ya yt7.e <| ya yz7.e <| ya yf6.e <| ya yw6.e <| ya yx7.e <| ya yh6.e <| yc _
abbrev dn:=cj @D_zkf.eq_1 <| cj @D_zvb.eq_1 <| cj @D_zdd.eq_1 <| cj @D_zob.eq_1 <| cj @D_zad.eq_1 <| cj @D_zmh.eq_1 <| cj @D_zhg.eq_1 <| cj @D_zxh.eq_1 <| cj @D_zng.eq_1 <| cj @D_zwg.eq_1 <| cj @D_zxb.eq_1 <| cj @D_zwc.eq_1 <| @D_ztd.eq_1
theorem o0 {p:Prop} (h:p:=by(first|((repeat' with_reducible apply And.intro)<;>first|with_reducible assumption|omega|(exact(hw8 _).1)|(exact(hw8 _).2))|((repeat' with_reducible apply And.intro)<;>first|with_reducible assumption|omega|(intros;first|with_reducible assumption|omega|((repeat' with_reducible apply And.intro)<;>first|with_reducible assumption|omega))));first|done|fail):p:=h
set_option maxHeartbeats 4000000 in
set_option maxRecDepth 20000 in
theorem _root_.Go.Ab.zdi_den (a0:(List Int)) (a1:(List Int)) (hp0:∀ v∈a0,0<=v/\v<=255) (hp1:∀ v∈a1,0<=v/\v<=255):Den Tryz.prog 3 [encL 1 eIu8 a0,encL 1 eIu8 a1] (.bool (zdi a0 a1)):=by
 generalize hR:zdi a0 a1=r;unfold zdi at hR;refine di Tryz.func3 Tryz.ntmps3 Tryz.results3 ?_;intro c hL hc hk;obtain⟨hL0,hL1,_⟩:=hL;have hw0:=lwA hL0;have hw1:=lwA hL1;clear hL0 hL1;simp only[pars,Nat.zero_add];iterate 2 refine rS ?_
 refine yb ?_ ?_<;>intro hb
 ·replace hR:=ct hR
  exact retR
 ·replace hR:=cf hR
  refine rS ?_;refine AWP.lendV 5 0 (fun j=>eAid ((zng a0).getD j default)) rfl rfl (Nat.le_refl _) lv1 lv2 ?_;simp only[setE];generalize hqa:zng a0=qa at hR ⊢;replace hR:=bn hR;obtain⟨hA,hA5⟩:okP AidQ qa/\qa.length<=5:=by rw[<- hqa];exact yvx a0 hp0
  have hAb:=fun v h=>(hA.2 v h).1
  refine rS ?_;generalize hqb:zwg a1 qa=qb at hR ⊢;replace hR:=bn hR;have hB:okP AidQ qb:=by rw[<- hqb];exact yz2 hp1 hA
  have hBb:=fun v h=>(hB.2 v h).1
  have hB24:=hB.1.2.2;refine rS ?_;refine AWP.lendV 7 1 (fun j=>y8 (((zxb qa qb).1).getD j default)) rfl rfl (Nat.le_refl _) lv1 lv2 ?_;simp only[setE];generalize hqd:zxb qa qb=qd at hR ⊢;replace hR:=bn hR;obtain⟨hd1,hd2⟩:(∀ v∈qd.1,bdCorrection v)/\qd.1.length<=48:=by rw[<- hqd];exact yidb hA hB
  refine rS ?_;refine AWP.lendV 9 2 (fun j=>eAid (((zwc qa qd.1).1).getD j default)) rfl rfl (Nat.le_refl _) lv1 lv2 ?_;simp only[setE];generalize hqt:zwc qa qd.1=qt at hR ⊢;replace hR:=bn hR;refine rS ?_;refine AWP.lendV 11 3 (fun j=>y8 (((zxb qb qb).1).getD j default)) rfl rfl (Nat.le_refl _) lv1 lv2 ?_;simp only[setE];generalize hqn:zxb qb qb=qn at hR ⊢;replace hR:=bn hR;refine rS ?_;generalize hqc:ztd qd.1=qc at hR ⊢;replace hR:=bn hR;have hc4:qc.length=4:=by rw[<- hqc];exact y62 _
  refine rD 51 ?_;refine yb ?_ ?_<;>intro hb
  ·replace hR:=ct hR
   exact retR
  ·replace hR:=cf hR
   iterate 2 refine rS ?_
   generalize hqx:zob ({ Number:=IntKind.wrap .i64 (1+(zvb a1 0 200)),Day:=(zdd a1 1 9000),Aids:=qb:Edition })=qx at hR ⊢;replace hR:=bn hR;obtain⟨hx1,hx2⟩:qx.1.length<=1000000/\1<=qx.1.length:=by rw[<- hqx];exact yv1 (edX hp1 hB)
   refine rS ?_;generalize hqr:zad qx.1=qr at hR ⊢;replace hR:=bn hR;refine rS ?_;refine yb ?_ ?_<;>intro hb
   ·replace hR:=ct hR
    exact retR
   ·replace hR:=cf hR
    refine rS ?_;generalize hqf:zhg ({ Number:=IntKind.wrap .i64 (1+(zvb a1 0 200)),Day:=(zdd a1 1 9000),Aids:=qb:Edition })=qf at hR ⊢;replace hR:=bn hR;have hf:qf=qx:=by rw[<- hqf, <- hqx];exact(yku _ (fun v h=>(hB.2 v h).l)).symm
    have hf1:qf.1.length<=1000000/\1<=qf.1.length:=by rw[hf];exact⟨hx1,hx2⟩
    have hW9:=yqh a0 hp0 0 (qf.1.length:Int) (by omega) (by omega) (by omega);have hw8:∀ x:Int,0<=IntKind.wrap .u8 x/\IntKind.wrap .u8 x<256:=fun x=>by rw[IntKind.wrap_u8];omega
    refine rS ?_;refine rD 12 ?_;refine rS ?_;exact retR
end N3
theorem y6r {ρ σ α : Type} (f : α -> σ -> Except ρ σ) : ∀ (l m : List α) (s t : σ), y9e f l s = .ok t -> y9e f (l ++ m) s = y9e f m t
 | [],m,s,t,h=>by simp only[y9e,Except.ok.injEq]at h;subst h;rfl
 | x::l,m,s,t,h=>by
  simp only[y9e,List.cons_append]at h ⊢
  cases hx:f x s with
  | error e=>rw[hx]at h;cases h
  | ok u=>rw[hx]at h;simp only at h ⊢;exact y6r f l m u t h
theorem yafb {a b:List Aid} (ha:okP AidQ a) (hb:okP AidQ b):y9e y0h (y6e a b) a=.ok b:=by
 have hQ:∀ v,AidQ v->aidL v:=fun v h=>h.l
 obtain⟨S1,k1,k2,k3⟩:=y00 hQ (b:=b) a a ha ha.1.2.1 (fun x hx _=>hx)
 have hS1:∀ v∈S1,v∈a/\hasN b v.Number=true:=fun v hv=>by
  obtain⟨h1,h2⟩:=(k3 v).1 hv;refine⟨h1,?_⟩
  cases h:hasN b v.Number with
  | true=>rfl
  | false=>exact absurd ⟨h1,h⟩ h2
 have hS1':∀ v,v∈a->hasN b v.Number=true->v∈S1:=fun v h1 h2=>(k3 v).2 ⟨h1,fun h=>by rw[h2]at h;cases h.2⟩
 obtain⟨S2,m1,m2,m3⟩:=y32 hQ (a:=a) hb b S1 k2 hb.1.2.1 (fun y hy=>hy) (fun v hv=>(hS1 v hv).2) (fun y hy=>by
  rw[Bool.eq_iff_iff,yac k2.1.2.1,yac ha.1.2.1];constructor
  ·rintro⟨v,hv,e⟩
   exact⟨v,(hS1 v hv).1,e⟩
  ·rintro⟨v,hv,e⟩
   exact⟨v,hS1' v hv ((yac hb.1.2.1).2 ⟨y,hy,e.symm⟩),e⟩)
 have hS:S2=b:=by
  refine extA m2.1.2.1 hb.1.2.1 (fun v => ?_);rw[m3 v];constructor
  ·rintro(⟨h1,_⟩|⟨h1,h2⟩)
   ·exact h1
   ·obtain⟨g1,g2⟩:=hS1 v h1
    obtain⟨w,hw,e⟩:=(yac hb.1.2.1).1 g2
    cases hc:cor a w with
    | true=>exact absurd e (h2 w hw hc)
    | false=>
     unfold cor at hc;simp only[Bool.not_eq_false',Bool.and_eq_true]at hc;have h3:=yb4 hc.2;rw[e,(yjl ha.1.2.1 g1).2]at h3;rw[h3];exact hw
  ·intro hv
   cases hc:cor a v with
   | true=>exact .inl ⟨hv,rfl⟩
   | false=>
    refine .inr ⟨?_,fun y hy hyc e => ?_⟩
    ·unfold cor at hc
     simp only[Bool.not_eq_false',Bool.and_eq_true]at hc;have h3:=yb4 hc.2;have h4:=memG (ynh hc.1).1;rw[h3]at h4;exact hS1' v h4 ((yac hb.1.2.1).2 ⟨v,hv,rfl⟩)
    ·have:=y3db hb.1.2.1 hy hv e
     subst this;rw[hc]at hyc;cases hyc
 unfold y6e;rw[y6r y0h _ _ _ _ k1,m1,hS]
theorem ylz {a b:List Aid} (ha:okP AidQ a) (hb:okP AidQ b):zwc a (y6e a b)=(b,0):=by
 unfold zwc;rw[ypc a (fun v h=>(ha.2 v h).l),(y4h a).2 ha.1];simp only[Bool.not_true,cond_false]
 obtain⟨t,q1,_⟩:=ydb (b:=yio a (y6e a b)) (fun _ _=>True) (k:=(y6e a b).length-0) (i:=0) (s:=()) trivial (fun j u _ hj _=>by
  refine⟨(),?_,trivial⟩;have hj:j<(y6e a b).length:=by omega
  have hm:(y6e a b).getD j default∈y6e a b:=by
   rw[List.getD_eq_getElem?_getD,List.getElem?_eq_getElem hj];exact List.getElem_mem hj
  obtain⟨h1,h2,h3⟩:=ydn hm
  have hv:aidL ((y6e a b).getD j default).Aid/\zw ((y6e a b).getD j default).Aid=true:=by
   rcases h1 with h|h
   ·exact⟨(ha.2 _ h).l,ha.1.1 _ h⟩
   ·exact⟨(hb.2 _ h).l,hb.1.1 _ h⟩
  have e:znh ((y6e a b).getD j default)=true:=by
   unfold znh zdf ze;rw[yqc _ hv.1.1 hv.1.2,hv.2,decide_eq_true h2,decide_eq_true h3];rfl
  unfold yio;rw[e]
  rfl)
 rw[q1];simp only;rw[ylb,ymf (y6e a b) (yfs a (y6e a b) t) y0h a (fun i s _=>rfl),yafb ha hb]
theorem ye4 {b:List Aid} (hb:okP AidQ b):y6e b b=[]:=by
 unfold y6e;rw[List.append_eq_nil_iff];constructor
 ·rw[List.flatMap_eq_nil_iff]
  intro x hx;unfold dg1;rw[(yac hb.1.2.1).2 ⟨x,hx,rfl⟩];rfl
 ·rw[List.flatMap_eq_nil_iff]
  intro x hx;unfold dg2;rw[(yac hb.1.2.1).2 ⟨x,hx,rfl⟩,(yjl hb.1.2.1 hx).2,yne];rfl
theorem y49 {l:List Correction} (hl:l.length<=48) (hk:∀ c∈l,1<=c.Kind/\c.Kind<=3):∃ x y z:Int,ztd l=[(l.length:Int),x,y,z]/\0<=x/\0<=y/\0<=z/\x+y+z=(l.length:Int):=by
 unfold ztd
 obtain⟨t,q1,x,y,z,q2,q3⟩:=ydb (b:=ynk l) (fun i s=>∃ x y z:Int,s=[(i:Int),x,y,z]/\0<=x/\0<=y/\0<=z/\x+y+z=(i:Int)) (k:=l.length-0) (i:=0) (s:=List.replicate 4 (default:Int)) ⟨0,0,0,rfl,by omega,by omega,by omega,by omega⟩ (fun j u _ hj hu=>by
  have hj:j<l.length:=by omega
  obtain⟨x,y,z,rfl,h1,h2,h3,h4⟩:=hu
  have hm:l.getD j default∈l:=by
   rw[List.getD_eq_getElem?_getD,List.getElem?_eq_getElem hj];exact List.getElem_mem hj
  obtain⟨g1,g2⟩:=hk _ hm;have w:∀ n:Int,0<=n->n<=48->IntKind.wrap .i64 (n+1)=n+1:=fun n a b=>by rw[IntKind.wrap_i64];omega
  unfold ynk zdf ze;generalize (l.getD j default).Kind=K at g1 g2;rw[decide_eq_true g1,decide_eq_true g2];have hc:((j+1:Nat):Int)=(j:Int)+1:=by omega
  rcases(show K=1\/K=2\/K=3 by omega)with rfl|rfl|rfl
  ·refine⟨[(j:Int)+1,x+1,y,z],?_,x+1,y,z,by rw[hc],by omega,by omega,by omega,by omega⟩
   show(Except.ok [IntKind.wrap .i64 ((j:Int)+1),IntKind.wrap .i64 (x+1),y,z]:Except (List Int) (List Int))=_;rw[w (j:Int) (by omega) (by omega),w x (by omega) (by omega)]
  ·refine⟨[(j:Int)+1,x,y+1,z],?_,x,y+1,z,by rw[hc],by omega,by omega,by omega,by omega⟩
   show(Except.ok [IntKind.wrap .i64 ((j:Int)+1),x,IntKind.wrap .i64 (y+1),z]:Except (List Int) (List Int))=_;rw[w (j:Int) (by omega) (by omega),w y (by omega) (by omega)]
  ·refine⟨[(j:Int)+1,x,y,z+1],?_,x,y,z+1,by rw[hc],by omega,by omega,by omega,by omega⟩
   show(Except.ok [IntKind.wrap .i64 ((j:Int)+1),x,y,IntKind.wrap .i64 (z+1)]:Except (List Int) (List Int))=_
   rw[w (j:Int) (by omega) (by omega),w z (by omega) (by omega)])
 rw[q1];simp only[Nat.sub_zero,Nat.zero_add]at q2 q3;exact⟨x,y,z,q2,q3⟩
theorem yrz (e:Edition):zmh e e=true:=by
 unfold zmh zof;have h0:((e.Aids.length:Int) != (e.Aids.length:Int))=false:=by simp
 have:∀ k i,ye (yjp e.Aids e.Aids) k i ()=.ok ():=by
  intro k
  induction k with
  | zero=>intro i;rfl
  | succ k ih=>intro i;simp only[ye,yjp,yne,Bool.not_true,cond_false];exact ih (i+1)
 rw[h0,cond_false,this];simp
theorem ygeb (o:UInt8) {m:Int} (h1:1<=m) (h2:m<=255):UInt8.ofNat (IntKind.wrap .u8 (BitVec.ofInt (IntKind.bits .u8) (o.toNat:Int) ^^^ BitVec.ofInt (IntKind.bits .u8) (IntKind.wrap .u8 m)).toNat).toNat≠o:=by
 obtain⟨n,rfl⟩:∃ n:Nat,m=n:=⟨m.toNat,by omega⟩
 have ho:=o.toNat_lt;have hw:IntKind.wrap .u8 (n:Int)=(n:Int):=by rw[IntKind.wrap_u8];omega
 have hx:(BitVec.ofInt (IntKind.bits .u8) (o.toNat:Int) ^^^ BitVec.ofInt (IntKind.bits .u8) (n:Int)).toNat=o.toNat ^^^ n:=by
  show(BitVec.ofInt 8 (o.toNat:Int) ^^^ BitVec.ofInt 8 (n:Int)).toNat=_;rw[BitVec.toNat_xor,BitVec.ofInt_natCast,BitVec.ofInt_natCast,BitVec.toNat_ofNat,BitVec.toNat_ofNat,Nat.mod_eq_of_lt (by omega),Nat.mod_eq_of_lt (by omega)]
 have hlt:=Nat.xor_lt_two_pow (n:=8) (show o.toNat<2 ^ 8 by omega) (show n<2 ^ 8 by omega);rw[hw,hx];intro e;have e2:=congrArg UInt8.toNat e;rw[UInt8.toNat_ofNat',IntKind.wrap_u8]at e2;have e3:o.toNat ^^^ n=o.toNat:=by omega
 have e4:=congrArg (fun z=>o.toNat ^^^ z) e3;simp only[<- Nat.xor_assoc,Nat.xor_self,Nat.zero_xor]at e4;omega
theorem yun (a0 a1:List Int) (hp0:∀ v∈a0,0<=v/\v<=255) (hp1:∀ v∈a1,0<=v/\v<=255):zdi a0 a1=true:=by
 unfold zdi
 cases zxh a0 a1 with
 | true=>rfl
 | false=>
  simp only[cond_false,bnd];have hA:=(yvx a0 hp0).1;generalize zng a0=qa at hA;have hB:=yz2 hp1 hA;generalize zwg a1 qa=qb at hB;have hE:=edX hp1 hB;rw[ybm hA hB,ybm hB hB,ye4 hB];simp only;rw[ylz hA hB];obtain⟨x,y,z,c1,c2,c3,c4,c5⟩:=y49 (ycm (a:=qa) (b:=qb) hA.1.2.2 hB.1.2.2) (fun c hc=>(ydn hc).2);have hl:=ycm (a:=qa) (b:=qb) hA.1.2.2 hB.1.2.2;rw[c1];generalize (y6e qa qb).length=n at c5 hl;have hw:IntKind.wrap .i64 (IntKind.wrap .i64 (x+y)+z)=(n:Int):=by rw[IntKind.wrap_i64 (x+y),IntKind.wrap_i64];omega
  have ht:zhg { Number:=IntKind.wrap .i64 (1+(zvb a1 0 200)),Day:=(zdd a1 1 9000),Aids:=qb:Edition }=zob { Number:=IntKind.wrap .i64 (1+(zvb a1 0 200)),Day:=(zdd a1 1 9000),Aids:=qb:Edition }:=(yku _ (fun v h=>(hB.2 v h).l)).symm;rw[ht];generalize hX:({ Number:=IntKind.wrap .i64 (1+(zvb a1 0 200)),Day:=(zdd a1 1 9000),Aids:=qb:Edition })=X at hE;have hr:=ysdb hE;have hlen:=yv1 hE;have h2:(zob X).2=0:=by rw[yit hE]
  have hW9:=yqh a0 hp0 0 ((zob X).1.length:Int) (by omega) (by omega) (by omega);have hAt:=ygj a0 hp0 2 255 (by omega) (by omega);have hm:IntKind.wrap .i64 (1+zvb a0 2 255)=1+zvb a0 2 255:=by rw[IntKind.wrap_i64];omega
  have hch:=ytfb hE (k:=(zdd a0 0 ((zob X).1.length:Int)).toNat) (x:=UInt8.ofNat (IntKind.wrap .u8 (BitVec.ofInt (IntKind.bits .u8) (((zob X).1.getD ((zdd a0 0 ((zob X).1.length:Int)).toNat) 0).toNat:Int) ^^^ BitVec.ofInt (IntKind.bits .u8) (IntKind.wrap .u8 (1+zvb a0 2 255))).toNat).toNat) (by omega) (ygeb _ (by omega) (by omega));rw[hm,hr,h2];simp only[List.getD_cons_zero,List.getD_cons_succ,hw,ynz,yrz];simp only[List.length_cons,List.length_nil,bne_self_eq_false,Bool.not_true,Bool.or_false,Bool.false_or,cond_false];exact bne_iff_ne.2 hch
end Go.Ab
