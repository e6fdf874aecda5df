/- Walks and lemmas. No conditions. -/
import Derived.Test.YthmfknndfeepfaaGreatDoorEAm
import Derived.Test.YthmfknndfeepfaaGreatDoorEAl
set_option linter.unusedSectionVars false
set_option linter.unusedVariables false
set_option linter.unusedSimpArgs false
set_option maxHeartbeats 1000000
namespace Go.Ab
open Go Go.Proofs
def zrd (a0:Int) (a1:Int) (a2:Int):(Int×Int):=
 (bif ((((!(zte a0)) || (!(zig a1))) || (!(ze a2 1 (zhb a0 a1)))) || (!(zgd (zie a0 a1 a2))))then(0,2)else((zie a0 a1 a2),0))
namespace N123
theorem DD:DOk Tryz.prog (Go.Ab.DD [(160,dP D_zhb),(179,dP D_zte),(180,dP D_zig),(181,dP D_zie),(53,dP D_ze),(57,dP D_zgd)]):=ya yoq.e <| ya yxw.e <| ya yz9.e <| ya yp6.e <| ya yfc.e <| ya ysq.e <| yc _
abbrev dn:=cj @D_zhb.eq_1 <| cj @D_zte.eq_1 <| cj @D_zig.eq_1 <| cj @D_zie.eq_1 <| cj @D_ze.eq_1 <| @D_zgd.eq_1
abbrev ol:=@ze.eq_1
theorem o0 {p:Prop} (h:p:=by(first|(have h9:=y5f a0 a1;simp only[zte,zig,ze,Bool.not_or,Bool.not_not,Bool.and_eq_true,decide_eq_true_eq];refine⟨?_,?_⟩<;>intro h<;>omega)|(have h9:=y5f a0 a1;have hb8:=hb;simp[zte,zig,ze]at hb8;omega));first|done|fail):p:=h
theorem den (a0:Int) (a1:Int) (a2:Int)  : Den Tryz.prog 123 [.int .i64 a0,.int .i64 a1,.int .i64 a2] (.tup [.int .i64 ((zrd a0 a1 a2).1),.int .i64 ((zrd a0 a1 a2).2)]):=by
 generalize hR:zrd a0 a1 a2=r;unfold zrd at hR;refine di Tryz.func123 Tryz.ntmps123 Tryz.results123 ?_;intro c hL hc hk;clear hL;simp only[pars,Nat.zero_add];iterate 2 refine rS ?_
 refine yb ?_ ?_<;>intro hb
 ·replace hR:=ct hR
  exact retR
 ·replace hR:=cf hR
  exact retR
end N123
def D_zrd : DF
 | [x0,x1,x2]=>some (.tup [.int .i64 ((zrd (rdI x0) (rdI x1) (rdI x2)).1),.int .i64 ((zrd (rdI x0) (rdI x1) (rdI x2)).2)],false,[wI .i64 x0,wI .i64 x1,wI .i64 x2])
 | _=>none
theorem yp9:OkD Tryz.prog 123 D_zrd:=by unfold D_zrd;exact dk N123.den
theorem ywp (a:Int):(zdb a).length<=10000:=by
 unfold zdb zgd ze;by_cases h:0<=a/\a<=99999
 ·have hr:=ylab a h.1 h.2
  have l1:=y0c (zz a).1;have l2:=y2p (zz a).2.1 (by omega) (by omega);have l3:=y2p (zz a).2.2 (by omega) (by omega);simp only[h.1,h.2,decide_true,Bool.and_self,Bool.not_true,cond_false,List.length_append,List.length_cons,List.length_nil];omega
 ·have:(decide (0<=a) && decide (a<=99999))=false:=by simpa using h
  simp[this]
def zff (a0:(List UInt8)):(Int×Bool):=
 (bif (((zb a0 [45]).length:Int) != 3)then(0,false)else(bif (((((!((zab ((zb a0 [45]).getD 0 default)).2)) || (!((zab ((zb a0 [45]).getD 1 default)).2))) || (!((zab ((zb a0 [45]).getD 2 default)).2))) || (((zrd ((zab ((zb a0 [45]).getD 0 default)).1) ((zab ((zb a0 [45]).getD 1 default)).1) ((zab ((zb a0 [45]).getD 2 default)).1)).2) != 0)) || ((zdb ((zrd ((zab ((zb a0 [45]).getD 0 default)).1) ((zab ((zb a0 [45]).getD 1 default)).1) ((zab ((zb a0 [45]).getD 2 default)).1)).1)) != a0))then(0,false)else((zrd ((zab ((zb a0 [45]).getD 0 default)).1) ((zab ((zb a0 [45]).getD 1 default)).1) ((zab ((zb a0 [45]).getD 2 default)).1)).1,true)))
namespace N70
theorem DD:DOk Tryz.prog (Go.Ab.DD [(122,dP D_zab),(123,dP D_zrd),(32,dP D_zb),(60,dP D_zdb)]):=ya yr5.e <| ya yp9.e <| ya yxj.e <| ya y6y.e <| yc _
abbrev dn:=cj @D_zab.eq_1 <| cj @D_zrd.eq_1 <| cj @D_zb.eq_1 <| @D_zdb.eq_1
theorem gr {p:Prop} (h:p:=by(grind [ywp]);first|done|fail):p:=h
theorem den (a0:(List UInt8)) (hb0:a0.length<1099511627776) (hp0:a0.length<=1048576):Den Tryz.prog 70 [.str a0] (.tup [.int .i64 ((zff a0).1),.bool ((zff a0).2)]):=by
 generalize hR:zff a0=r;unfold zff at hR;refine di Tryz.func70 Tryz.ntmps70 Tryz.results70 ?_;intro c hL hc hk;obtain⟨hL0,_⟩:=hL;have hw0:=lwS hL0;clear hL0;simp only[pars,Nat.zero_add];have hs9:=y6s a0 [45] (by omega);iterate 3 refine rS ?_
 refine yb ?_ ?_<;>intro hb
 ·replace hR:=ct hR
  exact retR
 ·replace hR:=cf hR
  iterate 5 refine rS ?_
  refine yb ?_ ?_<;>intro hb
  ·replace hR:=ct hR
   exact retR
  ·replace hR:=cf hR
   exact retR
end N70
def D_zff : DF
 | [x0]=>some (.tup [.int .i64 ((zff (rdS x0)).1),.bool ((zff (rdS x0)).2)],false,[wS x0,(rdS x0).length<1099511627776,(rdS x0).length<=1048576])
 | _=>none
theorem yh8:OkD Tryz.prog 70 D_zff:=by unfold D_zff;exact dk N70.den
def y61 (a0:(List UInt8)) (i1:Nat) (s1:List (List UInt8)):Except ((List (List UInt8))) (List (List UInt8)):=
 (bif (((zb a0 [32]).getD i1 default) != [])then .ok (s1++[((zb a0 [32]).getD i1 default)])else .ok s1)
def zp (a0:(List UInt8)):(List (List UInt8)):=
 (match ye (y61 a0) (((zb a0 [32]).length)-0) 0 ([]:List (List UInt8))with|.error e=>e|.ok s1=>s1)
namespace N68
theorem DD:DOk Tryz.prog (Go.Ab.DD [(32,dP D_zb)]):=ya yxj.e <| yc _
abbrev dn:=@D_zb.eq_1
theorem den (a0:(List UInt8)) (hb0:a0.length<1099511627776) (hp0:a0.length<=1048576):Den Tryz.prog 68 [.str a0] (ownL 9 1 eS (zp a0)):=by
 generalize hR:zp a0=r;unfold zp at hR;refine di Tryz.func68 Tryz.ntmps68 Tryz.results68 ?_;intro c hL hc hk;obtain⟨hL0,_⟩:=hL;have hw0:=lwS hL0;clear hL0;simp only[pars,Nat.zero_add];have hs9:=y6s a0 [32] (by omega);iterate 3 refine rS ?_
 refine AWP.block ?_;generalize hz1:ye (y61 a0) (((zb a0 [32]).length)-0) 0 ([]:List (List UInt8))=z1 at hR;refine AWP.range (y61 a0) (fun i1 s1=>⟨[(3,.ref 0 1 0 s1.length),(8,.ref 1 1 0 ((zb a0 [32]).length)),(9,.int .i64 ((zb a0 [32]).length:Int)),(10,.int .i64 (i1:Int))],[.arr 9 1 s1.length (fun j=>eS (s1.getD j default)),.arr 9 1 (zb a0 [32]).length (fun j=>eS ((zb a0 [32]).getD j default))]⟩) (fun i1 s1=>s1.length<=([]:List (List UInt8)).length+1 * i1/\s1.length<=i1) (((zb a0 [32]).length)) 0 ([]:List (List UInt8)) [0,1] hz1 ot wt sm ?_;clear hz1;intro i1 s1 hi1 hW1 hz1;refine rS ?_;refine AWP.seq ?_;refine yb ?_ ?_<;>intro hb
 ·have hlt1:i1<((zb a0 [32]).length):=ot
  rw[yi hlt1]at hz1;simp only[y61]at hz1;iterate 2 refine rS ?_
  refine yb ?_ ?_<;>intro hb
  ·simp only[hb,cond_true]at hz1
   iterate 2 refine rS ?_
   exact⟨_,[3,1],hlt1,wt,hz1,sm⟩
  ·simp only[hb,cond_false]at hz1
   refine rS ?_;exact⟨_,[0,1],hlt1,wt,hz1,sm⟩
 ·obtain rfl:i1=((zb a0 [32]).length):=ot
  exact retX
end N68
def D_zp : DF
 | [x0]=>some (ownL 9 1 eS (zp (rdS x0)),false,[wS x0,(rdS x0).length<1099511627776,(rdS x0).length<=1048576])
 | _=>none
theorem yu3:OkD Tryz.prog 68 D_zp:=by unfold D_zp;exact dk N68.den
theorem yge (l:List (List UInt8)) (b:Nat->List (List UInt8)->Except (List (List UInt8)) (List (List UInt8))) (hb:∀ i s,b i s=(bif (l.getD i default) != []then .ok (s++[l.getD i default])else .ok s)) :
  ∀ (k i:Nat) (s:List (List UInt8)),i+k=l.length->ye b k i s=.ok (s++(l.drop i).filter (· != []))
 | 0,i,s,h=>by
  rw[List.drop_eq_nil_of_le (by omega)];simp[ye]
 | k+1,i,s,h=>by
  have hlt:i<l.length:=by omega
  have hg:l.getD i default=l[i]:=by simp[List.getD,List.getElem?_eq_getElem hlt]
  simp only[ye,hb,hg];rw[List.drop_eq_getElem_cons hlt,List.filter_cons]
  cases hc:(l[i] != [])with
  | true=>
   simp only[cond_true];rw[yge l b hb k (i+1) _ (by omega)];simp
  | false=>
   simp only[cond_false];rw[yge l b hb k (i+1) _ (by omega)];simp
theorem yndb (a:List UInt8):zp a=(yq 32 a).filter (· != []):=by
 unfold zp;rw[yge (zb a [32]) (y61 a) (fun i s=>rfl) _ 0 [] (by omega)];rfl
theorem yoab (a:List UInt8) (ha:a.length<=1048576):∀ x∈zp a,x.length<=1048576:=by
 intro x hx;rw[yndb]at hx;have:=(y6c 32 a).2 x (List.mem_filter.1 hx).1;omega
theorem yhf {l:List (List UInt8)} (h:∀ x∈l,x.length<=1048576) (i:Nat):(l.getD i default).length<=1048576:=by
 by_cases hi:i<l.length
 ·rw[List.getD_eq_getElem?_getD,List.getElem?_eq_getElem hi]
  exact h _ (List.getElem_mem hi)
 ·rw[List.getD_eq_getElem?_getD,List.getElem?_eq_none (by omega)]
  show([]:List UInt8).length<=_;simp
def zl (a0:(List UInt8)):(Int×Bool):=y8b a0
theorem yveb (a0:(List UInt8)) (hp0:a0.length<=1048576):Den Tryz.prog 69 [.str a0] (.tup [.int .i64 ((zl a0).1),.bool ((zl a0).2)]):=by
 exact ysv a0 hp0
def D_zl : DF
 | [x0]=>some (.tup [.int .i64 ((zl (rdS x0)).1),.bool ((zl (rdS x0)).2)],false,[wS x0,(rdS x0).length<=1048576])
 | _=>none
theorem yrj:OkD Tryz.prog 69 D_zl:=by
 intro xs r z ob h ho;unfold D_zl at h;split at h
 ·simp only[Option.some.injEq,Prod.mk.injEq]at h
  obtain⟨rfl,rfl,rfl⟩:=h;obtain⟨h0,hp0,_⟩:=ho;exact Den.sim (yveb _ hp0) (yv (yob h0).1 <| trivial) (y7 (yob h0).2 <| rfl) rfl
 ·cases h
def y0u (a0:(List UInt8)) (s1:Int×Int):Except (Sum ((Character×Bool)) (Int×Int)) (Int×Int):=
 (bif decide (s1.1<=8)then(bif ((zbd s1.1) == ((zd ((zg a0 [43,76,70,108]).1) [40]).1))then .ok (IntKind.wrap .i64 (s1.1+1),s1.1)else .ok (IntKind.wrap .i64 (s1.1+1),s1.2))else .error (.inr (s1.1,s1.2)))
def y1v (a0:(List UInt8)) (s1:Int×Int) (i2:Nat) (s2:List Int):Except ((Character×Bool)) (List Int):=
 (bif (!((zl ((zb ((zg ((zd ((zg a0 [43,76,70,108]).1) [40]).2.1) [41]).1) [43]).getD i2 default)).2))then .error ({ Kind:=0,Group:=[],Letter:=[],Colors:=[],Period:=0:Character },false)else .ok (s2++([(zl ((zb ((zg ((zd ((zg a0 [43,76,70,108]).1) [40]).2.1) [41]).1) [43]).getD i2 default)).1]:List Int)))
def y2m (a0:(List UInt8)) (s3:Int×Int):Except (Sum ((Character×Bool)) (Int×Int)) (Int×Int):=
 (bif decide (s3.1<=8)then(bif ((zbd s3.1) == ((zd ((zg a0 [43,76,70,108]).1) [40]).1))then .ok (IntKind.wrap .i64 (s3.1+1),s3.1)else .ok (IntKind.wrap .i64 (s3.1+1),s3.2))else .error (.inr (s3.1,s3.2)))
def yxu (a0:(List UInt8)) (s3:Int×Int) (i4:Nat) (s4:List Int):Except ((Character×Bool)) (List Int):=
 (bif (!((zl ((zb ((zg ((zd ((zg a0 [43,76,70,108]).1) [40]).2.1) [41]).1) [43]).getD i4 default)).2))then .error ({ Kind:=0,Group:=[],Letter:=[],Colors:=[],Period:=0:Character },false)else .ok (s4++([(zl ((zb ((zg ((zd ((zg a0 [43,76,70,108]).1) [40]).2.1) [41]).1) [43]).getD i4 default)).1]:List Int)))
def zo (a0:(List UInt8)):(Character×Bool):=
 (bif (zg a0 [43,76,70,108]).2 then(match yab (y0u a0) (((9-(1:Int)).toNat)+1) (1,0)with|.error (.inl e)=>e|.error (.inr s1)=>(bif (!((zd ((zg a0 [43,76,70,108]).1) [40]).2.2))then({ Kind:=s1.2,Group:=[],Letter:=[76],Colors:=[],Period:=0:Character },true)else(bif (s1.2 == 8)then({ Kind:=s1.2,Group:=[],Letter:=(zg ((zd ((zg a0 [43,76,70,108]).1) [40]).2.1) [41]).1,Colors:=[],Period:=0:Character },((zg ((zd ((zg a0 [43,76,70,108]).1) [40]).2.1) [41]).2 && (!((zg a0 [43,76,70,108]).2))))else(match ye (y1v a0 s1) (((zb ((zg ((zd ((zg a0 [43,76,70,108]).1) [40]).2.1) [41]).1) [43]).length)-0) 0 ([]:List Int)with|.error e=>e|.ok s2=>({ Kind:=s1.2,Group:=s2,Letter:=[76],Colors:=[],Period:=0:Character },(zg ((zd ((zg a0 [43,76,70,108]).1) [40]).2.1) [41]).2))))|.ok _=>default)else(match yab (y2m a0) (((9-(1:Int)).toNat)+1) (1,0)with|.error (.inl e)=>e|.error (.inr s3)=>(bif (!((zd ((zg a0 [43,76,70,108]).1) [40]).2.2))then({ Kind:=s3.2,Group:=[],Letter:=[],Colors:=[],Period:=0:Character },true)else(bif (s3.2 == 8)then({ Kind:=s3.2,Group:=[],Letter:=(zg ((zd ((zg a0 [43,76,70,108]).1) [40]).2.1) [41]).1,Colors:=[],Period:=0:Character },((zg ((zd ((zg a0 [43,76,70,108]).1) [40]).2.1) [41]).2 && (!((zg a0 [43,76,70,108]).2))))else(match ye (yxu a0 s3) (((zb ((zg ((zd ((zg a0 [43,76,70,108]).1) [40]).2.1) [41]).1) [43]).length)-0) 0 ([]:List Int)with|.error e=>e|.ok s4=>({ Kind:=s3.2,Group:=s4,Letter:=[],Colors:=[],Period:=0:Character },(zg ((zd ((zg a0 [43,76,70,108]).1) [40]).2.1) [41]).2))))|.ok _=>default))
namespace N126
theorem DD:DOk Tryz.prog (Go.Ab.DD [(124,dP D_zd),(170,dP D_zbd),(183,dP D_zg),(32,dP D_zb),(69,dP D_zl)]):=ya yrl.e <| ya y2w.e <| ya y3cb.e <| ya yxj.e <| ya yrj.e <| yc _
abbrev dn:=cj @D_zd.eq_1 <| cj @D_zbd.eq_1 <| cj @D_zg.eq_1 <| cj @D_zb.eq_1 <| @D_zl.eq_1
theorem gr {p:Prop} (h:p:=by(grind [yrg,y0r]);first|done|fail):p:=h
theorem o0 {p:Prop} (h:p:=by(first|(and_intros<;>(first|omega|rfl|exact yhf c4 _)));first|done|fail):p:=h
theorem o2 {p:Prop} (h:p:=by(first|(and_intros<;>first|omega|(rw[IntKind.wrap_i64];omega)|(simp;(first|done|fail))|(intro i hi;exact ysi _ _ i hi)|(intro i hi;rw[ysi _ _ i hi];exact y3 _)|decide));first|done|fail):p:=h
set_option maxHeartbeats 2000000 in
set_option maxRecDepth 20000 in
theorem den (a0:(List UInt8)) (hb0:a0.length<1099511627776) (hp0:a0.length<=1048576):Den Tryz.prog 126 [.str a0] (.tup [.agg (y9b ((zo a0).1)),.bool ((zo a0).2)]):=by
 generalize hR:zo a0=r;unfold zo at hR;refine di Tryz.func126 Tryz.ntmps126 Tryz.results126 ?_;intro c hL hc hk;obtain⟨hL0,_⟩:=hL;have hw0:=lwS hL0;clear hL0;simp only[pars,Nat.zero_add];have c1:=y0r a0 [43,76,70,108];have c2:=yrg (zg a0 [43,76,70,108]).1 [40];have c3:=y0r (zd (zg a0 [43,76,70,108]).1 [40]).2.1 [41];have c4:=(y6s (zg (zd (zg a0 [43,76,70,108]).1 [40]).2.1 [41]).1 [43] (by omega)).2;have c5:=(y6s (zg (zd (zg a0 [43,76,70,108]).1 [40]).2.1 [41]).1 [43] (by omega)).1;iterate 4 refine rS ?_
 refine yb ?_ ?_<;>intro hb
 ·replace hR:=ct hR
  iterate 3 refine rS ?_
  refine AWP.block ?_;generalize hz1:yab (y0u a0) (((9-(1:Int)).toNat)+1) (1,0)=z1 at hR;refine AWP.whileW (y0u a0) (fun s1=>⟨[(2,.ptr 0 0),(4,.ptr 1 0),(6,.bool ((zg a0 [43,76,70,108]).2)),(7,.str ((zd ((zg a0 [43,76,70,108]).1) [40]).1)),(8,.str ((zd ((zg a0 [43,76,70,108]).1) [40]).2.1)),(9,.bool ((zd ((zg a0 [43,76,70,108]).1) [40]).2.2)),(10,.int .i64 s1.1)],[.box [.int .i64 0,.nils,.str [],.str [],.int .i64 0],.box [.int .i64 s1.2,.nils,.str [76],.str [],.int .i64 0]]⟩) (fun s1=>1<=s1.1/\s1.1<=9) (fun s1=>(9-s1.1).toNat) (((9-(1:Int)).toNat)+1) (1,0) [0,1] hz1 m0 wt sm ?_;clear hz1;intro s1 k1 hW1 hm1 hz1;simp only[y0u]at hz1;refine rS ?_;refine yb ?_ ?_<;>intro hb
  ·simp only[hb,cond_true]at hz1
   refine rS ?_;refine yb ?_ ?_<;>intro hb
   ·simp only[hb,cond_true]at hz1
    iterate 2 refine rS ?_
    exact⟨_,[0,1],ms,wt,hz1,sm⟩
   ·simp only[hb,cond_false]at hz1
    refine rS ?_;exact⟨_,[0,1],ms,wt,hz1,sm⟩
  ·simp only[hb,cond_false]at hz1
   refine AWP.exit ?_;refine yf ?_;subst hz1;dsimp only at hR;refine rS ?_;refine yb ?_ ?_<;>intro hb
   ·replace hR:=ct hR
    exact retR
   ·replace hR:=cf hR
    iterate 2 refine rS ?_
    refine yb ?_ ?_<;>intro hb
    ·replace hR:=ct hR
     refine rS ?_;exact retR
    ·replace hR:=cf hR
     refine rS ?_;refine AWP.block ?_;refine AWP.nilB 1 1 2 1 (fun _=>[]) rfl rfl ?_;try simp only[ea,absV,yoc,cput,gv,sv,dn,reduceCtorEq,reduceIte,Nat.reduceBEq,Nat.reduceAdd,Nat.reduceEqDiff,Nat.reduceLT,Nat.reduceLeDiff,Nat.reduceMul,Nat.reduceSub,BEq.rfl,beq_self_eq_true,Int.reduceToNat];generalize hz2:ye (y1v a0 (s1.1,s1.2)) (((zb ((zg ((zd ((zg a0 [43,76,70,108]).1) [40]).2.1) [41]).1) [43]).length)-0) 0 ([]:List Int)=z2 at hR;refine AWP.range (y1v a0 (s1.1,s1.2)) (fun i2 s2=>⟨[(2,.ptr 0 0),(4,.ptr 1 0),(12,.bool ((zg ((zd ((zg a0 [43,76,70,108]).1) [40]).2.1) [41]).2)),(61,.ref 3 1 0 ((zb ((zg ((zd ((zg a0 [43,76,70,108]).1) [40]).2.1) [41]).1) [43]).length)),(62,.int .i64 ((zb ((zg ((zd ((zg a0 [43,76,70,108]).1) [40]).2.1) [41]).1) [43]).length:Int)),(63,.int .i64 (i2:Int))],[.box [.int .i64 0,.nils,.str [],.str [],.int .i64 0],.box [.int .i64 s1.2,.ref 2 1 0 s2.length,.str [76],.str [],.int .i64 0],.arr 2 1 s2.length (fun j=>yy (s2.getD j default)),.arr 9 1 (zb ((zg ((zd ((zg a0 [43,76,70,108]).1) [40]).2.1) [41]).1) [43]).length (fun j=>eS ((zb ((zg ((zd ((zg a0 [43,76,70,108]).1) [40]).2.1) [41]).1) [43]).getD j default))]⟩) (fun i2 s2=>s2.length<=i2) (((zb ((zg ((zd ((zg a0 [43,76,70,108]).1) [40]).2.1) [41]).1) [43]).length)) 0 ([]:List Int) [0,1,3,2] hz2 ot wt sm ?_;clear hz2;intro i2 s2 hi2 hW2 hz2;refine rS ?_;refine AWP.seq ?_;refine yb ?_ ?_<;>intro hb
     ·have hlt2:i2<((zb ((zg ((zd ((zg a0 [43,76,70,108]).1) [40]).2.1) [41]).1) [43]).length):=ot
      rw[yi hlt2]at hz2;simp only[y1v]at hz2;iterate 3 refine rS ?_
      refine yb ?_ ?_<;>intro hb
      ·simp only[hb,cond_true]at hz2
       refine rS ?_;refine AWP.ret ?_;subst hz2;dsimp only at hR;subst hR;exact es
      ·simp only[hb,cond_false]at hz2
       iterate 2 refine rS ?_
       exact⟨_,[0,1,5,3],hlt2,wt,hz2,sm⟩
     ·obtain rfl:i2=((zb ((zg ((zd ((zg a0 [43,76,70,108]).1) [40]).2.1) [41]).1) [43]).length):=ot
      rw[ybb (Nat.le_refl _)]at hz2;subst hz2;dsimp only at hR;refine AWP.exit ?_;refine yf ?_;exact retR
 ·replace hR:=cf hR
  iterate 2 refine rS ?_
  refine AWP.block ?_;generalize hz3:yab (y2m a0) (((9-(1:Int)).toNat)+1) (1,0)=z3 at hR;refine AWP.whileW (y2m a0) (fun s3=>⟨[(2,.ptr 0 0),(4,.ptr 1 0),(6,.bool ((zg a0 [43,76,70,108]).2)),(7,.str ((zd ((zg a0 [43,76,70,108]).1) [40]).1)),(8,.str ((zd ((zg a0 [43,76,70,108]).1) [40]).2.1)),(9,.bool ((zd ((zg a0 [43,76,70,108]).1) [40]).2.2)),(10,.int .i64 s3.1)],[.box [.int .i64 0,.nils,.str [],.str [],.int .i64 0],.box [.int .i64 s3.2,.nils,.str [],.str [],.int .i64 0]]⟩) (fun s3=>1<=s3.1/\s3.1<=9) (fun s3=>(9-s3.1).toNat) (((9-(1:Int)).toNat)+1) (1,0) [0,1] hz3 m0 wt sm ?_;clear hz3;intro s3 k3 hW3 hm3 hz3;simp only[y2m]at hz3;refine rS ?_;refine yb ?_ ?_<;>intro hb
  ·simp only[hb,cond_true]at hz3
   refine rS ?_;refine yb ?_ ?_<;>intro hb
   ·simp only[hb,cond_true]at hz3
    iterate 2 refine rS ?_
    exact⟨_,[0,1],ms,wt,hz3,sm⟩
   ·simp only[hb,cond_false]at hz3
    refine rS ?_;exact⟨_,[0,1],ms,wt,hz3,sm⟩
  ·simp only[hb,cond_false]at hz3
   refine AWP.exit ?_;refine yf ?_;subst hz3;dsimp only at hR;refine rS ?_;refine yb ?_ ?_<;>intro hb
   ·replace hR:=ct hR
    exact retR
   ·replace hR:=cf hR
    iterate 2 refine rS ?_
    refine yb ?_ ?_<;>intro hb
    ·replace hR:=ct hR
     refine rS ?_;exact retR
    ·replace hR:=cf hR
     refine rS ?_;refine AWP.block ?_;refine AWP.nilB 1 1 2 1 (fun _=>[]) rfl rfl ?_;try simp only[ea,absV,yoc,cput,gv,sv,dn,reduceCtorEq,reduceIte,Nat.reduceBEq,Nat.reduceAdd,Nat.reduceEqDiff,Nat.reduceLT,Nat.reduceLeDiff,Nat.reduceMul,Nat.reduceSub,BEq.rfl,beq_self_eq_true,Int.reduceToNat];generalize hz4:ye (yxu a0 (s3.1,s3.2)) (((zb ((zg ((zd ((zg a0 [43,76,70,108]).1) [40]).2.1) [41]).1) [43]).length)-0) 0 ([]:List Int)=z4 at hR;refine AWP.range (yxu a0 (s3.1,s3.2)) (fun i4 s4=>⟨[(2,.ptr 0 0),(4,.ptr 1 0),(12,.bool ((zg ((zd ((zg a0 [43,76,70,108]).1) [40]).2.1) [41]).2)),(61,.ref 3 1 0 ((zb ((zg ((zd ((zg a0 [43,76,70,108]).1) [40]).2.1) [41]).1) [43]).length)),(62,.int .i64 ((zb ((zg ((zd ((zg a0 [43,76,70,108]).1) [40]).2.1) [41]).1) [43]).length:Int)),(63,.int .i64 (i4:Int))],[.box [.int .i64 0,.nils,.str [],.str [],.int .i64 0],.box [.int .i64 s3.2,.ref 2 1 0 s4.length,.str [],.str [],.int .i64 0],.arr 2 1 s4.length (fun j=>yy (s4.getD j default)),.arr 9 1 (zb ((zg ((zd ((zg a0 [43,76,70,108]).1) [40]).2.1) [41]).1) [43]).length (fun j=>eS ((zb ((zg ((zd ((zg a0 [43,76,70,108]).1) [40]).2.1) [41]).1) [43]).getD j default))]⟩) (fun i4 s4=>s4.length<=i4) (((zb ((zg ((zd ((zg a0 [43,76,70,108]).1) [40]).2.1) [41]).1) [43]).length)) 0 ([]:List Int) [0,1,3,2] hz4 ot wt sm ?_;clear hz4;intro i4 s4 hi4 hW4 hz4;refine rS ?_;refine AWP.seq ?_;refine yb ?_ ?_<;>intro hb
     ·have hlt4:i4<((zb ((zg ((zd ((zg a0 [43,76,70,108]).1) [40]).2.1) [41]).1) [43]).length):=ot
      rw[yi hlt4]at hz4;simp only[yxu]at hz4;iterate 3 refine rS ?_
      refine yb ?_ ?_<;>intro hb
      ·simp only[hb,cond_true]at hz4
       refine rS ?_;refine AWP.ret ?_;subst hz4;dsimp only at hR;subst hR;exact es
      ·simp only[hb,cond_false]at hz4
       iterate 2 refine rS ?_
       exact⟨_,[0,1,5,3],hlt4,wt,hz4,sm⟩
     ·obtain rfl:i4=((zb ((zg ((zd ((zg a0 [43,76,70,108]).1) [40]).2.1) [41]).1) [43]).length):=ot
      rw[ybb (Nat.le_refl _)]at hz4;subst hz4;dsimp only at hR;refine AWP.exit ?_;refine yf ?_;exact retR
end N126
def D_zo : DF
 | [x0]=>some (.tup [.agg (y9b ((zo (rdS x0)).1)),.bool ((zo (rdS x0)).2)],false,[wS x0,(rdS x0).length<1099511627776,(rdS x0).length<=1048576])
 | _=>none
theorem yucb:OkD Tryz.prog 126 D_zo:=by unfold D_zo;exact dk N126.den
def zgf (a0:(List UInt8)):(Int×Bool):=
 (bif (!((zd a0 [46]).2.2))then(IntKind.wrap .i64 ((IntKind.wrap .i64 (10 * ((zl ((zd a0 [46]).1)).1)))+((zl [48]).1)),(((((zl ((zd a0 [46]).1)).2 && (zl [48]).2) && (ze ((zl ((zd a0 [46]).1)).1) 0 1200)) && (ze ((zl [48]).1) 0 9)) && ((zef (IntKind.wrap .i64 ((IntKind.wrap .i64 (10 * ((zl ((zd a0 [46]).1)).1)))+((zl [48]).1)))) == a0)))else(IntKind.wrap .i64 ((IntKind.wrap .i64 (10 * ((zl ((zd a0 [46]).1)).1)))+((zl ((zd a0 [46]).2.1)).1)),(((((zl ((zd a0 [46]).1)).2 && (zl ((zd a0 [46]).2.1)).2) && (ze ((zl ((zd a0 [46]).1)).1) 0 1200)) && (ze ((zl ((zd a0 [46]).2.1)).1) 0 9)) && ((zef (IntKind.wrap .i64 ((IntKind.wrap .i64 (10 * ((zl ((zd a0 [46]).1)).1)))+((zl ((zd a0 [46]).2.1)).1)))) == a0))))
namespace N127
theorem DD:DOk Tryz.prog (Go.Ab.DD [(115,dP D_zef),(124,dP D_zd),(53,dP D_ze),(69,dP D_zl)]):=ya yhx.e <| ya yrl.e <| ya yfc.e <| ya yrj.e <| yc _
abbrev dn:=cj @D_zef.eq_1 <| cj @D_zd.eq_1 <| cj @D_ze.eq_1 <| @D_zl.eq_1
abbrev ol:=@ze.eq_1
theorem gr {p:Prop} (h:p:=by(grind [yrg]);first|done|fail):p:=h
set_option maxHeartbeats 400000 in
set_option maxRecDepth 20000 in
theorem den (a0:(List UInt8)) (hb0:a0.length<1099511627776) (hp0:a0.length<=1048576):Den Tryz.prog 127 [.str a0] (.tup [.int .i64 ((zgf a0).1),.bool ((zgf a0).2)]):=by
 generalize hR:zgf a0=r;unfold zgf at hR;refine di Tryz.func127 Tryz.ntmps127 Tryz.results127 ?_;intro c hL hc hk;obtain⟨hL0,_⟩:=hL;have hw0:=lwS hL0;clear hL0;simp only[pars,Nat.zero_add];iterate 3 refine rS ?_
 refine yb ?_ ?_<;>intro hb
 ·replace hR:=ct hR
  iterate 4 refine rS ?_
  exact retR
 ·replace hR:=cf hR
  iterate 3 refine rS ?_
  exact retR
end N127
def D_zgf : DF
 | [x0]=>some (.tup [.int .i64 ((zgf (rdS x0)).1),.bool ((zgf (rdS x0)).2)],false,[wS x0,(rdS x0).length<1099511627776,(rdS x0).length<=1048576])
 | _=>none
theorem yw5:OkD Tryz.prog 127 D_zgf:=by unfold D_zgf;exact dk N127.den
theorem yc5 (k:Int) (l:List (List UInt8)) (h:0<=k) (h2:k<(l.length:Int)):zac k l=l.getD k.toNat default:=by
 unfold zac zyg;rw[decide_eq_true h,decide_eq_true h2];rfl
def yyj (a0:(List UInt8)) (a1:Int) (i1:Nat) (s1:Int) (i2:Nat) (s2:Int):Except (Int) (Int):=
 (bif decide (65535<(IntKind.wrap .i64 (s2 * 2)))then .ok (IntKind.wrap .i64 (BitVec.ofInt (IntKind.bits .i64) (IntKind.wrap .i64 (BitVec.ofInt (IntKind.bits .i64) (IntKind.wrap .i64 (s2 * 2)) &&& BitVec.ofInt (IntKind.bits .i64) 65535).toNat) ^^^ BitVec.ofInt (IntKind.bits .i64) 4129).toNat)else .ok (IntKind.wrap .i64 (s2 * 2)))
def y2k (a0:(List UInt8)) (a1:Int) (i1:Nat) (s1:Int):Except (Int) (Int):=
 (match ye (yyj a0 a1 i1 s1) (8-0) 0 (IntKind.wrap .i64 (BitVec.ofInt (IntKind.bits .i64) s1 ^^^ BitVec.ofInt (IntKind.bits .i64) (IntKind.wrap .i64 ((IntKind.wrap .i64 ((a0.getD i1 0).toNat:Int)) * 256))).toNat)with|.error e=>.error e|.ok s2=>.ok s2)
def zu (a0:(List UInt8)) (a1:Int):Int:=
 (bif (!(ze a1 0 65535))then 0 else(match ye (y2k a0 a1) (a0.length-0) 0 a1 with|.error e=>e|.ok s1=>s1))
namespace N66
theorem DD:DOk Tryz.prog (Go.Ab.DD [(53,dP D_ze)]):=ya yfc.e <| yc _
abbrev dn:=@D_ze.eq_1
abbrev ol:=@ze.eq_1
theorem den (a0:(List UInt8)) (a1:Int)  : Den Tryz.prog 66 [.str a0,.int .i64 a1] (.int .i64 (zu a0 a1)):=by
 generalize hR:zu a0 a1=r;unfold zu at hR;refine di Tryz.func66 Tryz.ntmps66 Tryz.results66 ?_;intro c hL hc hk;obtain⟨hL0,hL1,_⟩:=hL;have hw0:=lwS hL0;clear hL0 hL1;simp only[pars,Nat.zero_add];iterate 2 refine rS ?_
 refine yb ?_ ?_<;>intro hb
 ·replace hR:=ct hR
  exact retR
 ·replace hR:=cf hR
  refine rS ?_;refine AWP.block ?_;generalize hz1:ye (y2k a0 a1) (a0.length-0) 0 a1=z1 at hR;refine AWP.range (y2k a0 a1) (fun i1 s1=>⟨[(0,.str a0),(1,.int .i64 s1),(5,.int .i64 (i1:Int))],[]⟩) (fun i1 s1=>True) (a0.length) 0 a1 [] hz1 ot wt sm ?_;clear hz1;intro i1 s1 hi1 hW1 hz1;refine rS ?_;refine yb ?_ ?_<;>intro hb
  ·have hlt1:i1<a0.length:=ot
   rw[yi hlt1]at hz1;simp only[y2k]at hz1;iterate 2 refine rS ?_
   refine AWP.block ?_;generalize hz2:ye (yyj a0 a1 i1 s1) (8-0) 0 (IntKind.wrap .i64 (BitVec.ofInt (IntKind.bits .i64) s1 ^^^ BitVec.ofInt (IntKind.bits .i64) (IntKind.wrap .i64 ((IntKind.wrap .i64 ((a0.getD i1 0).toNat:Int)) * 256))).toNat)=z2 at hz1;refine AWP.range (yyj a0 a1 i1 s1) (fun i2 s2=>⟨[(0,.str a0),(1,.int .i64 s2),(5,.int .i64 (i1:Int)),(22,.int .i64 (i2:Int))],[]⟩) (fun i2 s2=>True) (8) 0 (IntKind.wrap .i64 (BitVec.ofInt (IntKind.bits .i64) s1 ^^^ BitVec.ofInt (IntKind.bits .i64) (IntKind.wrap .i64 ((IntKind.wrap .i64 ((a0.getD i1 0).toNat:Int)) * 256))).toNat) [] hz2 ot wt sm ?_;clear hz2;intro i2 s2 hi2 hW2 hz2;refine rS ?_;refine AWP.seq ?_;refine yb ?_ ?_<;>intro hb
   ·have hlt2:i2<8:=ot
    rw[yi hlt2]at hz2;simp only[yyj]at hz2;iterate 2 refine rS ?_
    refine yb ?_ ?_<;>intro hb
    ·simp only[hb,cond_true]at hz2
     iterate 2 refine rS ?_
     exact⟨_,[],hlt2,wt,hz2,sm⟩
    ·simp only[hb,cond_false]at hz2
     refine rS ?_;exact⟨_,[],hlt2,wt,hz2,sm⟩
   ·obtain rfl:i2=8:=ot
    rw[ybb (Nat.le_refl _)]at hz2;subst hz2;dsimp only at hz1;refine AWP.exit ?_;refine yf ?_;refine rS ?_;exact⟨_,[],hlt1,wt,hz1,sm⟩
  ·obtain rfl:i1=a0.length:=ot
   exact retX
end N66
def D_zu : DF
 | [x0,x1]=>some (.int .i64 (zu (rdS x0) (rdI x1)),false,[wS x0,wI .i64 x1])
 | _=>none
theorem y7cb:OkD Tryz.prog 66 D_zu:=by unfold D_zu;exact dk N66.den
def zpc (a0:Int) (a1:Int) (a2:Int):(List UInt8):=
 (zsb [[101,100,105,116,105,111,110],(zh a0),(zdb a1),(zh a2)] [32])
namespace N29
theorem DD:DOk Tryz.prog (Go.Ab.DD [(58,dP D_zsb),(59,dP D_zh),(60,dP D_zdb)]):=ya y6i.e <| ya ygf.e <| ya y6y.e <| yc _
abbrev dn:=cj @D_zsb.eq_1 <| cj @D_zh.eq_1 <| @D_zdb.eq_1
theorem gr {p:Prop} (h:p:=by(grind [y0c,ywp]);first|done|fail):p:=h
theorem o0 {p:Prop} (h:p:=by(first|((repeat' with_reducible apply And.intro)<;>(first|omega|assumption|(simp only[List.length_append,List.length_cons,List.length_nil,List.length_singleton];omega)|(refine Nat.le_trans (yfe _ _) ?_;simp only[jl,List.length_cons,List.length_nil];omega))));first|done|fail):p:=h
theorem lx {p:Prop} (h:p:=by(exact lxx);first|done|fail):p:=h
set_option maxHeartbeats 1000000 in
set_option maxRecDepth 20000 in
theorem den (a0:Int) (a1:Int) (a2:Int) (hp0 : -9223372036854775808<=a0) (hp1:a0<=9223372036854775807) (hp2 : -9223372036854775808<=a2) (hp3:a2<=9223372036854775807):Den Tryz.prog 29 [.int .i64 a0,.int .i64 a1,.int .i64 a2] (.str (zpc a0 a1 a2)):=by
 generalize hR:zpc a0 a1 a2=r;unfold zpc at hR;refine di Tryz.func29 Tryz.ntmps29 Tryz.results29 ?_;intro c hL hc hk;clear hL;simp only[pars,Nat.zero_add];have l1:=yfd a0 hp0 hp1;have l2:=ywp a1;have l3:=yfd a2 hp2 hp3;refine rS ?_;exact retR
end N29
def D_zpc : DF
 | [x0,x1,x2]=>some (.str (zpc (rdI x0) (rdI x1) (rdI x2)),false,[wI .i64 x0,wI .i64 x1,wI .i64 x2,-9223372036854775808<=(rdI x0),(rdI x0)<=9223372036854775807,-9223372036854775808<=(rdI x2),(rdI x2)<=9223372036854775807])
 | _=>none
theorem yey:OkD Tryz.prog 29 D_zpc:=by unfold D_zpc;exact dk N29.den
def ydy (a0:(List UInt8)) (s1:Int):Except (Sum ((Int×Bool)) (Int)) (Int):=
 (bif decide (s1<=9)then(bif ((zae s1) == a0)then .error (.inl (s1,true))else .ok (IntKind.wrap .i64 (s1+1)))else .error (.inr s1))
def zsd (a0:(List UInt8)):(Int×Bool):=
 (match yab (ydy a0) (((10-(0:Int)).toNat)+1) 0 with|.error (.inl e)=>e|.error (.inr s1)=>(0,false)|.ok _=>default)
namespace N125
theorem DD:DOk Tryz.prog (Go.Ab.DD [(116,dP D_zae)]):=ya ydr.e <| yc _
abbrev dn:=@D_zae.eq_1
theorem den (a0:(List UInt8))  : Den Tryz.prog 125 [.str a0] (.tup [.int .i64 ((zsd a0).1),.bool ((zsd a0).2)]):=by
 generalize hR:zsd a0=r;unfold zsd at hR;refine di Tryz.func125 Tryz.ntmps125 Tryz.results125 ?_;intro c hL hc hk;obtain⟨hL0,_⟩:=hL;have hw0:=lwS hL0;clear hL0;simp only[pars,Nat.zero_add];iterate 2 refine rS ?_
 refine AWP.block ?_;generalize hz1:yab (ydy a0) (((10-(0:Int)).toNat)+1) 0=z1 at hR;refine AWP.whileW (ydy a0) (fun s1=>⟨[(0,.str a0),(4,.int .i64 s1)],[]⟩) (fun s1=>0<=s1/\s1<=10) (fun s1=>(10-s1).toNat) (((10-(0:Int)).toNat)+1) 0 [] hz1 m0 wt sm ?_;clear hz1;intro s1 k1 hW1 hm1 hz1;simp only[ydy]at hz1;refine rS ?_;refine yb ?_ ?_<;>intro hb
 ·simp only[hb,cond_true]at hz1
  refine rS ?_;refine yb ?_ ?_<;>intro hb
  ·simp only[hb,cond_true]at hz1
   refine rS ?_;refine AWP.ret ?_;subst hz1;dsimp only at hR;subst hR;exact es
  ·simp only[hb,cond_false]at hz1
   refine rS ?_;exact⟨_,[],ms,wt,hz1,sm⟩
 ·simp only[hb,cond_false]at hz1
  refine AWP.exit ?_;refine yf ?_;subst hz1;dsimp only at hR;exact retR
end N125
def D_zsd : DF
 | [x0]=>some (.tup [.int .i64 ((zsd (rdS x0)).1),.bool ((zsd (rdS x0)).2)],false,[wS x0])
 | _=>none
theorem yv5:OkD Tryz.prog 125 D_zsd:=by unfold D_zsd;exact dk N125.den
def zhf (a0:(List UInt8)):(Point×Bool):=
 (bif (((!((zl ((zd a0 [44]).1)).2)) || (!((zl ((zd a0 [44]).2.1)).2))) || (!(zyd ({ X:=(zl ((zd a0 [44]).1)).1,Y:=(zl ((zd a0 [44]).2.1)).1:Point }))))then({ X:=0,Y:=0:Point },false)else({ X:=(zl ((zd a0 [44]).1)).1,Y:=(zl ((zd a0 [44]).2.1)).1:Point },true))
namespace N71
theorem DD:DOk Tryz.prog (Go.Ab.DD [(124,dP D_zd),(69,dP D_zl),(95,dP D_zyd)]):=ya yrl.e <| ya yrj.e <| ya ydq.e <| yc _
abbrev dn:=cj @D_zd.eq_1 <| cj @D_zl.eq_1 <| @D_zyd.eq_1
theorem gr {p:Prop} (h:p:=by(grind [yrg]);first|done|fail):p:=h
set_option maxHeartbeats 1000000 in
set_option maxRecDepth 20000 in
theorem den (a0:(List UInt8)) (hb0:a0.length<1099511627776) (hp0:a0.length<=1048576):Den Tryz.prog 71 [.str a0] (.tup [.agg (y8e ((zhf a0).1)),.bool ((zhf a0).2)]):=by
 generalize hR:zhf a0=r;unfold zhf at hR;refine di Tryz.func71 Tryz.ntmps71 Tryz.results71 ?_;intro c hL hc hk;obtain⟨hL0,_⟩:=hL;have hw0:=lwS hL0;clear hL0;simp only[pars,Nat.zero_add];have c1:=yrg a0 [44];iterate 6 refine rS ?_
 refine yb ?_ ?_<;>intro hb
 ·replace hR:=ct hR
  exact retR
 ·replace hR:=cf hR
  exact retR
end N71
def D_zhf : DF
 | [x0]=>some (.tup [.agg (y8e ((zhf (rdS x0)).1)),.bool ((zhf (rdS x0)).2)],false,[wS x0,(rdS x0).length<1099511627776,(rdS x0).length<=1048576])
 | _=>none
theorem yp8:OkD Tryz.prog 71 D_zhf:=by unfold D_zhf;exact dk N71.den
def CBd (r:Character×Bool):Prop:=r.1.Group.length<=1048577/\r.1.Letter.length<=1048577/\r.1.Colors.length<=0
theorem cbd0 (b:Bool):CBd ({ Kind:=0,Group:=[],Letter:=[],Colors:=[],Period:=0:Character },b):=⟨by simp,by simp,by simp⟩
theorem ykab (n : Nat) (hn : n <= 1048577) (b : Nat -> List Int -> Except (Character × Bool) (List Int)) (hb : ∀ i s, (∃ x, b i s = .ok (s ++ [x])) \/ ∃ e, b i s = .error e /\ CBd e) (f : List Int -> Character × Bool)
  (hf:∀ s,s.length<=1048577->CBd (f s)):CBd (match ye b (n-0) 0 ([]:List Int)with|.error e=>e|.ok s=>f s):=by
 cases h:ye b (n-0) 0 ([]:List Int)with
 | error e=>
  obtain⟨j,t,_,_,h3⟩:=ymd h;rcases hb j t with⟨x,hx⟩|⟨e',he,hc⟩
  ·rw[hx]at h3;cases h3
  ·rw[he]at h3;cases h3;exact hc
 | ok s=>
  have hk:=ybh (fun i s=>s.length<=i) h (by simp) (fun j u v _ _ hu hv=>by
   rcases hb j u with⟨x,hx⟩|⟨e',he,hc⟩
   ·rw[hx]at hv
    simp only[Except.ok.injEq]at hv;subst hv;simp only[List.length_append,List.length_singleton];omega
   ·rw[he]at hv;cases hv)
  exact hf s (by omega)
theorem y2v (a:List UInt8) (ha:a.length<=1048576):CBd (zo a):=by
  have c1:=y0r a [43,76,70,108];have c2:=yrg (zg a [43,76,70,108]).1 [40];have c3:=y0r (zd (zg a [43,76,70,108]).1 [40]).2.1 [41];have c4:=(y6s (zg (zd (zg a [43,76,70,108]).1 [40]).2.1 [41]).1 [43] (by omega)).1
  have hw:∀ (b:Int×Int->Except (Sum (Character×Bool) (Int×Int)) (Int×Int)) (n:Nat) (s:Int×Int) (f:Int×Int->Character×Bool),(∀ s,match b s with|.error (.inl e)=>False|_=>True)->(∀ s,CBd (f s))->CBd (default:Character×Bool) ->
      CBd (match yab b n s with|.error (.inl e)=>e|.error (.inr s)=>f s|.ok _=>default):=by
    intro b n s f hb hf hd
    have h:=yns (body:=b) (I:=fun _=>True) (Q:=fun r=>match r with|.inl e=>False|.inr _=>True) (fun s _=>by
      have:=hb s
      cases hbs:b s with
      | error r => rw [hbs] at this; cases r with
        | inl e=>exact this
        | inr t=>trivial
      | ok t=>trivial) n s trivial
    cases hl:yab b n s with
    | error r=>
      rw[hl]at h
      cases r with
      | inl e=>exact h.elim
      | inr t=>exact hf t
    | ok t=>exact hd
  have hdef:CBd (default:Character×Bool):=⟨by show(0:Nat)<=_;omega,by show(0:Nat)<=_;omega,by show(0:Nat)<=_;omega⟩
  unfold zo
  cases(zg a [43,76,70,108]).2 with
  | true=>
    simp only[cond_true];refine hw _ _ _ _ (fun s => ?_) (fun s => ?_) hdef
    . unfold y0u
      cases decide (s.1<=8)with
      | false=>trivial
      | true=>
        simp only[cond_true]
        cases((zbd s.1) == ((zd ((zg a [43,76,70,108]).1) [40]).1))with
        | true=>trivial
        | false=>trivial
    . cases(!((zd ((zg a [43,76,70,108]).1) [40]).2.2))with
      | true=>exact⟨by simp,by simp,by simp⟩
      | false=>
        simp only[cond_false]
        cases(s.2 == 8)with
        | true=>exact⟨by simp,by simp only[cond_true];omega,by simp⟩
        | false=>
          simp only[cond_false];refine ykab _ c4 _ (fun i t => ?_) (fun t=>({ Kind:=s.2,Group:=t,Letter:=[76],Colors:=[],Period:=0:Character },_)) (fun t ht=>⟨ht,by simp,by simp⟩);unfold y1v
          cases(!((zl ((zb ((zg ((zd ((zg a [43,76,70,108]).1) [40]).2.1) [41]).1) [43]).getD i default)).2))with
          | true=>exact .inr ⟨_,rfl,cbd0 _⟩
          | false=>exact .inl ⟨_,rfl⟩
  | false=>
    simp only[cond_false];refine hw _ _ _ _ (fun s => ?_) (fun s => ?_) hdef
    . unfold y2m
      cases decide (s.1<=8)with
      | false=>trivial
      | true=>
        simp only[cond_true]
        cases((zbd s.1) == ((zd ((zg a [43,76,70,108]).1) [40]).1))with
        | true=>trivial
        | false=>trivial
    . cases(!((zd ((zg a [43,76,70,108]).1) [40]).2.2))with
      | true=>exact⟨by simp,by simp,by simp⟩
      | false=>
        simp only[cond_false]
        cases(s.2 == 8)with
        | true=>exact⟨by simp,by simp only[cond_true];omega,by simp⟩
        | false=>
          simp only[cond_false];refine ykab _ c4 _ (fun i t => ?_) (fun t=>({ Kind:=s.2,Group:=t,Letter:=[],Colors:=[],Period:=0:Character },_)) (fun t ht=>⟨ht,by simp,by simp⟩);unfold yxu
          cases(!((zl ((zb ((zg ((zd ((zg a [43,76,70,108]).1) [40]).2.1) [41]).1) [43]).getD i default)).2))with
          | true=>exact .inr ⟨_,rfl,cbd0 _⟩
          | false=>exact .inl ⟨_,rfl⟩
theorem ynbb {w:List UInt8} (hw:w.length<=1048576) : -9223372036854775808<=(zl w).1/\(zl w).1<=9223372036854775807:=by
 show -9223372036854775808<=(y8b w).1/\(y8b w).1<=9223372036854775807;rcases yjg w with⟨m,hm,he,hr⟩|⟨hn,hr⟩
 ·rw[hr];unfold E18 at hm;simp only;omega
 ·rw[hr];decide
theorem cck {k:Int} (h:zdf k=true):1<=k/\k<=3:=by
 unfold zdf ze at h;simpa using h
def ynk (a0:(List Correction)) (i1:Nat) (s1:List Int):Except ((List Int)) (List Int):=
 (bif (zdf ((a0.getD i1 default).Kind))then .ok ((s1.set 0 (IntKind.wrap .i64 ((s1.getD 0 default)+1))).set (((a0.getD i1 default).Kind).toNat) (IntKind.wrap .i64 (((s1.set 0 (IntKind.wrap .i64 ((s1.getD 0 default)+1))).getD (((a0.getD i1 default).Kind).toNat) default)+1)))else .ok s1)
def ztd (a0:(List Correction)):(List Int):=
 (match ye (ynk a0) (a0.length-0) 0 (List.replicate 4 (default:Int))with|.error e=>e|.ok s1=>s1)
namespace N9
theorem DD:DOk Tryz.prog (Go.Ab.DD [(26,dP D_zdf)]):=ya y9x.e <| yc _
abbrev dn:=@D_zdf.eq_1
theorem o0 {p:Prop} (h:p:=by(first|(have h9:=cck (by assumption);have h8:s1.length=4:=hW1;(try simp only[List.length_set]);(repeat' with_reducible apply And.intro)<;>omega));first|done|fail):p:=h
theorem den (a0:(List Correction)) (hb0:a0.length<1099511627776) (hb1:∀ v∈a0,bdCorrection v):Den Tryz.prog 9 [encL 17 y8 a0] (ownL 2 1 yy (ztd a0)):=by
 generalize hR:ztd a0=r;unfold ztd at hR;refine di Tryz.func9 Tryz.ntmps9 Tryz.results9 ?_;intro c hL hc hk;obtain⟨hL0,_⟩:=hL;have hw0:=lwA hL0;have hw1:∀ v∈a0,bwCorrection v:=fun v hv=>ymc v ((yj hL0).2 v hv)
 clear hL0;simp only[pars,Nat.zero_add];iterate 3 refine rS ?_
 refine AWP.block ?_;generalize hz1:ye (ynk a0) (a0.length-0) 0 (List.replicate 4 (default:Int))=z1 at hR;refine AWP.range (ynk a0) (fun i1 s1=>⟨[(3,.ref 0 1 0 s1.length),(7,encL 17 y8 a0),(8,.int .i64 (a0.length:Int)),(9,.int .i64 (i1:Int))],[.arr 2 1 s1.length (fun j=>yy (s1.getD j default))]⟩) (fun i1 s1=>s1.length=(List.replicate 4 (default:Int)).length) (a0.length) 0 (List.replicate 4 (default:Int)) [0] hz1 ot wt sm ?_;clear hz1;intro i1 s1 hi1 hW1 hz1;refine rS ?_;refine AWP.seq ?_;refine yb ?_ ?_<;>intro hb
 ·have hlt1:i1<a0.length:=ot
  rw[yi hlt1]at hz1;simp only[ynk]at hz1;iterate 2 refine rS ?_
  refine yb ?_ ?_<;>intro hb
  ·simp only[hb,cond_true]at hz1
   refine rS ?_;refine AWP.arrS 0 (fun j=>yy ((s1.set 0 (IntKind.wrap .i64 ((s1.getD 0 default)+1))).getD j default)) rfl (by intro i hi;by_cases hik:i=0;(focus(subst hik;rw[yt1 _ _ _ (by simpa using hi)];simp only[beq_self_eq_true,cond_true];exact y3 _));(rw[yv3 _ _ _ _ hik];simp only[beq_eq_false_iff_ne.2 hik,cond_false];exact y3 _)) ?_;simp only[setE];refine rS ?_;refine AWP.arrS 0 (fun j=>yy (((s1.set 0 (IntKind.wrap .i64 ((s1.getD 0 default)+1))).set (((a0.getD i1 default).Kind).toNat) (IntKind.wrap .i64 (((s1.set 0 (IntKind.wrap .i64 ((s1.getD 0 default)+1))).getD (((a0.getD i1 default).Kind).toNat) default)+1))).getD j default)) rfl (by intro i hi;by_cases hik:i=(((a0.getD i1 default).Kind).toNat);(focus(subst hik;rw[yt1 _ _ _ (by simpa using hi)];simp only[beq_self_eq_true,cond_true];exact y3 _));(rw[yv3 _ _ _ _ hik];simp only[beq_eq_false_iff_ne.2 hik,cond_false];exact y3 _)) ?_;simp only[setE];refine rS ?_;exact⟨_,[0],hlt1,wt,hz1,sm⟩
  ·simp only[hb,cond_false]at hz1
   refine rS ?_;exact⟨_,[0],hlt1,wt,hz1,sm⟩
 ·obtain rfl:i1=a0.length:=ot
  exact retX
end N9
def D_ztd : DF
 | [x0]=>some (ownL 2 1 yy (ztd (rdL ym x0)),false,[wL 17 y8 ym x0,(rdL ym x0).length<1099511627776,∀ v∈(rdL ym x0),bdCorrection v])
 | _=>none
theorem yh6:OkD Tryz.prog 9 D_ztd:=by unfold D_ztd;exact dk N9.den
end Go.Ab
