/- A part of a proof: walks of functions and lemmas of our own. No conditions. -/
import Derived.Test.YtijmcongeemehaaGreatDoorFAl
import Derived.Test.YtijmcongeemehaaGreatDoorFAt
import Derived.Test.YtijmcongeemehaaGreatDoorFAo
import Derived.Test.YtijmcongeemehaaGreatDoorFAp
import Derived.Test.YtijmcongeemehaaGreatDoorFAu
set_option linter.unusedSectionVars false
set_option linter.unusedVariables false
set_option linter.unusedSimpArgs false
set_option maxHeartbeats 1000000
namespace Go.Ab
open Go Go.Proofs
def zsb (a0:l00Src) (a1:Aid):Aid×l00Src:=
 (bnd ((za a0 24).2) fun q2=>(bif (((za a0 24).1) == 0)then(bnd ((zb q2 ([0,9999,10000]:List Int)).2) fun q4=>({ Number:=((zb q2 ([0,9999,10000]:List Int)).1),Name:=a1.Name,At:=a1.At,Height:=a1.Height,Mark:=a1.Mark,Light:=a1.Light,Sectors:=a1.Sectors,Intensity:=a1.Intensity:Aid },q4))else(bif (((za a0 24).1) == 1)then(bnd ((zw q2 [[],[82,111,99,107]]).2) fun q6=>({ Number:=a1.Number,Name:=((zw q2 [[],[82,111,99,107]]).1),At:=a1.At,Height:=a1.Height,Mark:=a1.Mark,Light:=a1.Light,Sectors:=a1.Sectors,Intensity:=a1.Intensity:Aid },q6))else(bif (((za a0 24).1) == 2)then(bnd ((zb q2 ([(-1),3000,3001]:List Int)).2) fun q8=>({ Number:=a1.Number,Name:=a1.Name,At:=a1.At,Height:=((zb q2 ([(-1),3000,3001]:List Int)).1),Mark:=a1.Mark,Light:=a1.Light,Sectors:=a1.Sectors,Intensity:=a1.Intensity:Aid },q8))else(bif (((za a0 24).1) == 3)then(bnd ((zb q2 ([10,(-1)]:List Int)).2) fun q10=>({ Number:=a1.Number,Name:=a1.Name,At:=a1.At,Height:=a1.Height,Mark:={ Kind:=((zb q2 ([10,(-1)]:List Int)).1),Colors:=a1.Mark.Colors,Shape:=a1.Mark.Shape,Topmark:=a1.Mark.Topmark:Mark },Light:=a1.Light,Sectors:=a1.Sectors,Intensity:=a1.Intensity:Aid },q10))else(bif (((za a0 24).1) == 4)then(bnd ((zb q2 ([0,100000000,100000001]:List Int)).2) fun q12=>({ Number:=a1.Number,Name:=a1.Name,At:=a1.At,Height:=a1.Height,Mark:=a1.Mark,Light:=a1.Light,Sectors:=a1.Sectors,Intensity:=((zb q2 ([0,100000000,100000001]:List Int)).1):Aid },q12))else(bif (((za a0 24).1) == 5)then({ Number:=a1.Number,Name:=a1.Name,At:=a1.At,Height:=a1.Height,Mark:=a1.Mark,Light:={ Kind:=a1.Light.Kind,Group:=a1.Light.Group,Letter:=a1.Light.Letter,Colors:=[87,82,71],Period:=a1.Light.Period:Character },Sectors:=a1.Sectors,Intensity:=a1.Intensity:Aid },q2)else(bif (((za a0 24).1) == 6)then({ Number:=a1.Number,Name:=a1.Name,At:={ X:=200001,Y:=a1.At.Y:Point },Height:=a1.Height,Mark:=a1.Mark,Light:=a1.Light,Sectors:=a1.Sectors,Intensity:=a1.Intensity:Aid },q2)else(a1,q2)))))))))
namespace N72
theorem DD:DOk Tryz.prog (Go.Ab.DD [(102,dM [true,false] D_za),(151,dM [true,true] D_zb),(152,dM [true,true] D_zw)]):=ya ycd.e <| ya yyk.e <| ya yen.e <| ye _
theorem dn:type_of% (And.intro @D_za.eq_1 <| And.intro @D_zb.eq_1 <| @D_zw.eq_1):=by and_intros<;>intros<;>rfl
theorem o1 {p:Prop} (h:p:=by(first|(refine SrcOk.mono (by repeat' first|assumption|exact SrcOk.next ‹_› | apply SrcOk.next|apply SrcOk.pick|apply SrcOk.one|apply SrcOk.among|apply SrcOk.text|apply SrcOk.colors|apply SrcOk.point|apply SrcOk.chr|apply SrcOk.sectors|apply SrcOk.aid|apply SrcOk.aids|apply SrcOk.notice|omega) (by omega)));first|done|fail):p:=h
theorem lx {p:Prop} (h:p:=by(exact lxx);first|done|fail):p:=h
set_option maxHeartbeats 2000000 in
set_option maxRecDepth 20000 in
theorem den (a0:l00Src) (a1:Aid) (hp0:SrcOk 500000 a0):DenM Tryz.prog 72 [.op (yk a0),.agg (eAid a1)] (.agg (eAid ((zsb a0 a1).1))) [(.op (yk ((zsb a0 a1).2))),.any]:=by
 generalize hR:zsb a0 a1=r;unfold zsb at hR;refine dj (gb:=[true,false]) Tryz.func72 Tryz.ntmps72 Tryz.results72 ?_;intro c hL hc hk;obtain⟨hL0,hL1,_⟩:=hL;have hw0:bwl00Src a0:=yab a0 hL0;have hw1:bwAid a1:=y5 a1 hL1;clear hL0 hL1;simp only[adEL,adE,adRL,adR,ownL,encL,sv,List.nil_append,List.append_nil,List.cons_append,List.length_cons,List.length_nil,pars,Nat.zero_add,Nat.reduceAdd]at hk ⊢;iterate 2 refine rS ?_
 generalize hq2:(za a0 24).2=q2 at hR ⊢;replace hR:=bn hR;have hS_q2:SrcOk (500002) q2:=by rw[<- hq2];exact SrcOk.pick hp0 (by omega)
 refine rS ?_;refine AWP.cond rfl (fun hb => ?_) (fun hb => ?_)
 ·replace hR:=ct hR
  refine rS ?_;generalize hq4:(zb q2 ([0,9999,10000]:List Int)).2=q4 at hR ⊢;replace hR:=bn hR;have hS_q4:SrcOk (500004) q4:=by rw[<- hq4];exact SrcOk.among hS_q2 (by omega)
  refine rS ?_;refine AWP.ret ?_;subst hR;exact es
 ·replace hR:=cf hR
  refine rS ?_;refine AWP.cond rfl (fun hb => ?_) (fun hb => ?_)
  ·replace hR:=ct hR
   refine rS ?_;generalize hq6:(zw q2 [[],[82,111,99,107]]).2=q6 at hR ⊢;replace hR:=bn hR;have hS_q6:SrcOk (500004) q6:=by rw[<- hq6];exact SrcOk.text hS_q2 (by omega)
   refine rS ?_;refine AWP.ret ?_;subst hR;exact es
  ·replace hR:=cf hR
   refine rS ?_;refine AWP.cond rfl (fun hb => ?_) (fun hb => ?_)
   ·replace hR:=ct hR
    refine rS ?_;generalize hq8:(zb q2 ([(-1),3000,3001]:List Int)).2=q8 at hR ⊢;replace hR:=bn hR;have hS_q8:SrcOk (500004) q8:=by rw[<- hq8];exact SrcOk.among hS_q2 (by omega)
    refine rS ?_;refine AWP.ret ?_;subst hR;exact es
   ·replace hR:=cf hR
    refine rS ?_;refine AWP.cond rfl (fun hb => ?_) (fun hb => ?_)
    ·replace hR:=ct hR
     refine rS ?_;generalize hq10:(zb q2 ([10,(-1)]:List Int)).2=q10 at hR ⊢;replace hR:=bn hR;have hS_q10:SrcOk (500004) q10:=by rw[<- hq10];exact SrcOk.among hS_q2 (by omega)
     refine rS ?_;refine AWP.ret ?_;subst hR;exact es
    ·replace hR:=cf hR
     refine rS ?_;refine AWP.cond rfl (fun hb => ?_) (fun hb => ?_)
     ·replace hR:=ct hR
      refine rS ?_;generalize hq12:(zb q2 ([0,100000000,100000001]:List Int)).2=q12 at hR ⊢;replace hR:=bn hR;have hS_q12:SrcOk (500004) q12:=by rw[<- hq12];exact SrcOk.among hS_q2 (by omega)
      refine rS ?_;refine AWP.ret ?_;subst hR;exact es
     ·replace hR:=cf hR
      refine rS ?_;refine AWP.cond rfl (fun hb => ?_) (fun hb => ?_)
      ·replace hR:=ct hR
       iterate 2 refine rS ?_
       refine AWP.ret ?_;subst hR;exact es
      ·replace hR:=cf hR
       refine rS ?_;refine AWP.cond rfl (fun hb => ?_) (fun hb => ?_)
       ·replace hR:=ct hR
        iterate 2 refine rS ?_
        refine AWP.ret ?_;subst hR;exact es
       ·replace hR:=cf hR
        refine rS ?_;refine AWP.ret ?_;subst hR;exact es
end N72
def D_zsb : List AV -> Option (AV × List AV × List Prop)
 | [x0,x1]=>some (.agg (eAid ((zsb (rdQ yn x0) (rdG dAid x1)).1)),[(.op (yk ((zsb (rdQ yn x0) (rdG dAid x1)).2))),.any],[wQ yk yn x0,wG eAid dAid x1,SrcOk 500000 (rdQ yn x0)])
 | _=>none
theorem yao:OkM Tryz.prog 72 D_zsb:=by unfold D_zsb;exact dm N72.den
def zgg (a0:(List Int)):(List Int):=
 ([]:List Int)++a0
namespace N307
theorem DD:DOk Tryz.prog (Go.Ab.DD []):=ye _
theorem den (a0:(List Int)) (hb0:a0.length<1099511627776):Den Tryz.prog 307 [encL 1 yw a0] (ownL 2 1 yw (zgg a0)):=by
 generalize hR:zgg a0=r;unfold zgg at hR;refine di Tryz.func307 Tryz.ntmps307 Tryz.results307 ?_;intro c hL hc hk;obtain⟨hL0,_⟩:=hL;have hw0:a0.length<9223372036854775808:=Nat.lt_succ_of_le (yc hL0).1;clear hL0;simp only[pars,Nat.zero_add];iterate 2 refine rS ?_
 refine AWP.ret ?_;subst hR;exact es
end N307
def D_zgg : DF
 | [x0]=>some (ownL 2 1 yw (zgg (rdL y4b x0)),false,[wL 1 yw y4b x0,(rdL y4b x0).length<1099511627776])
 | _=>none
theorem yz2:OkD Tryz.prog 307 D_zgg:=by unfold D_zgg;exact dk N307.den
def zhg (a0:Character):Character:=
 { Kind:=a0.Kind,Group:=(zgg a0.Group),Letter:=a0.Letter,Colors:=a0.Colors,Period:=a0.Period:Character }
namespace N254
theorem DD:DOk Tryz.prog (Go.Ab.DD [(307,dP D_zgg)]):=ya yz2.e <| ye _
theorem dn:type_of% (@D_zgg.eq_1):=by and_intros<;>intros<;>rfl
theorem den (a0:Character) (hb0:bdCharacter a0):Den Tryz.prog 254 [.ep (yi a0)] (.agg (yrb (zhg a0))):=by
 generalize hR:zhg a0=r;unfold zhg at hR;refine di Tryz.func254 Tryz.ntmps254 Tryz.results254 ?_;intro c hL hc hk;obtain⟨hL0,_⟩:=hL;have hw0:bwCharacter a0:=yu a0 hL0;clear hL0;simp only[pars,Nat.zero_add];iterate 4 refine rS ?_
 refine AWP.ret ?_;subst hR;exact es
end N254
def D_zhg : DF
 | [x0]=>some (.agg (yrb (zhg (rdP yd x0))),false,[wP yi yd x0,bdCharacter (rdP yd x0)])
 | _=>none
theorem ys3:OkD Tryz.prog 254 D_zhg:=by unfold D_zhg;exact dk N254.den
def zxe (a0:Aid):Aid:=
 { Number:=a0.Number,Name:=a0.Name,At:=a0.At,Height:=a0.Height,Mark:=a0.Mark,Light:=zhg a0.Light,Sectors:=([]:List Sector)++a0.Sectors,Intensity:=a0.Intensity:Aid }
namespace N188
theorem DD:DOk Tryz.prog (Go.Ab.DD [(254,dP D_zhg)]):=ya ys3.e <| ye _
theorem dn:type_of% (@D_zhg.eq_1):=by and_intros<;>intros<;>rfl
theorem den (a0:Aid) (hb0:bdAid a0):Den Tryz.prog 188 [.ep (eAid a0)] (.agg (yob (zxe a0))):=by
 generalize hR:zxe a0=r;unfold zxe at hR;refine di Tryz.func188 Tryz.ntmps188 Tryz.results188 ?_;intro c hL hc hk;obtain⟨hL0,_⟩:=hL;have hw0:bwAid a0:=y5 a0 hL0;clear hL0;simp only[pars,Nat.zero_add];iterate 5 refine rS ?_
 refine AWP.ret ?_;subst hR;exact es
end N188
def D_zxe : DF
 | [x0]=>some (.agg (yob (zxe (rdP dAid x0))),false,[wP eAid dAid x0,bdAid (rdP dAid x0)])
 | _=>none
theorem yut:OkD Tryz.prog 188 D_zxe:=by unfold D_zxe;exact dk N188.den
def ylm (a0:(List Aid)) (i1:Nat) (s1:List Aid):Except ((List Aid)) (List Aid):=
 .ok (s1++[zxe (a0.getD i1 default)])
def zvd (a0:(List Aid)):(List Aid):=
 (match yf (ylm a0) (a0.length-0) 0 ([]:List Aid)with|.error e=>e|.ok s1=>s1)
namespace N187
theorem DD:DOk Tryz.prog (Go.Ab.DD [(188,dP D_zxe)]):=ya yut.e <| ye _
theorem dn:type_of% (@D_zxe.eq_1):=by and_intros<;>intros<;>rfl
theorem den (a0:(List Aid)) (hb0:a0.length<1099511627776) (hb1:∀ v∈a0,bdAid v) (hp0:a0.length<=1073741824):Den Tryz.prog 187 [encL 16 eAid a0] (ownL 59 16 yob (zvd a0)):=by
 generalize hR:zvd a0=r;unfold zvd at hR;refine di Tryz.func187 Tryz.ntmps187 Tryz.results187 ?_;intro c hL hc hk;obtain⟨hL0,_⟩:=hL;have hw0:a0.length<9223372036854775808:=Nat.lt_succ_of_le (yc hL0).1;have hw1:∀ v∈a0,bwAid v:=fun v hv=>y5 v ((yc hL0).2 v hv)
 clear hL0;simp only[pars,Nat.zero_add];iterate 3 refine rS ?_
 refine AWP.block ?_;generalize hz1:yf (ylm a0) (a0.length-0) 0 ([]:List Aid)=z1 at hR;refine AWP.range (ylm a0) (fun i1 s1=>⟨[(0,encL 16 eAid a0),(3,.ref 0 16 0 s1.length),(4,.int .i64 (i1:Int))],[.arr 59 16 s1.length (fun j=>yob (s1.getD j default))]⟩) (fun i1 s1=>s1.length<=([]:List Aid).length+1 * i1) (a0.length) 0 ([]:List Aid) [0] hz1 ot wt sm ?_;clear hz1;intro i1 s1 hi1 hW1 hz1;refine rS ?_;refine AWP.cond rfl (fun hb => ?_) (fun hb => ?_)
 ·have hlt1:i1<a0.length:=ot
  rw[yp hlt1]at hz1;simp only[ylm]at hz1;iterate 2 refine rS ?_
  exact⟨_,[4],hlt1,wt,hz1,sm⟩
 ·obtain rfl:i1=a0.length:=ot
  rw[yq (Nat.le_refl _)]at hz1;subst hz1;dsimp only at hR;refine AWP.exit ?_;refine yb ?_;refine rS ?_;refine AWP.ret ?_;subst hR;exact es
end N187
def D_zvd : DF
 | [x0]=>some (ownL 59 16 yob (zvd (rdL dAid x0)),false,[wL 16 eAid dAid x0,(rdL dAid x0).length<1099511627776,∀ v∈(rdL dAid x0),bdAid v,(rdL dAid x0).length<=1073741824])
 | _=>none
theorem yj3:OkD Tryz.prog 187 D_zvd:=by unfold D_zvd;exact dk N187.den
def zxf  : (List (List UInt8)):=
 ([[],[70],[79,99],[73,115,111],[70,108],[76,70,108],[81],[86,81],[77,111]]:List (List UInt8))
def yaz (a0:Int) (s1:Int×List Int):Except (Sum ((List UInt8)) (Int×List Int)) (Int×List Int):=
 (bif (s1.1 != 0)then(bif decide ((s1.1.tmod 10)<0)then .ok (IntKind.wrap .i64 (s1.1.tdiv 10),s1.2++([IntKind.wrap .u8 (IntKind.wrap .i64 (48+(IntKind.wrap .i64 (0-(s1.1.tmod 10)))))]:List Int))else .ok (IntKind.wrap .i64 (s1.1.tdiv 10),s1.2++([IntKind.wrap .u8 (IntKind.wrap .i64 (48+(s1.1.tmod 10)))]:List Int)))else .error (.inr (s1.1,s1.2)))
def y30 (a0:Int) (s1:Int×List Int) (s2:Int×List Int):Except (Sum ((List UInt8)) (Int×List Int)) (Int×List Int):=
 (bif decide (0<=s2.1)then .ok (IntKind.wrap .i64 (s2.1-1),s2.2++([((s1.2++([45]:List Int)).getD ((s2.1).toNat) default)]:List Int))else .error (.inr (s2.1,s2.2)))
def ys0 (a0:Int) (s1:Int×List Int) (s3:Int×List Int):Except (Sum ((List UInt8)) (Int×List Int)) (Int×List Int):=
 (bif decide (0<=s3.1)then .ok (IntKind.wrap .i64 (s3.1-1),s3.2++([(s1.2.getD ((s3.1).toNat) default)]:List Int))else .error (.inr (s3.1,s3.2)))
def zv (a0:Int):(List UInt8):=
 (bif (a0 == 0)then[48]else(match y0 (yaz a0) (((a0).natAbs)+1) (a0,([]:List Int))with|.error (.inl e)=>e|.error (.inr s1)=>(bif decide (a0<0)then(match y0 (y30 a0 s1) ((((IntKind.wrap .i64 ((s1.2.length+1:Int)-1))+1).toNat)+1) (IntKind.wrap .i64 ((s1.2.length+1:Int)-1),([]:List Int))with|.error (.inl e)=>e|.error (.inr s2)=>(s2.2.map fun z=>UInt8.ofNat z.toNat)|.ok _=>default)else(match y0 (ys0 a0 s1) ((((IntKind.wrap .i64 ((s1.2.length:Int)-1))+1).toNat)+1) (IntKind.wrap .i64 ((s1.2.length:Int)-1),([]:List Int))with|.error (.inl e)=>e|.error (.inr s3)=>(s3.2.map fun z=>UInt8.ofNat z.toNat)|.ok _=>default))|.ok _=>default))
def yu6 (a0:(List UInt8)) (a1:Int) (i1:Nat) (s1:Int×List (List UInt8)):Except ((List (List UInt8))) (Int×List (List UInt8)):=
 (bif (((a0.getD i1 0).toNat:Int) == a1)then .ok (IntKind.wrap .i64 ((i1:Int)+1),s1.2++[(a0.take i1).drop ((s1.1).toNat)])else .ok (s1.1,s1.2))
def ze (a0:(List UInt8)) (a1:Int):(List (List UInt8)):=
 (match yf (yu6 a0 a1) (a0.length-0) 0 (0,([]:List (List UInt8)))with|.error e=>e|.ok s1=>s1.2++[(a0.take a0.length).drop ((s1.1).toNat)])
theorem yje (a:List UInt8) (c:UInt8) (ha:a.length<=1099511627776):∀ (k i f:Nat) (out:List (List UInt8)),i+k=a.length->f<=i->(∀ j,f<=j->j<i->a.getD j 0≠c) ->
  ∃ s:Int×List (List UInt8),yf (yu6 a c.toNat) k i ((f:Int),out)=.ok s/\s.2++[(a.take a.length).drop s.1.toNat]=out++ym c (a.drop f)
 | 0,i,f,out,hk,hf,hn=>by
  refine⟨_,rfl,?_⟩;simp only[Int.toNat_natCast,List.take_length];rw[ykb];intro hc;obtain⟨j,hj⟩:=List.getElem?_of_mem hc;rw[List.getElem?_drop]at hj;have hlt:=(List.getElem?_eq_some_iff.1 hj).1;refine hn (f+j) (by omega) (by omega) ?_;rw[List.getD_eq_getElem?_getD,hj];rfl
 | k+1,i,f,out,hk,hf,hn=>by
  have hlt:i<a.length:=by omega
  simp only[yf,yu6];by_cases hc:a.getD i 0=c
  ·have hb:(((a.getD i 0).toNat:Int) == (c.toNat:Int))=true:=by rw[hc];simp
   simp only[hb,cond_true,Int.toNat_natCast];have hw:IntKind.wrap .i64 ((i:Int)+1)=((i+1:Nat):Int):=by rw[IntKind.wrap_i64];omega
   rw[hw];obtain⟨s,h1,h2⟩:=yje a c ha k (i+1) (i+1) (out++[(a.take i).drop f]) (by omega) (Nat.le_refl _) (fun j h1 h2=>by omega);refine⟨s,h1,?_⟩;rw[h2,List.append_assoc];congr 1
   have he:a.drop f=(a.take i).drop f++c::a.drop (i+1):=by
    have h3:a=a.take i++c::a.drop (i+1):=by
     conv=>lhs;rw[<- List.take_append_drop i a]
     rw[List.drop_eq_getElem_cons hlt];congr 2
     rw[<- hc,List.getD_eq_getElem?_getD,List.getElem?_eq_getElem hlt];rfl
    conv=>lhs;rw[h3]
    rw[List.drop_append_of_le_length (by simp;omega)]
   rw[he,y7]
   ·rfl
   ·intro hm
    obtain⟨j,hj⟩:=List.getElem?_of_mem hm;rw[List.getElem?_drop]at hj;have hl:=(List.getElem?_eq_some_iff.1 hj).1;simp only[List.length_take]at hl;rw[List.getElem?_take_of_lt (by omega)]at hj;refine hn (f+j) (by omega) (by omega) ?_;rw[List.getD_eq_getElem?_getD,hj];rfl
  ·have hb:(((a.getD i 0).toNat:Int) == (c.toNat:Int))=false:=by
    simp only[beq_eq_false_iff_ne];intro h;exact hc (UInt8.toNat_inj.1 (by omega))
   simp only[hb,cond_false]
   exact yje a c ha k (i+1) f out (by omega) (by omega) (fun j h1 h2=>by
    by_cases hji:j=i
    ·subst hji;exact hc
    ·exact hn j h1 (by omega))
theorem yft (a:List UInt8) (c:UInt8) (ha:a.length<=1099511627776):ze a c.toNat=ym c a:=by
 obtain⟨s,h1,h2⟩:=yje a c ha a.length 0 0 [] (by omega) (Nat.le_refl _) (fun j h1 h2=>by omega);unfold ze;simp only[Nat.sub_zero];rw[show((0:Int),([]:List (List UInt8)))=(((0:Nat):Int),[])from rfl,h1];simpa using h2
theorem yh8 (a:List UInt8) (ha:a.length<=1048576):∀ x∈ze a 32,x.length<=1048576:=by
 intro x hx;rw[show(32:Int)=(((32:UInt8).toNat:Nat):Int)from rfl,yft a 32 (by omega)]at hx;have:=(ycb 32 a).2 x hx;omega
def zwd (a0:l00Src) (a1:(List Aid)):Int×l00Src:=
 (bif ((a1.length:Int) == 0)then(bnd ((za a0 32).2) fun q3=>(((za a0 32).1),q3))else(bnd ((zh a0 6).2) fun q4=>(bif ((zh a0 6).1)then(bnd ((za q4 32).2) fun q6=>(((za q4 32).1),q6))else(bnd ((za q4 (a1.length:Int)).2) fun q8=>((a1.getD ((((za q4 (a1.length:Int)).1)).toNat) default).Number,q8)))))
namespace N89
theorem DD:DOk Tryz.prog (Go.Ab.DD [(102,dM [true,false] D_za),(150,dM [true,false] D_zh)]):=ya ycd.e <| ya ygi.e <| ye _
theorem dn:type_of% (And.intro @D_za.eq_1 <| @D_zh.eq_1):=by and_intros<;>intros<;>rfl
theorem o1 {p:Prop} (h:p:=by(first|(refine SrcOk.mono (by repeat' first|assumption|exact SrcOk.next ‹_› | apply SrcOk.next|apply SrcOk.pick|apply SrcOk.one|apply SrcOk.among|apply SrcOk.text|apply SrcOk.colors|apply SrcOk.point|apply SrcOk.chr|apply SrcOk.sectors|apply SrcOk.aid|apply SrcOk.aids|apply SrcOk.notice|omega) (by omega))|(exact(yg _ (by assumption) (by omega)).1)|(exact(yg _ (by assumption) (by omega)).2 (by omega))|(rename_i h9;simp only[beq_eq_false_iff_ne,ne_eq]at h9;exact(yg _ (by assumption) (by omega)).2 (by omega))|(rename_i h9;replace h9:=of_decide_eq_true h9;exact(yg _ (by assumption) (by omega)).2 (by omega)));first|done|fail):p:=h
set_option maxHeartbeats 2000000 in
set_option maxRecDepth 20000 in
theorem den (a0:l00Src) (a1:(List Aid)) (hp0:SrcOk 500000 a0):DenM Tryz.prog 89 [.op (yk a0),encL 16 eAid a1] (.int .i64 ((zwd a0 a1).1)) [(.op (yk ((zwd a0 a1).2))),.any]:=by
 generalize hR:zwd a0 a1=r;unfold zwd at hR;refine dj (gb:=[true,false]) Tryz.func89 Tryz.ntmps89 Tryz.results89 ?_;intro c hL hc hk;obtain⟨hL0,hL1,_⟩:=hL;have hw0:bwl00Src a0:=yab a0 hL0;have hw1:a1.length<9223372036854775808:=Nat.lt_succ_of_le (yc hL1).1;have hw2:∀ v∈a1,bwAid v:=fun v hv=>y5 v ((yc hL1).2 v hv)
 clear hL0 hL1;simp only[adEL,adE,adRL,adR,ownL,encL,sv,List.nil_append,List.append_nil,List.cons_append,List.length_cons,List.length_nil,pars,Nat.zero_add,Nat.reduceAdd]at hk ⊢;refine rS ?_;refine AWP.seq ?_;refine AWP.seq ?_;rcases Bool.eq_false_or_eq_true ((a1.length:Int) == 0)with hb|hb
 ·replace hR:=ct hR
  refine rK [(4,1),(5,1),(6,2)] ?_;refine AWP.cond rfl (fun hb => ?_) (fun hb => ?_)
  ·refine rS ?_
   generalize hq3:(za a0 32).2=q3 at hR ⊢;replace hR:=bn hR;have hS_q3:SrcOk (500002) q3:=by rw[<- hq3];exact SrcOk.pick hp0 (by omega)
   refine AWP.ret ?_;subst hR;exact es
  ·exact absurd hb (by decide)
 ·replace hR:=cf hR
  refine rK [(4,0),(5,0),(6,3)] ?_;generalize hq4:(zh a0 6).2=q4 at hR ⊢;replace hR:=bn hR;have hS_q4:SrcOk (500002) q4:=by rw[<- hq4];exact SrcOk.one hp0 (by omega)
  refine AWP.cond rfl (fun hb => ?_) (fun hb => ?_)
  ·replace hR:=ct hR
   refine rS ?_;generalize hq6:(za q4 32).2=q6 at hR ⊢;replace hR:=bn hR;have hS_q6:SrcOk (500004) q6:=by rw[<- hq6];exact SrcOk.pick hS_q4 (by omega)
   refine AWP.ret ?_;subst hR;exact es
  ·replace hR:=cf hR
   refine rS ?_;generalize hq8:(za q4 (a1.length:Int)).2=q8 at hR ⊢;replace hR:=bn hR;have hS_q8:SrcOk (500004) q8:=by rw[<- hq8];exact SrcOk.pick hS_q4 (by omega)
   refine rS ?_;refine AWP.ret ?_;subst hR;exact es
end N89
def D_zwd : List AV -> Option (AV × List AV × List Prop)
 | [x0,x1]=>some (.int .i64 ((zwd (rdQ yn x0) (rdL dAid x1)).1),[(.op (yk ((zwd (rdQ yn x0) (rdL dAid x1)).2))),.any],[wQ yk yn x0,wL 16 eAid dAid x1,SrcOk 500000 (rdQ yn x0)])
 | _=>none
theorem yt2:OkM Tryz.prog 89 D_zwd:=by unfold D_zwd;exact dm N89.den
def zjc (a0:(List Int)):l00Src:=
 { code:=a0,at_:=0,seed:=0:l00Src }
namespace N38
theorem DD:DOk Tryz.prog (Go.Ab.DD []):=ye _
theorem den (a0:(List Int))  : Den Tryz.prog 38 [encL 1 eIu8 a0] (.op (yk (zjc a0))):=by
 generalize hR:zjc a0=r;unfold zjc at hR;refine di Tryz.func38 Tryz.ntmps38 Tryz.results38 ?_;intro c hL hc hk;obtain⟨hL0,_⟩:=hL;have hw0:a0.length<9223372036854775808:=Nat.lt_succ_of_le (yc hL0).1;clear hL0;simp only[pars,Nat.zero_add];iterate 2 refine rS ?_
 refine AWP.ret ?_;subst hR;exact es
end N38
def D_zjc : DF
 | [x0]=>some (.op (yk (zjc (rdL dIu8 x0))),false,[wL 1 eIu8 dIu8 x0])
 | _=>none
theorem you:OkD Tryz.prog 38 D_zjc:=by unfold D_zjc;exact dk N38.den
def yc8 (a0:(List UInt8)) (i1:Nat) (s1:Unit):Except (Int) (Unit):=
 (bif (((zug ).getD i1 default) == a0)then .error (i1:Int)else .ok ())
def zpg (a0:(List UInt8)):Int:=
 (match yf (yc8 a0) (((zug ).length)-0) 0 ()with|.error e=>e|.ok s1=>(-1))
theorem yqy {l:List (List UInt8)} {m:Nat} (h:∀ x∈l,x.length<=m) (i:Nat):(l.getD i default).length<=m:=by
 rw[List.getD_eq_getElem?_getD]
 cases hg:l[i]? with
 | none=>exact Nat.zero_le _
 | some x=>exact h x (List.mem_of_getElem? hg)
theorem y86 (a:List UInt8) (n:Int) (c:UInt8) (hc:(c.toNat:Int)=n) (ha:a.length<=1048576) (i:Nat):((ze a n).getD i default).length<=a.length:=by
 rw[<- hc,yft a c (by omega)];exact yqy (ycb c a).2 i
theorem ypu (a:List UInt8) (c:UInt8) (i:Nat):((zg a [c]).getD i default).length<=a.length:=yqy (ycb c a).2 i
theorem yg3 (a:List UInt8) (c:UInt8):(zg a [c]).length<=a.length+1:=(ycb c a).1
theorem yu5 {y:List UInt8} (h:y≠[]) (hl:y.length<=1048576):IntKind.wrap .i64 ((y.length:Int)-1)=(y.length:Int)-1/\(List.take (IntKind.wrap .i64 ((y.length:Int)-1)).toNat y).length<=1048576/\1<=y.length:=by
 have:=List.length_pos_iff.2 h;refine⟨by rw[IntKind.wrap_i64];omega,?_,this⟩;rw[List.length_take];omega
end Go.Ab
