/- A part of a proof: walks of functions and lemmas of our own. No conditions. -/
import Derived.Test.YtcaopagmcldjmaaGreatDoorAAl
import Derived.Test.YtcaopagmcldjmaaGreatDoorAAv
import Derived.Test.YtcaopagmcldjmaaGreatDoorAAu
import Derived.Test.YtcaopagmcldjmaaGreatDoorAAp
set_option linter.unusedSectionVars false
set_option linter.unusedVariables false
set_option linter.unusedSimpArgs false
set_option maxHeartbeats 1000000
namespace Go.Ab
open Go Go.Proofs
def ybm (a0:l00Src) (q2:l00Src) (s1:Int×l00Src×List Item):Except (Sum ((List Item)×l00Src) (Int×l00Src×List Item)) (Int×l00Src×List Item):=
 (bif decide (0<s1.1)then(bnd ((zr s1.2.1 [[97],[98],[99,104,97,114,116],[108,105,115,116],[110,48,48,49,50],[122,57]]).2) fun q12=>(bnd ((zr q12 [[],[120],[97,32,98],[108,105,110,101,10,108,105,110,101],[97,114,99,104,105,118,101,32,51,10],[49,50,47,114,111,99,107]]).2) fun q14=>(bnd ((zh q14 4).2) fun q16=>(bif ((zh q14 4).1)then(bnd ((zvc q16 9).2) fun q18=>.ok (IntKind.wrap .i64 (s1.1-1),q18,(zgc s1.2.2 ({ Key:=((zr s1.2.1 [[97],[98],[99,104,97,114,116],[108,105,115,116],[110,48,48,49,50],[122,57]]).1),Text:=((zr q12 [[],[120],[97,32,98],[108,105,110,101,10,108,105,110,101],[97,114,99,104,105,118,101,32,51,10],[49,50,47,114,111,99,107]]).1)++((zvc q16 9).1):Item }))))else .ok (IntKind.wrap .i64 (s1.1-1),q16,(zgc s1.2.2 ({ Key:=((zr s1.2.1 [[97],[98],[99,104,97,114,116],[108,105,115,116],[110,48,48,49,50],[122,57]]).1),Text:=((zr q12 [[],[120],[97,32,98],[108,105,110,101,10,108,105,110,101],[97,114,99,104,105,118,101,32,51,10],[49,50,47,114,111,99,107]]).1):Item })))))))else .error (.inr (s1.1,s1.2.1,s1.2.2)))
def zrb (a0:l00Src):(List Item)×l00Src:=
 (bnd ((za a0 6).2) fun q2=>(match yeb (ybm a0 q2) (((((za a0 6).1)).toNat)+1) (((za a0 6).1),q2,([]:List Item))with|.error (.inl e)=>e|.error (.inr s1)=>(s1.2.2,s1.2.1)|.ok _=>default))
namespace N41
theorem DD:DOk Tryz.prog (Go.Ab.DD [(42,dM [true,false] D_za),(43,dM [true,true] D_zr),(53,dM [true,false] D_zh),(74,dM [true,false] D_zvc),(75,dP D_zgc)]):=ya yuc.e <| ya ylh.e <| ya y6h.e <| ya yn1.e <| ya yyz.e <| yd _
theorem dn:type_of% (And.intro @D_za.eq_1 <| And.intro @D_zr.eq_1 <| And.intro @D_zh.eq_1 <| And.intro @D_zvc.eq_1 <| @D_zgc.eq_1):=by and_intros<;>intros<;>rfl
theorem o1 {p:Prop} (h:p:=by(first|(exact itb1 _ _)|(exact itb2 _ _ (by assumption) (by omega))|(exact hW1.2.2.2.2)|(have h1:=htl q12;have h2:=hwl q16 _ (by assumption) (by omega);(try simp only[List.length_append]);omega)|(have hG:=hW1.2.2.2.1;omega)|(refine SrcOk.mono (by repeat' first|assumption|exact SrcOk.next ‹_› | apply SrcOk.next|apply SrcOk.pick|apply SrcOk.one|apply SrcOk.among|apply SrcOk.text|apply SrcOk.colors|apply SrcOk.point|apply SrcOk.chr|apply SrcOk.sectors|apply SrcOk.aid|apply SrcOk.aids|apply SrcOk.notice|omega) (by omega))|(exact SrcOk.mono hW1.2.2.1 (by omega))|(exact(yg _ (by assumption) (by omega)).1)|(exact(yg _ (by assumption) (by omega)).2 (by omega))|(rename_i h9;simp only[beq_eq_false_iff_ne,ne_eq]at h9;exact(yg _ (by assumption) (by omega)).2 (by omega))|(rename_i h9;replace h9:=of_decide_eq_true h9;exact(yg _ (by assumption) (by omega)).2 (by omega)));first|done|fail):p:=h
theorem lx {p:Prop} (h:p:=by(exact lxx);first|done|fail):p:=h
set_option maxHeartbeats 1000000 in
set_option maxRecDepth 20000 in
theorem den (a0:l00Src) (hp0:SrcOk 600000 a0):DenM Tryz.prog 41 [.op (ym a0)] (ownL 38 2 yr ((zrb a0).1)) [(.op (ym ((zrb a0).2)))]:=by
 generalize hR:zrb a0=r;unfold zrb at hR;refine dj (gb:=[true]) Tryz.func41 Tryz.ntmps41 Tryz.results41 ?_;intro c hL hc hk;obtain⟨hL0,_⟩:=hL;have hw0:bwl00Src a0:=y7 a0 hL0;clear hL0;simp only[adEL,adE,adRL,adR,ownL,encL,sv,List.nil_append,List.append_nil,List.cons_append,List.length_cons,List.length_nil,pars,Nat.zero_add,Nat.reduceAdd]at hk ⊢;have hpa:=y8i;have htl:=fun s=>yqh (B:=10) s [[],[120],[97,32,98],[108,105,110,101,10,108,105,110,101],[97,114,99,104,105,118,101,32,51,10],[49,50,47,114,111,99,107]] (by decide)
 have hwl:=fun(s:l00Src) (n:Int) (h:SrcOk n s) (hn:n<=1000000)=>(yjn h hn).2
 iterate 3 refine rS ?_
 generalize hq2:(za a0 6).2=q2 at hR ⊢;replace hR:=bn hR;have hS_q2:SrcOk (600002) q2:=by rw[<- hq2];exact SrcOk.pick hp0 (by omega)
 refine AWP.block ?_;generalize hz1:yeb (ybm a0 q2) (((((za a0 6).1)).toNat)+1) (((za a0 6).1),q2,([]:List Item))=z1 at hR;refine AWP.whileW (ybm a0 q2) (fun s1=>⟨[(0,.ptr 0 0),(3,.ref 1 2 0 s1.2.2.length),(4,.int .i64 s1.1)],[.box [encL 1 eIu8 s1.2.1.code,.int .i64 s1.2.1.at_,.int .u64 s1.2.1.seed],.arr 38 2 s1.2.2.length (fun j=>yr (s1.2.2.getD j default))]⟩) (fun s1=>0<=s1.1/\s1.1<=5/\SrcOk (600040+50 * (5-s1.1)) s1.2.1/\s1.2.2.length<=(5-s1.1).toNat/\∀ v∈s1.2.2,bdItem v) (fun s1=>(s1.1).toNat) (((((za a0 6).1)).toNat)+1) (((za a0 6).1),q2,([]:List Item)) [0,1] hz1 m0 (by(have h2:=yg 6 hp0 (by omega);have h3:=h2.2 (by omega);exact⟨h2.1,by omega,SrcOk.mono (by assumption) (by omega),by simp,by simp⟩)) sm ?_;clear hz1;intro s1 k1 hW1 hm1 hz1;simp only[ybm]at hz1;refine rS ?_;refine AWP.cond rfl (fun hb => ?_) (fun hb => ?_)
 ·rw[hb,cond_true]at hz1
  refine rS ?_;generalize hq12:(zr s1.2.1 [[97],[98],[99,104,97,114,116],[108,105,115,116],[110,48,48,49,50],[122,57]]).2=q12 at hz1 ⊢;rw[bndv q12]at hz1;have hS_q12:SrcOk (600040+50 * (5-s1.1)+2) q12:=by rw[<- hq12];exact SrcOk.text hW1.2.2.1 (by omega)
  refine rS ?_;generalize hq14:(zr q12 [[],[120],[97,32,98],[108,105,110,101,10,108,105,110,101],[97,114,99,104,105,118,101,32,51,10],[49,50,47,114,111,99,107]]).2=q14 at hz1 ⊢;rw[bndv q14]at hz1;have hS_q14:SrcOk (600040+50 * (5-s1.1)+2+2) q14:=by rw[<- hq14];exact SrcOk.text hS_q12 (by omega)
  refine rS ?_;generalize hq16:(zh q14 4).2=q16 at hz1 ⊢;rw[bndv q16]at hz1;have hS_q16:SrcOk (600040+50 * (5-s1.1)+2+2+2) q16:=by rw[<- hq16];exact SrcOk.one hS_q14 (by omega)
  refine AWP.cond rfl (fun hb => ?_) (fun hb => ?_)
  ·rw[hb,cond_true]at hz1
   refine rS ?_;generalize hq18:(zvc q16 9).2=q18 at hz1 ⊢;rw[bndv q18]at hz1;have hS_q18:SrcOk (600040+50 * (5-s1.1)+2+2+2+30) q18:=by rw[<- hq18];exact SrcOk.word hS_q16 (by omega)
   iterate 2 refine rS ?_
   clear hR;exact⟨_,[0,4],by(have hpos:0<s1.1:=of_decide_eq_true (by assumption);have hwr:IntKind.wrap .i64 (s1.1-1)=s1.1-1:=(by rw[IntKind.wrap_i64];omega);(try dsimp only);rw[hwr];omega),by(have hpos:0<s1.1:=of_decide_eq_true (by assumption);have hwr:IntKind.wrap .i64 (s1.1-1)=s1.1-1:=(by rw[IntKind.wrap_i64];omega);(try dsimp only);rw[hwr];have hG:=hW1.2.2.2.1;exact⟨by omega,by omega,SrcOk.mono (by assumption) (by omega),Nat.le_trans (hpa _ _).1 (by omega),fun v hv=>((hpa _ _).2 v hv).elim (fun h=>hW1.2.2.2.2 v h) (fun h=>by subst h;first|exact itb1 _ _|exact itb2 _ _ (by assumption) (by omega))⟩),hz1,sm⟩
  ·rw[hb,cond_false]at hz1
   iterate 2 refine rS ?_
   clear hR;exact⟨_,[0,4],by(have hpos:0<s1.1:=of_decide_eq_true (by assumption);have hwr:IntKind.wrap .i64 (s1.1-1)=s1.1-1:=(by rw[IntKind.wrap_i64];omega);(try dsimp only);rw[hwr];omega),by(have hpos:0<s1.1:=of_decide_eq_true (by assumption);have hwr:IntKind.wrap .i64 (s1.1-1)=s1.1-1:=(by rw[IntKind.wrap_i64];omega);(try dsimp only);rw[hwr];have hG:=hW1.2.2.2.1;exact⟨by omega,by omega,SrcOk.mono (by assumption) (by omega),Nat.le_trans (hpa _ _).1 (by omega),fun v hv=>((hpa _ _).2 v hv).elim (fun h=>hW1.2.2.2.2 v h) (fun h=>by subst h;first|exact itb1 _ _|exact itb2 _ _ (by assumption) (by omega))⟩),hz1,sm⟩
 ·rw[hb,cond_false]at hz1
  refine AWP.exit ?_;refine yb ?_;subst hz1;dsimp only at hR;refine rS ?_;refine AWP.ret ?_;subst hR;exact es
end N41
def D_zrb : List AV -> Option (AV × List AV × List Prop)
 | [x0]=>some (ownL 38 2 yr ((zrb (rdQ yn x0)).1),[(.op (ym ((zrb (rdQ yn x0)).2)))],[wQ ym yn x0,SrcOk 600000 (rdQ yn x0)])
 | _=>none
theorem y2z:OkM Tryz.prog 41 D_zrb:=by unfold D_zrb;exact dm N41.den
theorem yaj (s:l00Src) (l:List Int) (B:Int) (h0:0<=B) (h:∀ v∈l,v<=B):(zb s l).1<=B:=by
 show l.getD _ default<=B;generalize (za s (l.length:Int)).1.toNat=i;rw[List.getD_eq_getElem?_getD];by_cases hi:i<l.length
 ·rw[List.getElem?_eq_getElem hi];exact h _ (List.getElem_mem hi)
 ·rw[List.getElem?_eq_none (by omega)];exact h0
theorem ym3 (s:l00Src) (l:List Int) (h:∀ v∈l,0<=v):0<=(zb s l).1:=by
 show 0<=l.getD _ default;generalize (za s (l.length:Int)).1.toNat=i;rw[List.getD_eq_getElem?_getD];by_cases hi:i<l.length
 ·rw[List.getElem?_eq_getElem hi];exact h _ (List.getElem_mem hi)
 ·rw[List.getElem?_eq_none (by omega)];exact Int.le_refl 0
theorem yy5 (n:Nat):List.map (fun _:Nat=>UInt8.ofNat 0) (List.range n)=List.map (fun z:Int=>UInt8.ofNat z.toNat) (List.replicate n (default:Int)):=by
 rw[List.map_replicate,List.eq_replicate_iff];exact⟨by simp,fun b hb=>by obtain⟨_,_,rfl⟩:=List.mem_map.1 hb;rfl⟩
structure ItmI (N:Int) (s:Int×l00Src×List Item):Prop where
 a:0<=s.1
 b:s.1<=5
 q:SrcOk (N+50 * (5-s.1)) s.2.1
 n:(s.2.2.length:Int)<=5-s.1
 o:∀ v∈s.2.2,bdItem v
theorem putI {l:List Item} {x:Item} (h2:∀ v∈l,bdItem v) (h3:bdItem x):∀ v∈zgc l x,bdItem v:=fun v hv=>((y8i l x).2 v hv).elim (h2 v) (fun h=>by subst h;exact h3)
theorem ysj {n:Int} {s:l00Src} (h:SrcOk n s) (hn:n<=600000):SrcOk (n+300) (zrb s).2/\(zrb s).1.length<=5/\∀ v∈(zrb s).1,bdItem v:=by
 have hr:=yg 6 h (by omega);have hr2:=hr.2 (by omega);have q2:=h.pick (m:=6) (by omega);unfold zrb;simp only[bnd]
 obtain⟨e,e1,t,rfl,e2⟩:=y7d (b:=ybm s (za s 6).2) (ItmI (n+2)) (fun e=>∃ t,e=.inr t/\ItmI (n+2) t) (fun s=>s.1.toNat) (fun u hu=>by
  obtain⟨k,src,l⟩:=u;obtain⟨ha,hb,hq,hl,ho⟩:=hu;simp only at ha hb hq hl ho;unfold ybm;simp only[bnd];by_cases hc:0<k
  ·rw[decide_eq_true hc,cond_true]
   left
   have hw:IntKind.wrap .i64 (k-1)=k-1:=by rw[IntKind.wrap_i64];omega
   rw[hw];have s1:=hq.text (l:=[[97],[98],[99,104,97,114,116],[108,105,115,116],[110,48,48,49,50],[122,57]]) (by omega);have s2:=s1.text (l:=[[],[120],[97,32,98],[108,105,110,101,10,108,105,110,101],[97,114,99,104,105,118,101,32,51,10],[49,50,47,114,111,99,107]]) (by omega);have s3:=s2.one (m:=4) (by omega);have s4:=s3.word (by omega)
   cases(zh _ 4).1 with
   | true=>
    rw[cond_true]
    exact⟨_,rfl,⟨by show 0<=k-1;omega,by show k-1<=5;omega,s4.mono (by show _<=n+2+50 * (5-(k-1));omega),by
     show((zgc l _).length:Int)<=5-(k-1)
     refine Int.le_trans (Int.ofNat_le.2 (y8i l _).1) (by omega),putI ho (itb2 _ _ s3 (by omega))⟩,by show(k-1).toNat<k.toNat;omega⟩
   | false=>
    rw[cond_false]
    exact⟨_,rfl,⟨by show 0<=k-1;omega,by show k-1<=5;omega,s3.mono (by show _<=n+2+50 * (5-(k-1));omega),by
     show((zgc l _).length:Int)<=5-(k-1)
     refine Int.le_trans (Int.ofNat_le.2 (y8i l _).1) (by omega),putI ho (itb1 _ _)⟩,by show(k-1).toNat<k.toNat;omega⟩
  ·rw[decide_eq_false hc,cond_false]
   exact .inr ⟨_,rfl,_,rfl,ha,hb,hq,hl,ho⟩) (((za s 6).1).toNat+1) ((za s 6).1,(za s 6).2,([]:List Item)) ⟨hr.1,by show(za s 6).1<=5;omega,q2.mono (by show _<=n+2+50 * (5-(za s 6).1);omega),by show((0:Nat):Int)<=5-(za s 6).1;omega,by simp⟩ (by show((za s 6).1).toNat<_;omega)
 rw[e1];have h1:=e2.a;have h2:=e2.n;have h3:=e2.q;dsimp only;exact⟨h3.mono (by omega),by omega,e2.o⟩
theorem SrcOk.items {n:Int} {s:l00Src} (h:SrcOk n s) (hn:n<=600000):SrcOk (n+300) (zrb s).2:=(ysj h hn).1
def ygp (a0:l00Src) (q2:l00Src) (q4:l00Src) (q8:l00Src) (i1:Nat) (s1:List Item):Except ((List Item)×l00Src) (List Item):=
 .ok (s1++[{ Key:=[107]++(([IntKind.wrap .u8 (IntKind.wrap .i64 (97+(IntKind.wrap .i64 ((i1:Int).tdiv 10)))),IntKind.wrap .u8 (IntKind.wrap .i64 (48+((i1:Int).tmod 10)))]:List Int).map fun z=>UInt8.ofNat z.toNat),Text:=[]:Item }])
def zoc (a0:l00Src):(List Item)×l00Src:=
 (bnd ((zrb a0).2) fun q2=>(bnd ((za q2 16).2) fun q4=>(bif (((za q2 16).1) == 0)then(bnd ((zr q4 [[65],[],[97],[122,122]]).2) fun q6=>(((zrb a0).1)++[{ Key:=((zr q4 [[65],[],[97],[122,122]]).1),Text:=[]:Item }],q6))else(bif (((za q2 16).1) == 1)then(bnd ((zb q4 ([40,41]:List Int)).2) fun q8=>(match yf (ygp a0 q2 q4 q8) ((((zb q4 ([40,41]:List Int)).1)).toNat-0) 0 ([]:List Item)with|.error e=>e|.ok s1=>(s1,q8)))else(bif (((za q2 16).1) == 2)then(bif decide (0<(((zrb a0).1).length:Int))then(bnd ((zb q4 ([400,401]:List Int)).2) fun q10=>(((zrb a0).1).set 0 ({ Key:=(((zrb a0).1).getD 0 default).Key,Text:=((List.replicate ((((zb q4 ([400,401]:List Int)).1)).toNat) (default:Int)).map fun z=>UInt8.ofNat z.toNat):Item }),q10))else(((zrb a0).1),q4))else(((zrb a0).1),q4))))))
namespace N19
theorem DD:DOk Tryz.prog (Go.Ab.DD [(41,dM [true] D_zrb),(42,dM [true,false] D_za),(43,dM [true,true] D_zr),(44,dM [true,true] D_zb)]):=ya y2z.e <| ya yuc.e <| ya ylh.e <| ya y7h.e <| yd _
theorem dn:type_of% (And.intro @D_zrb.eq_1 <| And.intro @D_za.eq_1 <| And.intro @D_zr.eq_1 <| @D_zb.eq_1):=by and_intros<;>intros<;>rfl
theorem o1 {p:Prop} (h:p:=by(first|(have h1:=hA1 q4;have h2:=hA2 q4;have h3:=hA3 q4;omega)|(have h1:=hA1 q4;have h9:=hW1;omega)|(refine SrcOk.mono (by repeat' first|assumption|exact SrcOk.next ‹_› | apply SrcOk.next|apply SrcOk.pick|apply SrcOk.one|apply SrcOk.among|apply SrcOk.text|apply SrcOk.colors|apply SrcOk.point|apply SrcOk.chr|apply SrcOk.sectors|apply SrcOk.aid|apply SrcOk.aids|apply SrcOk.notice|omega) (by omega))|(exact(yg _ (by assumption) (by omega)).1)|(exact(yg _ (by assumption) (by omega)).2 (by omega))|(rename_i h9;simp only[beq_eq_false_iff_ne,ne_eq]at h9;exact(yg _ (by assumption) (by omega)).2 (by omega))|(rename_i h9;replace h9:=of_decide_eq_true h9;exact(yg _ (by assumption) (by omega)).2 (by omega)));first|done|fail):p:=h
theorem o2 {p:Prop} (h:p:=by(first|((repeat' first|with_reducible apply And.intro|with_reducible apply Or.inr)<;>first|trivial|omega|(simp only[List.length_append,List.length_singleton];(first|done|fail))|(rw[IntKind.wrap_i64];omega)|(have h1:=hA1 q4;rw[IntKind.wrap_i64];omega)|(intro j hj;by_cases hji:j<s1.length;(focus(simp only[yjd hji,yeh hji,cond_true,Bool.true_or];first|(first|done|fail)|with_reducible rfl|exact yt _|(simp[NoOwnL,NoOwn];(first|done|fail))));(have e0:j-s1.length=0:=by omega);(simp only[ytd hji hj,y8g hji,cond_false,e0,elt,borrowL,borrow,Bool.false_or];first|(first|done|fail)|with_reducible rfl|exact yt _|(simp[NoOwnL,NoOwn,pureL,pureV];(first|done|fail))))|decide));first|done|fail):p:=h
theorem o3 {p:Prop} (h:p:=by(first|((repeat' first|with_reducible apply And.intro|with_reducible apply Or.inr)<;>first|trivial|omega|(simp only[List.length_append,List.length_singleton];(first|done|fail))|(rw[IntKind.wrap_i64];omega)|(intro j hj;by_cases hji:j<((zrb a0).1).length;(focus(simp only[yjd hji,yeh hji,cond_true,Bool.true_or];first|(first|done|fail)|with_reducible rfl|exact yt _|(simp[NoOwnL,NoOwn];(first|done|fail))));(have e0:j-((zrb a0).1).length=0:=by omega);(simp only[ytd hji hj,y8g hji,cond_false,e0,elt,borrowL,borrow,Bool.false_or];first|(first|done|fail)|with_reducible rfl|exact yt _|(simp[NoOwnL,NoOwn,pureL,pureV];(first|done|fail))))|decide)|((repeat' first|with_reducible apply And.intro|with_reducible apply Or.inr)<;>first|trivial|omega|(simp only[List.length_set];(first|done|fail))|(simp only[List.length_set];omega)|(intro j hj;by_cases hji:j=0;(focus(subst hji;(try rw[ygz _ _ _ hj]);simp only[beq_self_eq_true,cond_true];first|(first|done|fail)|exact yt _|(rw[yy5];exact yt _)|(simp[NoOwnL,NoOwn,pureL,pureV,putL];(first|done|fail))));(simp only[y8x _ _ _ _ hji,beq_eq_false_iff_ne.2 hji,cond_false,Bool.false_or];first|(first|done|fail)|exact yt _|(simp[NoOwnL,NoOwn,pureL,pureV];(first|done|fail))))|decide));first|done|fail):p:=h
theorem lx {p:Prop} (h:p:=by(exact lxx);first|done|fail):p:=h
set_option maxHeartbeats 1000000 in
set_option maxRecDepth 20000 in
theorem den (a0:l00Src) (hp0:SrcOk 500000 a0):DenM Tryz.prog 19 [.op (ym a0)] (ownL 38 2 yr ((zoc a0).1)) [(.op (ym ((zoc a0).2)))]:=by
 generalize hR:zoc a0=r;unfold zoc at hR;refine dj (gb:=[true]) Tryz.func19 Tryz.ntmps19 Tryz.results19 ?_;intro c hL hc hk;obtain⟨hL0,_⟩:=hL;have hw0:bwl00Src a0:=y7 a0 hL0;clear hL0;simp only[adEL,adE,adRL,adR,ownL,encL,sv,List.nil_append,List.append_nil,List.cons_append,List.length_cons,List.length_nil,pars,Nat.zero_add,Nat.reduceAdd]at hk ⊢;obtain⟨hI1,hI2,hI3⟩:=ysj hp0 (by omega);have hA1:=fun s=>yaj s ([40,41]:List Int) 41 (by omega) (by decide)
 have hA2:=fun s=>yaj s ([400,401]:List Int) 401 (by omega) (by decide)
 have hA3:=fun s=>ym3 s ([400,401]:List Int) (by decide)
 iterate 2 refine rS ?_
 generalize hq2:(zrb a0).2=q2 at hR ⊢;replace hR:=bn hR;have hS_q2:SrcOk (500300) q2:=by rw[<- hq2];exact SrcOk.items hp0 (by omega)
 refine rS ?_;generalize hq4:(za q2 16).2=q4 at hR ⊢;replace hR:=bn hR;have hS_q4:SrcOk (500302) q4:=by rw[<- hq4];exact SrcOk.pick hS_q2 (by omega)
 refine rS ?_;refine AWP.cond rfl (fun hb => ?_) (fun hb => ?_)
 ·replace hR:=ct hR
  refine rS ?_;generalize hq6:(zr q4 [[65],[],[97],[122,122]]).2=q6 at hR ⊢;replace hR:=bn hR;have hS_q6:SrcOk (500304) q6:=by rw[<- hq6];exact SrcOk.text hS_q4 (by omega)
  refine rS ?_;refine AWP.ret ?_;subst hR;exact es
 ·replace hR:=cf hR
  refine rS ?_;refine AWP.cond rfl (fun hb => ?_) (fun hb => ?_)
  ·replace hR:=ct hR
   refine rS ?_;generalize hq8:(zb q4 ([40,41]:List Int)).2=q8 at hR ⊢;replace hR:=bn hR;have hS_q8:SrcOk (500304) q8:=by rw[<- hq8];exact SrcOk.among hS_q4 (by omega)
   iterate 2 refine rS ?_
   refine AWP.block ?_;generalize hz1:yf (ygp a0 q2 q4 q8) ((((zb q4 ([40,41]:List Int)).1)).toNat-0) 0 ([]:List Item)=z1 at hR;refine AWP.range (ygp a0 q2 q4 q8) (fun i1 s1=>⟨[(3,.ref 1 2 0 s1.length),(4,.int .i64 ((zb q4 ([40,41]:List Int)).1)),(5,.int .i64 (i1:Int))],[.box [encL 1 eIu8 q8.code,.int .i64 q8.at_,.int .u64 q8.seed],.arr 38 2 s1.length (fun j=>yr (s1.getD j default))]⟩) (fun i1 s1=>s1.length<=([]:List Item).length+1 * i1/\s1.length<=i1) ((((zb q4 ([40,41]:List Int)).1)).toNat) 0 ([]:List Item) [0,3] hz1 ot wt sm ?_;clear hz1;intro i1 s1 hi1 hW1 hz1;refine rS ?_;refine AWP.cond rfl (fun hb => ?_) (fun hb => ?_)
   ·have hlt1:i1<(((zb q4 ([40,41]:List Int)).1)).toNat:=ot
    rw[yk hlt1]at hz1;simp only[ygp]at hz1;iterate 2 refine rS ?_
    clear hR;exact⟨_,[0,4],hlt1,wt,hz1,sm⟩
   ·obtain rfl:i1=(((zb q4 ([40,41]:List Int)).1)).toNat:=ot
    rw[yl (Nat.le_refl _)]at hz1;subst hz1;dsimp only at hR;refine AWP.exit ?_;refine yb ?_;refine rS ?_;refine AWP.ret ?_;subst hR;exact es
  ·replace hR:=cf hR
   refine rS ?_;refine AWP.cond rfl (fun hb => ?_) (fun hb => ?_)
   ·replace hR:=ct hR
    refine rS ?_;refine AWP.cond rfl (fun hb => ?_) (fun hb => ?_)
    ·replace hR:=ct hR
     refine rS ?_;generalize hq10:(zb q4 ([400,401]:List Int)).2=q10 at hR ⊢;replace hR:=bn hR;have hS_q10:SrcOk (500304) q10:=by rw[<- hq10];exact SrcOk.among hS_q4 (by omega)
     iterate 2 refine rS ?_
     refine AWP.ret ?_;subst hR;exact es
    ·replace hR:=cf hR
     refine rS ?_;refine AWP.ret ?_;subst hR;exact es
   ·replace hR:=cf hR
    refine rS ?_;refine AWP.ret ?_;subst hR;exact es
end N19
def D_zoc : List AV -> Option (AV × List AV × List Prop)
 | [x0]=>some (ownL 38 2 yr ((zoc (rdQ yn x0)).1),[(.op (ym ((zoc (rdQ yn x0)).2)))],[wQ ym yn x0,SrcOk 500000 (rdQ yn x0)])
 | _=>none
theorem yo1:OkM Tryz.prog 19 D_zoc:=by unfold D_zoc;exact dm N19.den
theorem yzh {n:Int} {s:l00Src} (h:SrcOk n s) (hn:n<=500000):SrcOk (n+310) (zoc s).2/\(zoc s).1.length<=41/\∀ v∈(zoc s).1,bdItem v:=by
 obtain⟨s1,n1,b1⟩:=ysj h (by omega);have s2:=s1.pick (m:=16) (by omega);unfold zoc;simp only[bnd];generalize hS:(zrb s).2=q2 at s1 s2 ⊢;generalize (zrb s).1=l at n1 b1 ⊢
 cases((za q2 16).1 == 0)with
 | true=>
  rw[cond_true];refine⟨(s2.text (by omega)).mono (by omega),by simp only[List.length_append,List.length_singleton];omega,fun v hv=>(List.mem_append.1 hv).elim (b1 v) (fun h => ?_)⟩;rw[List.mem_singleton]at h;subst h;exact⟨Nat.lt_of_le_of_lt (yqh (B:=2) _ _ (by decide)) (by decide),by show(0:Nat)<_;decide⟩
 | false=>
  rw[cond_false]
  cases((za q2 16).1 == 1)with
  | true=>
   rw[cond_true];have hA:=yaj (za q2 16).2 ([40,41]:List Int) 41 (by omega) (by decide);have s3:=s2.among (l:=([40,41]:List Int)) (by omega);generalize (zb (za q2 16).2 ([40,41]:List Int)).1=m at hA ⊢;generalize (zb (za q2 16).2 ([40,41]:List Int)).2=q8 at s3 ⊢
   obtain⟨t,q1,q3⟩:=yy (b:=ygp s q2 (za q2 16).2 q8) (fun i s=>s.length<=i/\∀ v∈s,bdItem v) (k:=m.toNat-0) (i:=0) (s:=([]:List Item)) ⟨by simp,by simp⟩ (fun j u _ hj hu=>by
    refine⟨_,rfl,by simp only[List.length_append,List.length_singleton];omega,fun v hv=>(List.mem_append.1 hv).elim (hu.2 v) (fun h => ?_)⟩;rw[List.mem_singleton]at h;subst h
    exact⟨by show List.length (_++List.map _ _)<_;simp,by show(0:Nat)<_;decide⟩)
   rw[q1];simp only;exact⟨s3.mono (by omega),by omega,q3.2⟩
  | false=>
   rw[cond_false]
   cases((za q2 16).1 == 2)with
   | false=>exact⟨s2.mono (by omega),by simp only[cond_false];omega,by simp only[cond_false];exact b1⟩
   | true=>
    rw[cond_true];by_cases hc:(0:Int)<(l.length:Int)
    ·rw[decide_eq_true hc,cond_true]
     have hA:=yaj (za q2 16).2 ([400,401]:List Int) 401 (by omega) (by decide);have s3:=s2.among (l:=([400,401]:List Int)) (by omega);refine⟨s3.mono (by omega),by simp only[List.length_set];omega,fun v hv => ?_⟩;rcases List.mem_or_eq_of_mem_set hv with h|h
     ·exact b1 v h
     ·subst h
      refine⟨?_,by show List.length (List.map _ _)<_;simp only[List.length_map,List.length_replicate];omega⟩;show(l.getD 0 default).Key.length<_;rw[List.getD_eq_getElem?_getD,List.getElem?_eq_getElem (by omega)];exact(b1 _ (List.getElem_mem (by omega))).1
    ·rw[decide_eq_false hc,cond_false]
     exact⟨s2.mono (by omega),by show l.length<=41;omega,b1⟩
theorem SrcOk.itemsD {n:Int} {s:l00Src} (h:SrcOk n s) (hn:n<=500000):SrcOk (n+310) (zoc s).2:=(yzh h hn).1
def zsd (a0:(List Int)):l00Src:=
 { code:=a0,at_:=0,seed:=0:l00Src }
namespace N18
theorem DD:DOk Tryz.prog (Go.Ab.DD []):=yd _
theorem den (a0:(List Int))  : Den Tryz.prog 18 [encL 1 eIu8 a0] (.op (ym (zsd a0))):=by
 generalize hR:zsd a0=r;unfold zsd at hR;refine di Tryz.func18 Tryz.ntmps18 Tryz.results18 ?_;intro c hL hc hk;obtain⟨hL0,_⟩:=hL;have hw0:a0.length<9223372036854775808:=Nat.lt_succ_of_le (yc hL0).1;clear hL0;simp only[pars,Nat.zero_add];iterate 2 refine rS ?_
 refine AWP.ret ?_;subst hR;exact es
end N18
def D_zsd : DF
 | [x0]=>some (.op (ym (zsd (rdL dIu8 x0))),false,[wL 1 eIu8 dIu8 x0])
 | _=>none
theorem yyu:OkD Tryz.prog 18 D_zsd:=by unfold D_zsd;exact dk N18.den
def zk (a0:(List Int)):((List Item)×(List Item)):=
 (bnd ((zoc (zsd a0)).2) fun q2=>(bnd ((zoc q2).2) fun q4=>(((zoc (zsd a0)).1),((zoc q2).1))))
namespace N5
theorem DD:DOk Tryz.prog (Go.Ab.DD [(18,dP D_zsd),(19,dM [true] D_zoc)]):=ya yyu.e <| ya yo1.e <| yd _
theorem dn:type_of% (And.intro @D_zsd.eq_1 <| @D_zoc.eq_1):=by and_intros<;>intros<;>rfl
theorem o1 {p:Prop} (h:p:=by(first|(with_reducible exact SrcOk.mono hS0 (by omega))|(with_reducible exact SrcOk.mono hS_q2 (by omega)));first|done|fail):p:=h
set_option maxHeartbeats 1000000 in
set_option maxRecDepth 20000 in
theorem den (a0:(List Int)) (hp0:∀ v∈a0,0<=v/\v<=255):Den Tryz.prog 5 [encL 1 eIu8 a0] (.tup [ownL 38 2 yr ((zk a0).1),ownL 38 2 yr ((zk a0).2)]):=by
 generalize hR:zk a0=r;unfold zk at hR;refine di Tryz.func5 Tryz.ntmps5 Tryz.results5 ?_;intro c hL hc hk;obtain⟨hL0,_⟩:=hL;have hw0:a0.length<9223372036854775808:=Nat.lt_succ_of_le (yc hL0).1;clear hL0;simp only[pars,Nat.zero_add];have hS0:SrcOk 0 (zsd a0):=⟨Int.le_refl _,by show(0:Int)<=0;omega,hp0⟩
 iterate 3 refine rS ?_
 generalize hq2:(zoc (zsd a0)).2=q2 at hR ⊢;replace hR:=bn hR;have hS_q2:SrcOk (310) q2:=by rw[<- hq2];exact SrcOk.itemsD hS0 (by omega)
 refine rS ?_;generalize hq4:(zoc q2).2=q4 at hR ⊢;replace hR:=bn hR;have hS_q4:SrcOk (620) q4:=by rw[<- hq4];exact SrcOk.itemsD hS_q2 (by omega)
 refine AWP.ret ?_;subst hR;exact es
end N5
def D_zk : DF
 | [x0]=>some (.tup [ownL 38 2 yr ((zk (rdL dIu8 x0)).1),ownL 38 2 yr ((zk (rdL dIu8 x0)).2)],false,[wL 1 eIu8 dIu8 x0,∀ v∈(rdL dIu8 x0),0<=v/\v<=255])
 | _=>none
theorem yl5:OkD Tryz.prog 5 D_zk:=by unfold D_zk;exact dk N5.den
theorem yww (code:List Int) (h:∀ v∈code,0<=v/\v<=255):((zk code).1.length<=41/\∀ v∈(zk code).1,bdItem v)/\(zk code).2.length<=41/\∀ v∈(zk code).2,bdItem v:=by
 have h0:SrcOk 0 (zsd code):=⟨Int.le_refl _,by show(0:Int)<=0;omega,h⟩
 obtain⟨s1,n1,b1⟩:=yzh h0 (by omega);obtain⟨s2,n2,b2⟩:=yzh s1 (by omega);exact⟨⟨n1,b1⟩,n2,b2⟩
end Go.Ab
