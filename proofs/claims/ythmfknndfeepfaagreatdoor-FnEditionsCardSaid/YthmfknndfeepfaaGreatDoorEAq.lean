/- Walks and lemmas. No conditions. -/
import Derived.Test.YthmfknndfeepfaaGreatDoorEAp
set_option linter.unusedSectionVars false
set_option linter.unusedVariables false
set_option linter.unusedSimpArgs false
set_option maxHeartbeats 1000000
namespace Go.Ab
open Go Go.Proofs
theorem y73 (P:Aid->Prop) (l:List Aid) (n:Correction) (hl:l.length<9223372036854775807) (hv:∀ v∈l,P v) (ha:P n.Aid):(∀ v∈(zud n l).1,P v)/\(zud n l).1.length<=25:=by
 unfold zud
 cases(n.Kind == 2)with
 | true=>exact yo5 P l _ hl hv ha
 | false=>
  simp only[cond_false]
  cases(n.Kind == 3)with
  | true=>exact yu0 P l n.Aid hv ha
  | false=>
   simp only[cond_false]
   cases((zzd l n.Aid).1 && (!((zzd l n.Aid).2)))with
   | true=>exact⟨fun v hv=>by simp at hv,by simp⟩
   | false=>exact yw1 P l n.Aid.Number hl hv
def yio (a0:(List Aid)) (a1:(List Correction)) (i1:Nat) (s1:Unit):Except (((List Aid)×Int)) (Unit):=
 (bif (!(znh (a1.getD i1 default)))then .error ([],1)else .ok ())
def yfs (a0:(List Aid)) (a1:(List Correction)) (s1:Unit) (i2:Nat) (s2:List Aid):Except (((List Aid)×Int)) (List Aid):=
 (bif (((zud (a1.getD i2 default) s2).2) != 0)then .error ([],(zud (a1.getD i2 default) s2).2)else .ok ((zud (a1.getD i2 default) s2).1))
def zwc (a0:(List Aid)) (a1:(List Correction)):((List Aid)×Int):=
 (bif (!(zgb a0))then([],1)else(match ye (yio a0 a1) (a1.length-0) 0 ()with|.error e=>e|.ok s1=>(match ye (yfs a0 a1 s1) (a1.length-0) 0 (zbc a0)with|.error e=>e|.ok s2=>(s2,0))))
namespace N8
theorem DD:DOk Tryz.prog (Go.Ab.DD [(20,dP D_zgb),(23,dP D_znh),(24,dP D_zbc),(25,dP D_zud)]):=ya y7g.e <| ya yu9.e <| ya ygl.e <| ya yx5.e <| yc _
abbrev dn:=cj @D_zgb.eq_1 <| cj @D_znh.eq_1 <| cj @D_zbc.eq_1 <| @D_zud.eq_1
abbrev ol:=@ylb
theorem gr {p:Prop} (h:p:=by(grind [ykc]);first|done|fail):p:=h
theorem o1 {p:Prop} (h:p:=by(first|(have h9:=hvl (by assumption);omega));first|done|fail):p:=h
theorem den (a0:(List Aid)) (a1:(List Correction)) (hb0:a0.length<1099511627776) (hb1:∀ v∈a0,bdAid v) (hb2:a1.length<1099511627776) (hb3:∀ v∈a1,bdCorrection v) (hp0:a1.length<=1048576):Den Tryz.prog 8 [encL 16 eAid a0,encL 17 y8 a1] (.tup [ownL 56 16 ytb ((zwc a0 a1).1),.int .i64 ((zwc a0 a1).2)]):=by
 generalize hR:zwc a0 a1=r;unfold zwc at hR;refine di Tryz.func8 Tryz.ntmps8 Tryz.results8 ?_;intro c hL hc hk;obtain⟨hL0,hL1,_⟩:=hL;have hw0:=lwA hL0;have hw1:∀ v∈a0,bwAid v:=fun v hv=>yr v ((yj hL0).2 v hv)
 have hw2:=lwA hL1;have hw3:∀ v∈a1,bwCorrection v:=fun v hv=>ymc v ((yj hL1).2 v hv)
 clear hL0 hL1;simp only[pars,Nat.zero_add];have hvl:(!zgb a0)=false->a0.length<=24:=fun h=>ykc (by simpa using h)
 iterate 2 refine rS ?_
 refine yb ?_ ?_<;>intro hb
 ·replace hR:=ct hR
  exact retR
 ·replace hR:=cf hR
  refine rS ?_;refine AWP.block ?_;generalize hz1:ye (yio a0 a1) (a1.length-0) 0 ()=z1 at hR;refine AWP.range (yio a0 a1) (fun i1 s1=>⟨[(0,encL 16 eAid a0),(1,encL 17 y8 a1),(16,encL 17 y8 a1),(17,.int .i64 (a1.length:Int)),(18,.int .i64 (i1:Int))],[]⟩) (fun i1 s1=>True) (a1.length) 0 () [] hz1 ot wt sm ?_;clear hz1;intro i1 s1 hi1 hW1 hz1;refine rS ?_;refine AWP.seq ?_;refine yb ?_ ?_<;>intro hb
  ·have hlt1:i1<a1.length:=ot
   rw[yi hlt1]at hz1;simp only[yio]at hz1;iterate 2 refine rS ?_
   refine yb ?_ ?_<;>intro hb
   ·simp only[hb,cond_true]at hz1
    refine rS ?_;refine AWP.ret ?_;subst hz1;dsimp only at hR;subst hR;exact es
   ·simp only[hb,cond_false]at hz1
    refine rS ?_;exact⟨_,[],hlt1,wt,hz1,sm⟩
  ·obtain rfl:i1=a1.length:=ot
   rw[ybb (Nat.le_refl _)]at hz1;subst hz1;dsimp only at hR;refine AWP.exit ?_;refine yf ?_;iterate 2 refine rS ?_
   refine AWP.block ?_;generalize hz2:ye (yfs a0 a1 s1) (a1.length-0) 0 (zbc a0)=z2 at hR;refine AWP.range (yfs a0 a1 s1) (fun i2 s2=>⟨[(8,.ref 0 16 0 s2.length),(28,encL 17 y8 a1),(29,.int .i64 (a1.length:Int)),(30,.int .i64 (i2:Int))],[.arr 56 16 s2.length (fun j=>ytb (s2.getD j default))]⟩) (fun i2 s2=>(∀ v∈s2,bdAid v)/\s2.length<=1048576) (a1.length) 0 (zbc a0) [0] hz2 ot (by(simp only[ylb];exact⟨by assumption,by have h9:=hvl (by assumption);omega⟩)) sm ?_;clear hz2;intro i2 s2 hi2 hW2 hz2;have hV2:=hW2;obtain⟨hV2_0,hV2_1⟩:=hV2;refine rS ?_;refine AWP.seq ?_;refine yb ?_ ?_<;>intro hb
   ·have hlt2:i2<a1.length:=ot
    rw[yi hlt2]at hz2;simp only[yfs]at hz2;iterate 3 refine rS ?_
    refine yb ?_ ?_<;>intro hb
    ·simp only[hb,cond_true]at hz2
     refine rS ?_;refine AWP.ret ?_;subst hz2;dsimp only at hR;subst hR;exact es
    ·simp only[hb,cond_false]at hz2
     iterate 2 refine rS ?_
     exact⟨_,[2],hlt2,by(have h9:=y73 bdAid s2 (a1.getD i2 default) (by have h1:=hW2.2;omega) hW2.1 (ytf (p:=bdCorrection) (by assumption) (by decide) i2);exact⟨h9.1,by have h1:=hW2.2;have h2:=h9.2;omega⟩),hz2,sm⟩
   ·obtain rfl:i2=a1.length:=ot
    rw[ybb (Nat.le_refl _)]at hz2;subst hz2;dsimp only at hR;refine AWP.exit ?_;refine yf ?_;exact retR
end N8
def D_zwc : DF
 | [x0,x1]=>some (.tup [ownL 56 16 ytb ((zwc (rdL dAid x0) (rdL ym x1)).1),.int .i64 ((zwc (rdL dAid x0) (rdL ym x1)).2)],false,[wL 16 eAid dAid x0,wL 17 y8 ym x1,(rdL dAid x0).length<1099511627776,∀ v∈(rdL dAid x0),bdAid v,(rdL ym x1).length<1099511627776,∀ v∈(rdL ym x1),bdCorrection v,(rdL ym x1).length<=1048576])
 | _=>none
theorem yx7:OkD Tryz.prog 8 D_zwc:=by unfold D_zwc;exact dk N8.den
theorem yqm (l:List Aid) (a:Aid) (hl:l.length<9223372036854775808):zzd l a=(hasN l a.Number,hasN l a.Number && zrc (l.getD (upto l a.Number) default) a):=by
 unfold zzd;rw[ycj l _ hl,ymj];simp only[Int.toNat_natCast]
def zvb (a0:(List Int)) (a1:Int) (a2:Int):Int:=
 (bif (decide (a2<=1) || decide ((a0.length:Int)<=a1))then 0 else(IntKind.wrap .i64 (a0.getD ((a1).toNat) default)).tmod a2)
namespace N11
theorem DD:DOk Tryz.prog (Go.Ab.DD []):=yc _
theorem den (a0:(List Int)) (a1:Int) (a2:Int) (hp0:0<=a1):Den Tryz.prog 11 [encL 1 eIu8 a0,.int .i64 a1,.int .i64 a2] (.int .i64 (zvb a0 a1 a2)):=by
 generalize hR:zvb a0 a1 a2=r;unfold zvb at hR;refine di Tryz.func11 Tryz.ntmps11 Tryz.results11 ?_;intro c hL hc hk;obtain⟨hL0,hL1,hL2,_⟩:=hL;have hw0:=lwA hL0;clear hL0 hL1 hL2;simp only[pars,Nat.zero_add];iterate 2 refine rS ?_
 refine yb ?_ ?_<;>intro hb
 ·replace hR:=ct hR
  exact retR
 ·replace hR:=cf hR
  exact retR
end N11
def D_zvb : DF
 | [x0,x1,x2]=>some (.int .i64 (zvb (rdL dIu8 x0) (rdI x1) (rdI x2)),false,[wL 1 eIu8 dIu8 x0,wI .i64 x1,wI .i64 x2,0<=(rdI x1)])
 | _=>none
theorem y0w:OkD Tryz.prog 11 D_zvb:=by unfold D_zvb;exact dk N11.den
def zdd (a0:(List Int)) (a1:Int) (a2:Int):Int:=
 (IntKind.wrap .i64 ((IntKind.wrap .i64 (256 * (zvb a0 a1 256)))+(zvb a0 (IntKind.wrap .i64 (a1+1)) 256))).tmod a2
namespace N12
theorem DD:DOk Tryz.prog (Go.Ab.DD [(11,dP D_zvb)]):=ya y0w.e <| yc _
abbrev dn:=@D_zvb.eq_1
theorem o1 {p:Prop} (h:p:=by(first|(rw[IntKind.wrap_i64];omega));first|done|fail):p:=h
theorem den (a0:(List Int)) (a1:Int) (a2:Int) (hp0:0<=a1) (hp1:a1<1000000) (hp2:1<=a2):Den Tryz.prog 12 [encL 1 eIu8 a0,.int .i64 a1,.int .i64 a2] (.int .i64 (zdd a0 a1 a2)):=by
 generalize hR:zdd a0 a1 a2=r;unfold zdd at hR;refine di Tryz.func12 Tryz.ntmps12 Tryz.results12 ?_;intro c hL hc hk;obtain⟨hL0,hL1,hL2,_⟩:=hL;have hw0:=lwA hL0;clear hL0 hL1 hL2;simp only[pars,Nat.zero_add];refine rS ?_;exact retR
end N12
def D_zdd : DF
 | [x0,x1,x2]=>some (.int .i64 (zdd (rdL dIu8 x0) (rdI x1) (rdI x2)),false,[wL 1 eIu8 dIu8 x0,wI .i64 x1,wI .i64 x2,0<=(rdI x1),(rdI x1)<1000000,1<=(rdI x2)])
 | _=>none
theorem yg9:OkD Tryz.prog 12 D_zdd:=by unfold D_zdd;exact dk N12.den
theorem ygj (a:List Int) (h:∀ v∈a,0<=v/\v<=255) (i n:Int) (h0:0<=i) (hn:1<=n):0<=zvb a i n/\zvb a i n<n:=by
 unfold zvb
 cases hb:(decide (n<=1) || decide ((a.length:Int)<=i))with
 | true=>simp only[cond_true];omega
 | false=>
  simp only[cond_false]
  have hx:0<=a.getD i.toNat default/\a.getD i.toNat default<=255:=by
   rw[List.getD_eq_getElem?_getD]
   cases hg:a[i.toNat]? with
   | none=>exact⟨Int.le_refl _,by decide⟩
   | some x=>exact h x (List.mem_of_getElem? hg)
  have hw:IntKind.wrap .i64 (a.getD i.toNat default)=a.getD i.toNat default:=by rw[IntKind.wrap_i64];omega
  rw[hw];exact⟨Int.tmod_nonneg _ hx.1,Int.tmod_lt_of_pos _ (by omega)⟩
theorem yqh (a:List Int) (h:∀ v∈a,0<=v/\v<=255) (k n:Int) (h0:0<=k) (h1:k<=1000000) (hn:1<=n):0<=zdd a k n/\zdd a k n<n:=by
 have h1:=ygj a h k 256 (by omega) (by omega);have h2:=ygj a h (IntKind.wrap .i64 (k+1)) 256 (by rw[IntKind.wrap_i64];omega) (by omega);unfold zdd
 have hw:IntKind.wrap .i64 ((IntKind.wrap .i64 (256 * (zvb a k 256)))+(zvb a (IntKind.wrap .i64 (k+1)) 256))=256 * (zvb a k 256)+(zvb a (IntKind.wrap .i64 (k+1)) 256):=by
  rw[IntKind.wrap_i64,IntKind.wrap_i64 (256 * _)];omega
 rw[hw];exact⟨Int.tmod_nonneg _ (by omega),Int.tmod_lt_of_pos _ (by omega)⟩
def InR (s:List Int):Prop:=∀ v∈s,0<=v/\v<=100
theorem InR.app {s t:List Int} (h1:InR s) (h2:InR t):InR (s++t):=fun v hv=>(List.mem_append.1 hv).elim (h1 v) (h2 v)
theorem InR.one {x:Int} (h1:0<=x) (h2:x<=100):InR [x]:=fun v hv=>by rw[List.mem_singleton]at hv;subst hv;exact⟨h1,h2⟩
theorem InR.nil:InR []:=fun v hv=>by simp at hv
theorem ys2 (k:Int):0<=zif k/\zif k<=100:=by
 unfold zif;simp only[Bool.cond_eq_ite];repeat' split
 all_goals omega
theorem yuu (k:Int):0<=zxc k/\zxc k<=20:=by
 unfold zxc;simp only[Bool.cond_eq_ite];repeat' split
 all_goals omega
theorem yt4 (k:Int):0<=IntKind.wrap .i64 (zxc k+20)/\IntKind.wrap .i64 (zxc k+20)<=100:=by
 have:=yuu k;rw[IntKind.wrap_i64];omega
theorem y50 (c:Character) (h1:c.Group.length<=4) (h2:∀ v∈c.Group,1<=v/\v<=9):InR (zq c)/\(zq c).length<=80:=by
 have hf:=ys2 c.Kind;have hg:=yuu c.Kind;have hw:=yt4 c.Kind;unfold zq
 cases hk:(c.Kind == 8)with
 | true=>
  simp only[cond_true];have hm:(zcc ((c.Letter.getD 0 0).toNat:Int)).length<=4:=you _
  have hmr:∀ j,0<=(zcc ((c.Letter.getD 0 0).toNat:Int)).getD j default/\(zcc ((c.Letter.getD 0 0).toNat:Int)).getD j default<=100:=by
   intro j;rw[yrh,List.getD_eq_getElem?_getD,List.getElem?_map]
   cases(y0d.getD (IntKind.wrap .u8 (((c.Letter.getD 0 0).toNat:Int)-65)).toNat default)[j]? with
   | none=>show(0:Int)<=0/\(0:Int)<=100;omega
   | some x=>simp only[Option.map_some,Option.getD_some];split<;>omega
  obtain⟨t,q1,q2,q3⟩:=ydb (b:=yms c) (fun i s=>InR s/\s.length<=2 * i) (k:=(zcc ((c.Letter.getD 0 0).toNat:Int)).length-0) (i:=0) (s:=[]) ⟨InR.nil,by simp⟩ (fun j u _ _ h=>by
   unfold yms
   cases decide (0<(j:Int))with
   | true=>exact⟨_,rfl,(h.1.app (InR.one (by omega) (by omega))).app (InR.one (hmr j).1 (hmr j).2),by simp only[List.length_append,List.length_singleton];omega⟩
   | false=>exact⟨_,rfl,h.1.app (InR.one (hmr j).1 (hmr j).2),by simp only[List.length_append,List.length_singleton];omega⟩)
  rw[q1];exact⟨q2,by simp only;omega⟩
 | false=>
  simp only[cond_false]
  have hend:∀ s:List Int,InR s->s.length<=72->InR (bif (c.Letter == [76])then s++[zxc c.Kind,20]else s)/\(bif (c.Letter == [76])then s++[zxc c.Kind,20]else s).length<=80:=by
   intro s h3 h4
   cases(c.Letter == [76])with
   | true=>exact⟨h3.app (fun v hv=>by simp only[List.mem_cons,List.not_mem_nil,or_false]at hv;rcases hv with h|h<;>subst h<;>omega),by simp only[cond_true,List.length_append,List.length_cons,List.length_nil];omega⟩
   | false=>exact⟨h3,by simp only[cond_false];omega⟩
  cases hz:((c.Group.length:Int) == 0)with
  | true=>
   simp only[cond_true]
   obtain⟨t,q1,q2,q3⟩:=ydb (b:=ybu c) (fun i s=>InR s/\s.length<=18 * i) (k:=1-0) (i:=0) (s:=[]) ⟨InR.nil,by simp⟩ (fun j u _ hj h=>by
    unfold ybu;have hj0:j=0:=by omega
    obtain⟨t,q1,q2,q3⟩:=ydb (b:=ybt c j u) (fun i s=>InR s/\s.length<=18 * j+2 * i) (k:=(([1]:List Int).getD j default).toNat-0) (i:=0) (s:=u) ⟨h.1,by omega⟩ (fun i w _ hi h=>by
     unfold ybt
     cases decide (0<(i:Int))with
     | true=>exact⟨_,rfl,(h.1.app (InR.one hg.1 (by omega))).app (InR.one hf.1 hf.2),by simp only[List.length_append,List.length_singleton];omega⟩
     | false=>
      cases decide (0<(j:Int))with
      | true=>exact⟨_,rfl,(h.1.app (InR.one hw.1 hw.2)).app (InR.one hf.1 hf.2),by simp only[List.length_append,List.length_singleton];omega⟩
      | false=>exact⟨_,rfl,h.1.app (InR.one hf.1 hf.2),by simp only[List.length_append,List.length_singleton];omega⟩)
    rw[q1];subst hj0
    exact⟨t,rfl,q2,by simp only[List.getD_cons_zero]at q3;omega⟩)
   rw[q1];exact hend t q2 (by omega)
  | false=>
   simp only[cond_false]
   obtain⟨t,q1,q2,q3⟩:=ydb (b:=yqt c) (fun i s=>InR s/\s.length<=18 * i) (k:=c.Group.length-0) (i:=0) (s:=[]) ⟨InR.nil,by simp⟩ (fun j u _ hj h=>by
    unfold yqt;have hgj:=yvg h2 j
    obtain⟨t,q1,q2,q3⟩:=ydb (b:=y0s c j u) (fun i s=>InR s/\s.length<=18 * j+2 * i) (k:=(c.Group.getD j default).toNat-0) (i:=0) (s:=u) ⟨h.1,by omega⟩ (fun i w _ hi h=>by
     unfold y0s
     cases decide (0<(i:Int))with
     | true=>exact⟨_,rfl,(h.1.app (InR.one hg.1 (by omega))).app (InR.one hf.1 hf.2),by simp only[List.length_append,List.length_singleton];omega⟩
     | false=>
      cases decide (0<(j:Int))with
      | true=>exact⟨_,rfl,(h.1.app (InR.one hw.1 hw.2)).app (InR.one hf.1 hf.2),by simp only[List.length_append,List.length_singleton];omega⟩
      | false=>exact⟨_,rfl,h.1.app (InR.one hf.1 hf.2),by simp only[List.length_append,List.length_singleton];omega⟩)
    rw[q1]
    exact⟨t,rfl,q2,by omega⟩)
   rw[q1];exact hend t q2 (by omega)
theorem yy6 (l:List Int) (h:InR l) (hl:l.length<=80):0<=zue l/\zue l<=8000:=by
 unfold zue
 obtain⟨t,q1,q2,q3⟩:=ydb (b:=yju l) (fun i s=>0<=s/\s<=100 * i) (k:=l.length-0) (i:=0) (s:=0) ⟨by omega,by omega⟩ (fun j u _ hj hI=>by
  have hx:0<=l.getD j default/\l.getD j default<=100:=by
   rw[List.getD_eq_getElem?_getD,List.getElem?_eq_getElem (by omega),Option.getD_some];exact h _ (List.getElem_mem _)
  refine⟨_,rfl,?_⟩
  rw[IntKind.wrap_i64];omega)
 rw[q1];exact⟨q2,by simp only;omega⟩
theorem yb3 (c:Character) (h:znb c=true) (hs:zxd c=false):0<zqb c:=by
 obtain⟨g1,g2⟩:=yff c h;obtain⟨t1,t2⟩:=y50 c g1 g2;have t3:=yy6 _ t1 t2;have hg:=yuu c.Kind;unfold zqb;rw[<- yem,hs];simp only[cond_false]
 cases(c.Kind == 3)with
 | true=>simp
 | false=>
  simp only[cond_false]
  have hr:0<ztg c/\ztg c<=100:=by
   unfold ztg;simp only[Bool.cond_eq_ite];repeat' split
   all_goals (try rw[IntKind.wrap_i64]);(try rw[IntKind.wrap_i64]);omega
  rw[IntKind.wrap_i64];omega
theorem ywc (a:Character) (h:zfb a=true):znb a=true:=by
 unfold zfb at h
 cases hf:znb a with
 | true=>rfl
 | false=>rw[hf]at h;simp at h
theorem y06 (a:Character) (h:zfb a=true):a.Period<=600:=by
 unfold zfb at h
 cases h1:((!(zoc a.Colors)) || (!(znb a)))with
 | true=>rw[h1]at h;cases h
 | false=>
  rw[h1]at h
  cases h2:zxd a with
  | true=>rw[h2]at h;simp at h;omega
  | false=>rw[h2]at h;simp[ze]at h;omega
theorem ywd (a:Character) (h:zfb a=true):a.Group.length<=4/\(∀ v∈a.Group,1<=v/\v<=9)/\a.Period<=600:=by
 have h1:=yff a (ywc a h);exact⟨h1.1,h1.2,y06 a h⟩
theorem yyt (a:Character) (h1:a.Group.length<=4) (h2:∀ v∈a.Group,1<=v/\v<=9):(zfe a).length<=200+a.Letter.length:=by
 unfold zfe;have hk:=yzw a.Kind
 obtain⟨t,q1,q2,q3⟩:=ydb (b:=yzo a) (fun i s=>s.length=i/\∀ v∈s,v.length<=20) (k:=a.Group.length-0) (i:=0) (s:=[]) ⟨rfl,by simp⟩ (fun j u _ _ h=>⟨_,rfl,by simp[h.1],fun v hv=>by
  rcases List.mem_append.1 hv with h9|h9
  ·exact h.2 v h9
  ·rw[List.mem_singleton]at h9;subst h9
   have:=yvg h2 j
   exact yfd _ (by omega) (by omega)⟩)
 rw[q1];have hj:=(ypn t q3).1;simp only[Bool.cond_eq_ite];repeat' split
 all_goals ((try simp only[List.length_append,List.length_cons,List.length_nil]);omega)
theorem yeu (a:Character) (h:zfb a=true):(zxd a=true/\a.Period=0)\/(zxd a=false/\0<a.Period/\a.Period<=600):=by
 have hf:=ywc a h;unfold zfb at h
 cases h1:((!(zoc a.Colors)) || (!(znb a)))with
 | true=>rw[h1]at h;cases h
 | false=>
  rw[h1]at h
  cases h2:zxd a with
  | true=>rw[h2]at h;left;simpa using h
  | false=>
   rw[h2,ynw a hf h2]at h;have:=yb3 a hf h2;right
   simp[ze]at h
   exact⟨rfl,by omega,by omega⟩
theorem yae (a:Character) (h:zfb a=true):0<=a.Period:=by
 rcases yeu a h with⟨_,h⟩|⟨_,h,_⟩<;>omega
theorem ysf (a:Character) (h:znb a=true):1<=a.Kind/\a.Kind<=8:=by
 unfold znb at h;simp only[Bool.cond_eq_ite]at h;repeat' split at h
 all_goals (try simp only[beq_iff_eq]at *)
 all_goals first|omega|(cases h;done)
theorem ygab (a:Character) (hl:a.Colors.length<9223372036854775808) (h:zsc a=true):a.Group.length<=4/\(∀ v∈a.Group,1<=v/\v<=9)/\1<=a.Kind/\a.Kind<=8/\0<=a.Period/\a.Period<=600:=by
 rw[<- yzi a hl]at h;have h1:=ywd a h;have h2:=ysf a (ywc a h);exact⟨h1.1,h1.2.1,h2.1,h2.2,yae a h,h1.2.2⟩
theorem yjw (n:Int) (h1 : -9223372036854775808<=n) (h2:n<=9223372036854775807):(zef n).length<=41:=by
 unfold zef;have h3:=ypo (n.tdiv 10);have ht:=yfl n;have h4:=yfd (n.tmod 10) (by omega) (by omega);simp only[Bool.cond_eq_ite];split
 ·omega
 ·simp only[List.length_append,List.length_cons,List.length_nil];omega
theorem yas {p:Point} (h:zvc p=true):0<=p.X/\p.X<=200000/\0<=p.Y/\p.Y<=200000:=by
 simp[zvc,zj]at h;omega
theorem y3h {a:List Sector} (h:zv a=true):a.length<=12/\∀ i,i<a.length->zkc (a.getD i default)=true:=by
 unfold zv at h
 cases h12:decide (12<(a.length:Int))with
 | true=>rw[h12]at h;cases h
 | false=>
  rw[h12]at h;have h12:=of_decide_eq_false h12;refine⟨by omega,fun i hi => ?_⟩;rcases y5d (b:=y6v a) (secQ a) (fun _ u=>u) false (k:=a.length-0) (i:=0) (s:=()) (fun j u _ _=>by cases u;rfl)with⟨_,e1⟩|⟨hq,_⟩
  ·rw[e1]at h;cases h
  ·exact((y8q a i (by omega)).1 (hq i (Nat.zero_le _) (by omega))).1
theorem y9u {c:List UInt8} (h:zjf c=true):c=[87]\/c=[82]\/c=[71]\/c=[89]:=by
 unfold zjf at h;simp only[Bool.or_eq_true,beq_iff_eq]at h;rcases h with((h|h)|h)|h
 ·exact .inl h
 ·exact .inr (.inl h)
 ·exact .inr (.inr (.inl h))
 ·exact .inr (.inr (.inr h))
theorem y7d {a:List Sector} (h:zv a=true):a.length<=12/\∀ i,0<=(a.getD i default).From/\(a.getD i default).From<=359/\0<=(a.getD i default).To/\(a.getD i default).To<=359/\(a.getD i default).Color.length<=1:=by
 obtain⟨h1,h2⟩:=y3h h;refine⟨h1,fun i => ?_⟩;by_cases hi:i<a.length
 ·have h3:=h2 i hi
  have hb:=ytq h3;unfold zkc at h3;rw[Bool.and_eq_true]at h3;refine⟨hb.1.1,hb.1.2,hb.2.1,hb.2.2,?_⟩;rcases y9u h3.2 with h|h|h|h<;>rw[h]<;>decide
 ·rw[List.getD_eq_getElem?_getD,List.getElem?_eq_none (by omega)]
  decide
theorem y4n {m:Mark} (h:zid m=true):(m.Kind=0/\m.Colors=[]/\m.Shape=[]/\m.Topmark=[]) \/
  (zlc m.Kind=true/\m.Colors=zbe m.Kind/\(m.Topmark=[]\/m.Topmark=zke m.Kind)/\m.Shape∈zeb m.Kind):=by
 rw[show zid m=zub m from rfl]at h;unfold zub at h;by_cases hk:m.Kind=0
 ·left
  rw[show(m.Kind == 0)=true by simp[hk]]at h;simp only[cond_true,Bool.and_eq_true,beq_iff_eq]at h;exact⟨hk,h.2.1,h.2.2.1,h.2.2.2⟩
 ·right
  rw[show(m.Kind == 0)=false by simp[hk],cond_false]at h
  cases hc:(((!(zlc m.Kind)) || (m.Colors != (zbe m.Kind))) || ((m.Topmark != []) && (m.Topmark != (zke m.Kind))))with
  | true=>rw[hc]at h;cases h
  | false=>
   rw[hc,cond_false]at h;have h:=(yro m).symm.trans h;rw[List.any_eq_true]at h;simp only[Bool.or_eq_false_iff,Bool.not_eq_false',Bool.and_eq_false_iff,bne_eq_false_iff_eq]at hc;obtain⟨y,hy,he⟩:=h;exact⟨hc.1.1,hc.1.2,hc.2,by rw[<- eq_of_beq he];exact hy⟩
theorem ywg {m:Mark} (h:zid m=true):0<=m.Kind/\m.Kind<=9/\m.Colors.length<=3/\m.Shape.length<=6/\m.Topmark.length<=5:=by
 rcases y4n h with⟨h1,h2,h3,h4⟩|⟨h1,h2,h3,h4⟩
 ·rw[h1,h2,h3,h4];simp
 ·have hk:=h1
  unfold zlc zj at hk;simp only[Bool.and_eq_true,decide_eq_true_eq]at hk;refine⟨by omega,by omega,?_,?_,?_⟩
  ·rw[h2];rcases yth h1 with e|e|e|e|e|e|e|e|e<;>rw[e]<;>decide
  ·have hs:∀ y∈zeb m.Kind,y.length<=6:=by rcases yth h1 with e|e|e|e|e|e|e|e|e<;>rw[e]<;>decide
   exact hs _ h4
  ·rcases h3 with e|e
   ·rw[e];decide
   ·rw[e];rcases yth h1 with e|e|e|e|e|e|e|e|e<;>rw[e]<;>decide
theorem ymcb:zv []=true:=by decide
theorem y4c {a:Aid} (h:zw a=true):1<=a.Number/\a.Number<=9999/\zqc a.Name=true/\zvc a.At=true/\0<=a.Height/\a.Height<=3000/\zid a.Mark=true /\
  (zgc a=true->zsc a.Light=true)/\zv a.Sectors=true/\0<=a.Intensity/\a.Intensity<=100000000:=by
 unfold zw at h
 cases hc:(((((!(zj a.Number 1 9999)) || (!(zqc a.Name))) || (!(zvc a.At))) || (!(zj a.Height 0 3000))) || (!(zid a.Mark)))with
 | true=>rw[hc]at h;cases h
 | false=>
  rw[hc,cond_false]at h;simp only[Bool.or_eq_false_iff,Bool.not_eq_false']at hc;obtain⟨⟨⟨⟨c1,c2⟩,c3⟩,c4⟩,c5⟩:=hc;simp only[zj,Bool.and_eq_true,decide_eq_true_eq]at c1 c4
  have fin:(zgc a=true->zsc a.Light=true)/\zv a.Sectors=true/\0<=a.Intensity/\a.Intensity<=100000000:=by
   cases hp:zjd a.Light with
   | true=>
    rw[hp,cond_true,Bool.and_eq_true,beq_iff_eq,beq_iff_eq]at h;have hs:a.Sectors=[]:=List.length_eq_zero_iff.1 (by omega);refine⟨fun hl => ?_,by rw[hs];exact ymcb,by omega,by omega⟩;unfold zjd at hp;simp only[Bool.and_eq_true,beq_iff_eq]at hp;unfold zgc at hl;rw[bne_iff_ne]at hl;exact absurd hp.1.1.1.1 hl
   | false=>
    rw[hp,cond_false]at h
    cases hd:(((!(zsc a.Light)) || (!(zj a.Intensity 1 100000000))) || (!(zv a.Sectors)))with
    | true=>rw[hd]at h;cases h
    | false=>
     simp only[Bool.or_eq_false_iff,Bool.not_eq_false',zj,Bool.and_eq_true,decide_eq_true_eq]at hd;exact⟨fun _=>hd.1.1,hd.2,by omega,by omega⟩
  exact⟨c1.1,c1.2,c2,c3,c4.1,c4.2,c5,fin⟩
theorem yel {s:List UInt8} (h:zqc s=true):s.length<=10:=((ywh s).1 h).2.1
theorem y30 {a:Aid} (h:zw a=true) (hl:a.Light.Colors.length<9223372036854775808):zpf a=zgc a:=by
 have hr:=y4c h;have hsl:=(y7d hr.2.2.2.2.2.2.2.2.1).1;unfold zw at h
 cases hc:(((((!(zj a.Number 1 9999)) || (!(zqc a.Name))) || (!(zvc a.At))) || (!(zj a.Height 0 3000))) || (!(zid a.Mark)))with
 | true=>rw[hc]at h;cases h
 | false=>
  rw[hc,cond_false]at h
  cases hp:zjd a.Light with
  | true=>
   have h1:=y8t _ hp;unfold zpf zgc;rw[h1];unfold zjd at hp;simp only[Bool.and_eq_true,beq_iff_eq]at hp;rw[hp.1.1.1.1];rfl
  | false=>
   rw[hp,cond_false]at h
   cases hd:(((!(zsc a.Light)) || (!(zj a.Intensity 1 100000000))) || (!(zv a.Sectors)))with
   | true=>rw[hd]at h;cases h
   | false=>
    rw[hd,cond_false]at h;simp only[Bool.or_eq_false_iff,Bool.not_eq_false']at hd;have hk:=(ygab a.Light hl hd.1.1).2.2.1;unfold zpf zgc;have e4:zgh a.Intensity=zj a.Intensity 1 100000000:=rfl;rw[yzi _ hl,hd.1.1,e4,hd.1.2,y0b _ (by omega),hd.2,ymk];simp only[Bool.not_true,Bool.or_self,cond_false];rw[h];symm
    rw[bne_iff_ne];omega
theorem ybcb {p:Point} (h:(!zyd p)=false):0<=p.X/\p.X<=200000/\0<=p.Y/\p.Y<=200000:=by
 have h2:zyd p=true:=by simpa using h
 exact yas (p:=p) h2
theorem yi4 {m:Mark} (h:(!zod m)=false):0<=m.Kind/\m.Kind<=9/\m.Colors.length<=3/\m.Shape.length<=6/\m.Topmark.length<=5:=ywg (by rw[<- yre];simpa using h)
theorem ym8 {a:List Sector} (hl:a.length<1099511627776) (h:(!zjb a)=false):a.length<=12/\∀ i,0<=(a.getD i default).From/\(a.getD i default).From<=359/\0<=(a.getD i default).To/\(a.getD i default).To<=359/\(a.getD i default).Color.length<=1:=y7d (by rw[<- y0b a (by omega)];simpa using h)
theorem ypw {a:Aid} (hb:bdAid a) (h:(!zmc a)=false):zw a=true:=by
 rw[<- yqc a (Nat.lt_of_lt_of_le hb.2.2.1.2.2 (by decide)) (Nat.lt_of_lt_of_le hb.2.2.2.1 (by decide))];simpa using h
theorem y83 (k:Int):(zae k).length<=100:=y25 _ _ (by decide)
theorem y46 (n:Nat):(zce.getD n default).length<=100:=y9l _ (by decide) n
theorem yeeb {a:Aid} (h:zw a=true) (hb:bdAid a) (hl:zgc a=true):a.Light.Group.length<=4/\(∀ v∈a.Light.Group,1<=v/\v<=9)/\1<=a.Light.Kind/\a.Light.Kind<=8/\0<=a.Light.Period/\a.Light.Period<=600:=ygab _ (Nat.lt_of_lt_of_le hb.2.2.1.2.2 (by decide)) ((y4c h).2.2.2.2.2.2.2.1 hl)
theorem ydl {n:Int} {s:l00Src} {l:List (List UInt8)} (h:SrcOk n s) (hn:n<=2000000000) (hl:1<=l.length):(zx s l).1∈l:=by
 have hr:=yn (l.length:Int) h hn;have h2:=hr.2 (by omega);unfold zx;simp only;have hi:((za s (l.length:Int)).1).toNat<l.length:=by omega
 rw[List.getD_eq_getElem?_getD,List.getElem?_eq_getElem hi];exact List.getElem_mem hi
theorem ywab {n:Int} {s:l00Src} (h:SrcOk n s) (hn:n<=2000000000):(zfc s).1.length<=3:=by
 unfold zfc;have:=ydl (l:=([[87],[87],[82],[71],[89],[87,82],[82,71],[87,82,71],[87,71]]:List (List UInt8))) h hn (by decide);simp only;generalize (zx s ([[87],[87],[82],[71],[89],[87,82],[82,71],[87,82,71],[87,71]]:List (List UInt8))).1=x at this;have hs:∀ y∈([[87],[87],[82],[71],[89],[87,82],[82,71],[87,82,71],[87,71]]:List (List UInt8)),y.length<=3:=by decide
 exact hs x this
theorem yodb {n:Int} {s:l00Src} {l:List Int} (h:SrcOk n s) (hn:n<=2000000000) (hl:1<=l.length):(zk s l).1∈l:=by
 have hr:=yn (l.length:Int) h hn;have h2:=hr.2 (by omega);unfold zk;simp only;have hi:((za s (l.length:Int)).1).toNat<l.length:=by omega
 rw[List.getD_eq_getElem?_getD,List.getElem?_eq_getElem hi];exact List.getElem_mem hi
theorem am9 {n:Int} {s:l00Src} (h:SrcOk n s) (hn:n<=2000000000):0<=(zk s ([0,0,3,6,9]:List Int)).1/\(zk s ([0,0,3,6,9]:List Int)).1<=9:=by
 have:=yodb (l:=([0,0,3,6,9]:List Int)) h hn (by decide);simp only[List.mem_cons,List.not_mem_nil,or_false]at this;omega
theorem let9 {n:Int} {s:l00Src} (h:SrcOk n s) (hn:n<=2000000000):65<=(UInt8.ofNat (IntKind.wrap .u8 (IntKind.wrap .i64 (65+(za s 26).1))).toNat).toNat/\(UInt8.ofNat (IntKind.wrap .u8 (IntKind.wrap .i64 (65+(za s 26).1))).toNat).toNat<=90:=by
 have hr:=yn 26 h hn;have hr2:=hr.2 (by omega);have hall:((List.range 26).all fun m=>decide (65<=(UInt8.ofNat (IntKind.wrap .u8 (IntKind.wrap .i64 (65+(m:Int)))).toNat).toNat/\(UInt8.ofNat (IntKind.wrap .u8 (IntKind.wrap .i64 (65+(m:Int)))).toNat).toNat<=90))=true:=by decide +kernel
 have:=of_decide_eq_true (List.all_eq_true.1 hall ((za s 26).1).toNat (List.mem_range.2 (by omega)));rwa [show(((za s 26).1).toNat:Int)=(za s 26).1 by omega]at this
theorem y9ab {l:List Int} {x:Int} (h:∀ v∈l,v<=9) (hx:x<=9):∀ v∈l++[x],v<=9:=fun v hv=>by
 rcases List.mem_append.1 hv with h1|h1
 ·exact h v h1
 ·rw[List.mem_singleton]at h1;subst h1;exact hx
theorem pk_b {n:Int} {s:l00Src} {k:Nat} (hd:decide (0<(k:Int))=true) (h:SrcOk n s) (hn:n<=2000000000):0<=(za s (k:Int)).1/\(za s (k:Int)).1<(k:Int)/\((za s (k:Int)).1).toNat<k:=by
 have hd:=of_decide_eq_true hd;have hr:=yn (k:Int) h hn;have:=hr.2 (by omega);omega
def zoh (a0:l00Src) (q3:l00Src) (q4:l00Src) (t1:List Int×Int×Int×List UInt8×List Int):Character×l00Src:=
 (bif (zhd ({ Kind:=IntKind.wrap .i64 (1+((za a0 8).1)),Group:=t1.2.2.2.2,Letter:=t1.2.2.2.1,Colors:=((zfc q3).1),Period:=0:Character }))then({ Kind:=IntKind.wrap .i64 (1+((za a0 8).1)),Group:=t1.2.2.2.2,Letter:=t1.2.2.2.1,Colors:=((zfc q3).1),Period:=0:Character },{ code:=t1.1,at_:=t1.2.1,seed:=t1.2.2.1:l00Src })else(bnd ((zk ({ code:=t1.1,at_:=t1.2.1,seed:=t1.2.2.1:l00Src }) ([0,5,20,50,100,1,200]:List Int)).2) fun q22=>(bif ((IntKind.wrap .i64 (1+((za a0 8).1))) == 3)then({ Kind:=IntKind.wrap .i64 (1+((za a0 8).1)),Group:=t1.2.2.2.2,Letter:=t1.2.2.2.1,Colors:=((zfc q3).1),Period:=IntKind.wrap .i64 ((zwe 600 (IntKind.wrap .i64 ((zqb ({ Kind:=IntKind.wrap .i64 (1+((za a0 8).1)),Group:=t1.2.2.2.2,Letter:=t1.2.2.2.1,Colors:=((zfc q3).1),Period:=0:Character }))+((zk ({ code:=t1.1,at_:=t1.2.1,seed:=t1.2.2.1:l00Src }) ([0,5,20,50,100,1,200]:List Int)).1))))+((zwe 600 (IntKind.wrap .i64 ((zqb ({ Kind:=IntKind.wrap .i64 (1+((za a0 8).1)),Group:=t1.2.2.2.2,Letter:=t1.2.2.2.1,Colors:=((zfc q3).1),Period:=0:Character }))+((zk ({ code:=t1.1,at_:=t1.2.1,seed:=t1.2.2.1:l00Src }) ([0,5,20,50,100,1,200]:List Int)).1)))).tmod 2)):Character },q22)else({ Kind:=IntKind.wrap .i64 (1+((za a0 8).1)),Group:=t1.2.2.2.2,Letter:=t1.2.2.2.1,Colors:=((zfc q3).1),Period:=(zwe 600 (IntKind.wrap .i64 ((zqb ({ Kind:=IntKind.wrap .i64 (1+((za a0 8).1)),Group:=t1.2.2.2.2,Letter:=t1.2.2.2.1,Colors:=((zfc q3).1),Period:=0:Character }))+((zk ({ code:=t1.1,at_:=t1.2.1,seed:=t1.2.2.1:l00Src }) ([0,5,20,50,100,1,200]:List Int)).1)))):Character },q22))))
def y90 (a0:l00Src) (q3:l00Src) (q4:l00Src) (t2:Bool) (q24:l00Src) (s1:Int×l00Src×List Int):Except (Sum (Character×l00Src) (Int×l00Src×List Int)) (Int×l00Src×List Int):=
 (bif decide (1<s1.1)then(bnd ((za s1.2.1 3).2) fun q30=>.ok (IntKind.wrap .i64 (s1.1-1),q30,s1.2.2++([IntKind.wrap .i64 (1+((za s1.2.1 3).1))]:List Int)))else .error (.inr (s1.1,s1.2.1,s1.2.2)))
def zci (a0:l00Src) (q3:l00Src) (q4:l00Src) (t2:Bool) (t3:Bool):Character×l00Src:=
 (bif t3 then(bnd ((zk q4 ([0,0,3,6,9]:List Int)).2) fun q32=>(bif decide (0<((zk q4 ([0,0,3,6,9]:List Int)).1))then(bif (((zk q4 ([0,0,3,6,9]:List Int)).1) == 6)then(bnd ((zn q32 2).2) fun q34=>(bif ((zn q32 2).1)then(zoh a0 q3 q4 (q34.code,q34.at_,q34.seed,[76],([((zk q4 ([0,0,3,6,9]:List Int)).1)]:List Int)))else(zoh a0 q3 q4 (q34.code,q34.at_,q34.seed,[],([((zk q4 ([0,0,3,6,9]:List Int)).1)]:List Int)))))else(zoh a0 q3 q4 (q32.code,q32.at_,q32.seed,[],([((zk q4 ([0,0,3,6,9]:List Int)).1)]:List Int))))else(bif (((zk q4 ([0,0,3,6,9]:List Int)).1) == 6)then(bnd ((zn q32 2).2) fun q36=>(bif ((zn q32 2).1)then(zoh a0 q3 q4 (q36.code,q36.at_,q36.seed,[76],([]:List Int)))else(zoh a0 q3 q4 (q36.code,q36.at_,q36.seed,[],([]:List Int)))))else(zoh a0 q3 q4 (q32.code,q32.at_,q32.seed,[],([]:List Int))))))else(bif ((IntKind.wrap .i64 (1+((za a0 8).1))) == 8)then(bnd ((za q4 26).2) fun q38=>(zoh a0 q3 q4 (q38.code,q38.at_,q38.seed,(([IntKind.wrap .u8 (IntKind.wrap .i64 (65+((za q4 26).1)))]:List Int).map fun z=>UInt8.ofNat z.toNat),([]:List Int))))else(zoh a0 q3 q4 (q4.code,q4.at_,q4.seed,[],([]:List Int)))))
def zbi (a0:l00Src) (q3:l00Src) (q4:l00Src) (t2:Bool):Character×l00Src:=
 (bif t2 then(bnd ((za q4 4).2) fun q24=>(match yab (y90 a0 q3 q4 t2 q24) (((((za q4 4).1)).toNat)+1) (((za q4 4).1),q24,([]:List Int))with|.error (.inl e)=>e|.error (.inr s1)=>(bif (!(zuc s1.2.2))then(zoh a0 q3 q4 (s1.2.1.code,s1.2.1.at_,s1.2.1.seed,[],([2]:List Int)))else(zoh a0 q3 q4 (s1.2.1.code,s1.2.1.at_,s1.2.1.seed,[],s1.2.2)))|.ok _=>default))else(bif ((IntKind.wrap .i64 (1+((za a0 8).1))) == 6)then(zci a0 q3 q4 t2 ((IntKind.wrap .i64 (1+((za a0 8).1))) == 6))else(zci a0 q3 q4 t2 ((IntKind.wrap .i64 (1+((za a0 8).1))) == 7))))
def zi (a0:l00Src):Character×l00Src:=
 (bnd ((za a0 8).2) fun q3=>(bnd ((zfc q3).2) fun q4=>(bif ((IntKind.wrap .i64 (1+((za a0 8).1))) == 2)then(zbi a0 q3 q4 ((IntKind.wrap .i64 (1+((za a0 8).1))) == 2))else(bif ((IntKind.wrap .i64 (1+((za a0 8).1))) == 4)then(zbi a0 q3 q4 ((IntKind.wrap .i64 (1+((za a0 8).1))) == 4))else(zbi a0 q3 q4 ((IntKind.wrap .i64 (1+((za a0 8).1))) == 5))))))
namespace N86
theorem DD:DOk Tryz.prog (Go.Ab.DD [(141,dM [true] D_zfc),(142,dP D_zuc),(143,dP D_zqb),(144,dP D_zhd),(145,dP D_zwe),(38,dM [true,false] D_za),(42,dM [true,false] D_zn),(87,dM [true,true] D_zk)]):=ya yb6.e <| ya yay.e <| ya y5y.e <| ya yxp.e <| ya yt8.e <| ya ylf.e <| ya y3l.e <| ya yzv.e <| yc _
abbrev dn:=cj @D_zfc.eq_1 <| cj @D_zuc.eq_1 <| cj @D_zqb.eq_1 <| cj @D_zhd.eq_1 <| cj @D_zwe.eq_1 <| cj @D_za.eq_1 <| cj @D_zn.eq_1 <| @D_zk.eq_1
theorem o1 {p:Prop} (h:p:=by(first|(with_reducible exact hX1.2.2.2.1)|(with_reducible exact hX1.2.2.2.2)|(have h9:=hX1.2.1;omega)|(have hc3:=hcl q3 _ hS_q3 (by omega);have hx2:=hX1.2.1;have hx3:=hX1.2.2.1;refine⟨?_,?_,?_⟩<;>(show List.length _<1099511627776)<;>omega)|(exact SrcOk.mono hX1.1 (by omega))|(refine SrcOk.mono (by repeat' first|assumption|exact SrcOk.next ‹_› | apply SrcOk.next|apply SrcOk.pick|apply SrcOk.one|apply SrcOk.among|apply SrcOk.text|apply SrcOk.colors|apply SrcOk.point|apply SrcOk.chr|apply SrcOk.sectors|apply SrcOk.aid|apply SrcOk.aids|apply SrcOk.notice|omega) (by omega))|(exact SrcOk.mono hW1.2.2.1 (by omega))|(exact hW1.2.2.2.2)|(intro v hv;rw[List.mem_singleton]at hv;subst hv;have h9:=hax q4 _ hS_q4 (by omega);omega)|(intro v hv;cases hv;(first|done|fail)));first|done|fail):p:=h
theorem o2 {p:Prop} (h:p:=by(first|((repeat' with_reducible apply And.intro)<;>first|(simp only[List.length_append,List.length_singleton];(first|done|fail))|(rw[IntKind.wrap_i64];omega)|(intro j hj;by_cases hji:j<s1.2.2.length;(focus(simp only[yik hji,yst hji,cond_true];first|(first|done|fail)|with_reducible rfl));(have e0:j-s1.2.2.length=0:=by omega);(simp only[ypk hji hj,ygu hji,cond_false,e0,elt,yz,yeb];first|(first|done|fail)|with_reducible rfl))|decide)|((repeat' with_reducible apply And.intro)<;>first|(simp only[List.length_append,List.length_singleton];(first|done|fail))|(rw[IntKind.wrap_i64];omega)|(intro j hj;by_cases hji:j<s2.2.2.length;(focus(simp only[yik hji,yst hji,cond_true];first|(first|done|fail)|with_reducible rfl));(have e0:j-s2.2.2.length=0:=by omega);(simp only[ypk hji hj,ygu hji,cond_false,e0,elt,yz,yeb];first|(first|done|fail)|with_reducible rfl))|decide)|((repeat' with_reducible apply And.intro)<;>first|(simp only[List.length_append,List.length_singleton];(first|done|fail))|(rw[IntKind.wrap_i64];omega)|(intro j hj;by_cases hji:j<s3.2.2.length;(focus(simp only[yik hji,yst hji,cond_true];first|(first|done|fail)|with_reducible rfl));(have e0:j-s3.2.2.length=0:=by omega);(simp only[ypk hji hj,ygu hji,cond_false,e0,elt,yz,yeb];first|(first|done|fail)|with_reducible rfl))|decide));first|done|fail):p:=h
theorem lx {p:Prop} (h:p:=by(exact lxx);first|done|fail):p:=h
set_option maxHeartbeats 8000000 in
set_option maxRecDepth 20000 in
theorem den (a0:l00Src) (hp0:SrcOk 600000 a0):DenM Tryz.prog 86 [.op (yt a0)] (.agg (y9b ((zi a0).1))) [(.op (yt ((zi a0).2)))]:=by
 generalize hR:zi a0=r;unfold zi at hR;refine dj (gb:=[true]) Tryz.func86 Tryz.ntmps86 Tryz.results86 ?_;intro c hL hc hk;obtain⟨hL0,_⟩:=hL;have hw0:bwl00Src a0:=ykb a0 hL0;clear hL0;simp only[adEL,adE,adRL,adR,ownL,encL,sv,List.nil_append,List.append_nil,List.cons_append,List.length_cons,List.length_nil,pars,Nat.zero_add,Nat.reduceAdd]at hk ⊢;have hcl:=fun(s:l00Src) (n:Int) (h:SrcOk n s) (hn:n<=2000000)=>ywab h (by omega)
 have hax:=fun(s:l00Src) (n:Int) (h:SrcOk n s) (hn:n<=2000000)=>am9 h (by omega)
 have hlt:=fun(s:l00Src) (n:Int) (h:SrcOk n s) (hn:n<=2000000)=>let9 h (by omega)
 iterate 2 refine rS ?_
 generalize hq3:(za a0 8).2=q3 at hR ⊢;replace hR:=bn hR;have hS_q3:SrcOk (600002) q3:=by rw[<- hq3];exact SrcOk.pick hp0 (by omega)
 generalize hq4:(zfc q3).2=q4 at hR ⊢;replace hR:=bn hR;have hS_q4:SrcOk (600004) q4:=by rw[<- hq4];exact SrcOk.colors hS_q3 (by omega)
 refine AWP.seq ?_;refine AWP.joinC (fun t1:List Int×Int×Int×List UInt8×List Int=>⟨[(0,.ptr 0 0),(2,.ptr 1 0),(3,.ptr 2 0)],[.box [encL 1 eIu8 t1.1,.int .i64 t1.2.1,.int .u64 t1.2.2.1],.box [.int .i64 0,.nils,.str [],.str [],.int .i64 0],.box [.int .i64 (IntKind.wrap .i64 (1+((za a0 8).1))),.ref 3 1 0 t1.2.2.2.2.length,.str t1.2.2.2.1,.str ((zfc q3).1),.int .i64 0],.arr 2 1 t1.2.2.2.2.length (fun j=>yy (t1.2.2.2.2.getD j default))]⟩) (fun t1=>(SrcOk 600200 ({ code:=t1.1,at_:=t1.2.1,seed:=t1.2.2.1:l00Src })/\t1.2.2.2.2.length<=3/\t1.2.2.2.1.length<=1/\(∀ v∈t1.2.2.2.2,v<=9)/\((IntKind.wrap .i64 (1+((za a0 8).1)))=8->t1.2.2.2.1.length=1/\65<=(t1.2.2.2.1.getD 0 0).toNat/\(t1.2.2.2.1.getD 0 0).toNat<=90))/\zoh a0 q3 q4 t1=r) ?_ (fun t1 hV1 => ?_)
 ·refine rS ?_
  refine AWP.block ?_;refine AWP.seq ?_;refine AWP.joinC (fun t2:Bool=>⟨[(0,.ptr 0 0),(2,.ptr 1 0),(3,.ptr 2 0),(14,.int .i64 (IntKind.wrap .i64 (1+((za a0 8).1)))),(15,.bool t2)],[.box [encL 1 eIu8 q4.code,.int .i64 q4.at_,.int .u64 q4.seed],.box [.int .i64 0,.nils,.str [],.str [],.int .i64 0],.box [.int .i64 (IntKind.wrap .i64 (1+((za a0 8).1))),.nils,.str [],.str ((zfc q3).1),.int .i64 0]]⟩) (fun t2=>(t2=true->(IntKind.wrap .i64 (1+((za a0 8).1)))≠8)/\zbi a0 q3 q4 t2=r) ?_ (fun t2 hV2 => ?_)
  ·refine rS ?_
   refine yb ?_ ?_<;>intro hb
   ·replace hR:=ct hR
    refine AWP.skip ?_;exact Meet.end ((IntKind.wrap .i64 (1+((za a0 8).1))) == 2) [0,1,2] ⟨by((try dsimp only);(intro h8;have h9:=eq_of_beq h8;omega)),hR⟩ sm
   ·replace hR:=cf hR
    refine rS ?_;refine yb ?_ ?_<;>intro hb
    ·replace hR:=ct hR
     refine AWP.skip ?_;exact Meet.end ((IntKind.wrap .i64 (1+((za a0 8).1))) == 4) [0,1,2] ⟨by((try dsimp only);(intro h8;have h9:=eq_of_beq h8;omega)),hR⟩ sm
    ·replace hR:=cf hR
     refine rS ?_;exact Meet.end ((IntKind.wrap .i64 (1+((za a0 8).1))) == 5) [0,1,2] ⟨by((try dsimp only);(intro h8;have h9:=eq_of_beq h8;omega)),hR⟩ sm
  ·clear hR
   obtain⟨hX2,hR⟩:=hV2;unfold zbi at hR;refine yb ?_ ?_<;>intro hb
   ·replace hR:=ct hR
    refine rS ?_;generalize hq24:(za q4 4).2=q24 at hR ⊢;replace hR:=bn hR;have hS_q24:SrcOk (600006) q24:=by rw[<- hq24];exact SrcOk.pick hS_q4 (by omega)
    refine AWP.block ?_;refine AWP.nilB 2 1 2 1 (fun _=>[]) rfl rfl ?_;try simp only[ea,absV,yoc,cput,gv,sv,dn,reduceCtorEq,reduceIte,Nat.reduceBEq,Nat.reduceAdd,Nat.reduceEqDiff,Nat.reduceLT,Nat.reduceLeDiff,Nat.reduceMul,Nat.reduceSub,BEq.rfl,beq_self_eq_true,Int.reduceToNat];generalize hz1:yab (y90 a0 q3 q4 t2 q24) (((((za q4 4).1)).toNat)+1) (((za q4 4).1),q24,([]:List Int))=z1 at hR;refine AWP.whileW (y90 a0 q3 q4 t2 q24) (fun s1=>⟨[(0,.ptr 0 0),(2,.ptr 1 0),(3,.ptr 2 0),(4,.int .i64 s1.1)],[.box [encL 1 eIu8 s1.2.1.code,.int .i64 s1.2.1.at_,.int .u64 s1.2.1.seed],.box [.int .i64 0,.nils,.str [],.str [],.int .i64 0],.box [.int .i64 (IntKind.wrap .i64 (1+((za a0 8).1))),.ref 3 1 0 s1.2.2.length,.str [],.str ((zfc q3).1),.int .i64 0],.arr 2 1 s1.2.2.length (fun j=>yy (s1.2.2.getD j default))]⟩) (fun s1=>0<=s1.1/\s1.1<=3/\SrcOk (600040+10 * (3-s1.1)) s1.2.1/\s1.2.2.length<=(3-s1.1).toNat/\∀ v∈s1.2.2,v<=9) (fun s1=>(s1.1).toNat) (((((za q4 4).1)).toNat)+1) (((za q4 4).1),q24,([]:List Int)) [0,1,2,3] hz1 m0 (by(have h2:=yn 4 hS_q4 (by omega);have h3:=h2.2 (by omega);exact⟨h2.1,by omega,SrcOk.mono (by assumption) (by omega),by simp,by simp⟩)) sm ?_;clear hz1;intro s1 k1 hW1 hm1 hz1;simp only[y90]at hz1;refine rS ?_;refine yb ?_ ?_<;>intro hb
    ·simp only[hb,cond_true]at hz1
     refine AWP.skip ?_;refine AWP.seq ?_;refine AWP.block ?_;refine AWP.regP mixed G_ok DD hc 6 [0,1,2] (.alt 3 [4] [0,1,4] (.alt 5 [] [0,1] .leaf .stop) .stop) (by kernel_rfl) (by kernel_rfl) (by kernel_rfl) (fun K hK => ?_);simp only[y1k,runN,runP,y3c,nthO,ea,absV,yoc,cput,gv,sv,dn,reduceCtorEq,reduceIte,Nat.reduceBEq,Nat.reduceAdd,Nat.reduceEqDiff,Nat.reduceLT,Nat.reduceLeDiff,Nat.reduceMul,Nat.reduceSub,BEq.rfl,beq_self_eq_true,Int.reduceToNat];repeat' apply And.intro
     all_goals first|refine hK _ ?_|exact ot
     all_goals clear hK K
     generalize hq30:(za s1.2.1 3).2=q30 at hz1 ⊢;rw[bndv q30]at hz1;have hS_q30:SrcOk (600040+10 * (3-s1.1)+2) q30:=by rw[<- hq30];exact SrcOk.pick hW1.2.2.1 (by omega)
     refine rS ?_;clear hR;exact⟨_,[0,1,2,5],by(have hpos:1<s1.1:=of_decide_eq_true (by assumption);have hwr:IntKind.wrap .i64 (s1.1-1)=s1.1-1:=(by rw[IntKind.wrap_i64];omega);(try dsimp only);rw[hwr];omega),by(have hpos:1<s1.1:=of_decide_eq_true (by assumption);have hwr:IntKind.wrap .i64 (s1.1-1)=s1.1-1:=(by rw[IntKind.wrap_i64];omega);(try dsimp only);rw[hwr];have hG:=hW1.2.2.2.1;have hp3:=yn 3 hW1.2.2.1 (by omega);have hp4:=hp3.2 (by omega);exact⟨by omega,by omega,SrcOk.mono (by assumption) (by omega),by simp only[List.length_append,List.length_cons,List.length_nil];omega,y9ab hW1.2.2.2.2 (by rw[IntKind.wrap_i64];omega)⟩),hz1,sm⟩
    ·simp only[hb,cond_false]at hz1
     refine AWP.exit ?_;refine yf ?_;subst hz1;dsimp only at hR;refine rS ?_;refine yb ?_ ?_<;>intro hb
     ·replace hR:=ct hR
      refine rS ?_;exact Meet.end (s1.2.1.code,s1.2.1.at_,s1.2.1.seed,[],([2]:List Int)) [0,1,2,4] ⟨by((try dsimp only);((repeat' with_reducible apply And.intro)<;>first|exact SrcOk.mono (by assumption) (by omega)|exact SrcOk.mono hW1.2.2.1 (by omega)|decide|(have h9:=hW1.2.2.2.1;omega)|exact hW1.2.2.2.2|(intro v hv;cases hv;done)|(intro v hv;rw[List.mem_singleton]at hv;subst hv;have h9:=hax q4 _ hS_q4 (by omega);omega)|(simp;done)|(intro h8;exact absurd h8 (hX2 (by assumption)))|(intro h8;exact absurd h8 (hX3 (by assumption)))|(intro h8;have h9:=hlt q4 _ hS_q4 (by omega);simpa using h9)|(intro h8;exfalso;grind))),hR⟩ sm
     ·replace hR:=cf hR
      refine AWP.skip ?_;exact Meet.end (s1.2.1.code,s1.2.1.at_,s1.2.1.seed,[],s1.2.2) [0,1,2,3] ⟨by((try dsimp only);((repeat' with_reducible apply And.intro)<;>first|exact SrcOk.mono (by assumption) (by omega)|exact SrcOk.mono hW1.2.2.1 (by omega)|decide|(have h9:=hW1.2.2.2.1;omega)|exact hW1.2.2.2.2|(intro v hv;cases hv;done)|(intro v hv;rw[List.mem_singleton]at hv;subst hv;have h9:=hax q4 _ hS_q4 (by omega);omega)|(simp;done)|(intro h8;exact absurd h8 (hX2 (by assumption)))|(intro h8;exact absurd h8 (hX3 (by assumption)))|(intro h8;have h9:=hlt q4 _ hS_q4 (by omega);simpa using h9)|(intro h8;exfalso;grind))),hR⟩ sm
   ·replace hR:=cf hR
    refine AWP.seq ?_;refine AWP.joinC (fun t3:Bool=>⟨[(0,.ptr 0 0),(2,.ptr 1 0),(3,.ptr 2 0),(14,.int .i64 (IntKind.wrap .i64 (1+((za a0 8).1)))),(39,.bool t3)],[.box [encL 1 eIu8 q4.code,.int .i64 q4.at_,.int .u64 q4.seed],.box [.int .i64 0,.nils,.str [],.str [],.int .i64 0],.box [.int .i64 (IntKind.wrap .i64 (1+((za a0 8).1))),.nils,.str [],.str ((zfc q3).1),.int .i64 0]]⟩) (fun t3=>(t3=true->(IntKind.wrap .i64 (1+((za a0 8).1)))≠8)/\zci a0 q3 q4 t2 t3=r) ?_ (fun t3 hV3 => ?_)
    ·refine rS ?_
     refine yb ?_ ?_<;>intro hb
     ·replace hR:=ct hR
      refine AWP.skip ?_;exact Meet.end ((IntKind.wrap .i64 (1+((za a0 8).1))) == 6) [0,1,2] ⟨by((try dsimp only);(intro h8;have h9:=eq_of_beq h8;omega)),hR⟩ sm
     ·replace hR:=cf hR
      refine rS ?_;exact Meet.end ((IntKind.wrap .i64 (1+((za a0 8).1))) == 7) [0,1,2] ⟨by((try dsimp only);(intro h8;have h9:=eq_of_beq h8;omega)),hR⟩ sm
    ·clear hR
     obtain⟨hX3,hR⟩:=hV3;unfold zci at hR;refine yb ?_ ?_<;>intro hb
     ·replace hR:=ct hR
      refine rS ?_;generalize hq32:(zk q4 ([0,0,3,6,9]:List Int)).2=q32 at hR ⊢;replace hR:=bn hR;have hS_q32:SrcOk (600006) q32:=by rw[<- hq32];exact SrcOk.among hS_q4 (by omega)
      refine rS ?_;refine yb ?_ ?_<;>intro hb
      ·replace hR:=ct hR
       refine rS ?_;refine AWP.seq ?_;rcases Bool.eq_false_or_eq_true (((zk q4 ([0,0,3,6,9]:List Int)).1) == 6)with hb|hb
       ·replace hR:=ct hR
        refine rK [(3,0),(4,0),(5,2)] ?_;generalize hq34:(zn q32 2).2=q34 at hR ⊢;replace hR:=bn hR;have hS_q34:SrcOk (600008) q34:=by rw[<- hq34];exact SrcOk.one hS_q32 (by omega)
        refine yb ?_ ?_<;>intro hb
        ·replace hR:=ct hR
         refine rS ?_;exact Meet.end (q34.code,q34.at_,q34.seed,[76],([((zk q4 ([0,0,3,6,9]:List Int)).1)]:List Int)) [0,1,2,4] ⟨by((try dsimp only);((repeat' with_reducible apply And.intro)<;>first|exact SrcOk.mono (by assumption) (by omega)|exact SrcOk.mono hW1.2.2.1 (by omega)|decide|(have h9:=hW1.2.2.2.1;omega)|exact hW1.2.2.2.2|(intro v hv;cases hv;done)|(intro v hv;rw[List.mem_singleton]at hv;subst hv;have h9:=hax q4 _ hS_q4 (by omega);omega)|(simp;done)|(intro h8;exact absurd h8 (hX2 (by assumption)))|(intro h8;exact absurd h8 (hX3 (by assumption)))|(intro h8;have h9:=hlt q4 _ hS_q4 (by omega);simpa using h9)|(intro h8;exfalso;grind))),hR⟩ sm
        ·replace hR:=cf hR
         refine AWP.skip ?_;exact Meet.end (q34.code,q34.at_,q34.seed,[],([((zk q4 ([0,0,3,6,9]:List Int)).1)]:List Int)) [0,1,2,4] ⟨by((try dsimp only);((repeat' with_reducible apply And.intro)<;>first|exact SrcOk.mono (by assumption) (by omega)|exact SrcOk.mono hW1.2.2.1 (by omega)|decide|(have h9:=hW1.2.2.2.1;omega)|exact hW1.2.2.2.2|(intro v hv;cases hv;done)|(intro v hv;rw[List.mem_singleton]at hv;subst hv;have h9:=hax q4 _ hS_q4 (by omega);omega)|(simp;done)|(intro h8;exact absurd h8 (hX2 (by assumption)))|(intro h8;exact absurd h8 (hX3 (by assumption)))|(intro h8;have h9:=hlt q4 _ hS_q4 (by omega);simpa using h9)|(intro h8;exfalso;grind))),hR⟩ sm
       ·replace hR:=cf hR
        refine rK [(3,1),(4,1),(5,3)] ?_;refine yb ?_ ?_<;>intro hb
        ·exact absurd hb (by decide)
        ·refine AWP.skip ?_
         exact Meet.end (q32.code,q32.at_,q32.seed,[],([((zk q4 ([0,0,3,6,9]:List Int)).1)]:List Int)) [0,1,2,4] ⟨by((try dsimp only);((repeat' with_reducible apply And.intro)<;>first|exact SrcOk.mono (by assumption) (by omega)|exact SrcOk.mono hW1.2.2.1 (by omega)|decide|(have h9:=hW1.2.2.2.1;omega)|exact hW1.2.2.2.2|(intro v hv;cases hv;done)|(intro v hv;rw[List.mem_singleton]at hv;subst hv;have h9:=hax q4 _ hS_q4 (by omega);omega)|(simp;done)|(intro h8;exact absurd h8 (hX2 (by assumption)))|(intro h8;exact absurd h8 (hX3 (by assumption)))|(intro h8;have h9:=hlt q4 _ hS_q4 (by omega);simpa using h9)|(intro h8;exfalso;grind))),hR⟩ sm
      ·replace hR:=cf hR
       refine AWP.skip ?_;refine AWP.seq ?_;rcases Bool.eq_false_or_eq_true (((zk q4 ([0,0,3,6,9]:List Int)).1) == 6)with hb|hb
       ·replace hR:=ct hR
        refine rK [(3,0),(4,0),(5,2)] ?_;generalize hq36:(zn q32 2).2=q36 at hR ⊢;replace hR:=bn hR;have hS_q36:SrcOk (600008) q36:=by rw[<- hq36];exact SrcOk.one hS_q32 (by omega)
        refine yb ?_ ?_<;>intro hb
        ·replace hR:=ct hR
         refine rS ?_;refine Meet.nilB 2 1 2 1 (fun _=>[]) rfl rfl ?_;try simp only[ea,absV,yoc,cput,gv,sv,dn,reduceCtorEq,reduceIte,Nat.reduceBEq,Nat.reduceAdd,Nat.reduceEqDiff,Nat.reduceLT,Nat.reduceLeDiff,Nat.reduceMul,Nat.reduceSub,BEq.rfl,beq_self_eq_true,Int.reduceToNat];exact Meet.end (q36.code,q36.at_,q36.seed,[76],([]:List Int)) [0,1,2,4] ⟨by((try dsimp only);((repeat' with_reducible apply And.intro)<;>first|exact SrcOk.mono (by assumption) (by omega)|exact SrcOk.mono hW1.2.2.1 (by omega)|decide|(have h9:=hW1.2.2.2.1;omega)|exact hW1.2.2.2.2|(intro v hv;cases hv;done)|(intro v hv;rw[List.mem_singleton]at hv;subst hv;have h9:=hax q4 _ hS_q4 (by omega);omega)|(simp;done)|(intro h8;exact absurd h8 (hX2 (by assumption)))|(intro h8;exact absurd h8 (hX3 (by assumption)))|(intro h8;have h9:=hlt q4 _ hS_q4 (by omega);simpa using h9)|(intro h8;exfalso;grind))),hR⟩ sm
        ·replace hR:=cf hR
         refine AWP.skip ?_;refine Meet.nilB 2 1 2 1 (fun _=>[]) rfl rfl ?_;try simp only[ea,absV,yoc,cput,gv,sv,dn,reduceCtorEq,reduceIte,Nat.reduceBEq,Nat.reduceAdd,Nat.reduceEqDiff,Nat.reduceLT,Nat.reduceLeDiff,Nat.reduceMul,Nat.reduceSub,BEq.rfl,beq_self_eq_true,Int.reduceToNat];exact Meet.end (q36.code,q36.at_,q36.seed,[],([]:List Int)) [0,1,2,4] ⟨by((try dsimp only);((repeat' with_reducible apply And.intro)<;>first|exact SrcOk.mono (by assumption) (by omega)|exact SrcOk.mono hW1.2.2.1 (by omega)|decide|(have h9:=hW1.2.2.2.1;omega)|exact hW1.2.2.2.2|(intro v hv;cases hv;done)|(intro v hv;rw[List.mem_singleton]at hv;subst hv;have h9:=hax q4 _ hS_q4 (by omega);omega)|(simp;done)|(intro h8;exact absurd h8 (hX2 (by assumption)))|(intro h8;exact absurd h8 (hX3 (by assumption)))|(intro h8;have h9:=hlt q4 _ hS_q4 (by omega);simpa using h9)|(intro h8;exfalso;grind))),hR⟩ sm
       ·replace hR:=cf hR
        refine rK [(3,1),(4,1),(5,3)] ?_;refine yb ?_ ?_<;>intro hb
        ·exact absurd hb (by decide)
        ·refine AWP.skip ?_
         refine Meet.nilB 2 1 2 1 (fun _=>[]) rfl rfl ?_;try simp only[ea,absV,yoc,cput,gv,sv,dn,reduceCtorEq,reduceIte,Nat.reduceBEq,Nat.reduceAdd,Nat.reduceEqDiff,Nat.reduceLT,Nat.reduceLeDiff,Nat.reduceMul,Nat.reduceSub,BEq.rfl,beq_self_eq_true,Int.reduceToNat];exact Meet.end (q32.code,q32.at_,q32.seed,[],([]:List Int)) [0,1,2,4] ⟨by((try dsimp only);((repeat' with_reducible apply And.intro)<;>first|exact SrcOk.mono (by assumption) (by omega)|exact SrcOk.mono hW1.2.2.1 (by omega)|decide|(have h9:=hW1.2.2.2.1;omega)|exact hW1.2.2.2.2|(intro v hv;cases hv;done)|(intro v hv;rw[List.mem_singleton]at hv;subst hv;have h9:=hax q4 _ hS_q4 (by omega);omega)|(simp;done)|(intro h8;exact absurd h8 (hX2 (by assumption)))|(intro h8;exact absurd h8 (hX3 (by assumption)))|(intro h8;have h9:=hlt q4 _ hS_q4 (by omega);simpa using h9)|(intro h8;exfalso;grind))),hR⟩ sm
     ·replace hR:=cf hR
      refine rS ?_;refine yb ?_ ?_<;>intro hb
      ·replace hR:=ct hR
       refine rS ?_;generalize hq38:(za q4 26).2=q38 at hR ⊢;replace hR:=bn hR;have hS_q38:SrcOk (600006) q38:=by rw[<- hq38];exact SrcOk.pick hS_q4 (by omega)
       refine Meet.nilB 2 1 2 1 (fun _=>[]) rfl rfl ?_;try simp only[ea,absV,yoc,cput,gv,sv,dn,reduceCtorEq,reduceIte,Nat.reduceBEq,Nat.reduceAdd,Nat.reduceEqDiff,Nat.reduceLT,Nat.reduceLeDiff,Nat.reduceMul,Nat.reduceSub,BEq.rfl,beq_self_eq_true,Int.reduceToNat];exact Meet.end (q38.code,q38.at_,q38.seed,(([IntKind.wrap .u8 (IntKind.wrap .i64 (65+((za q4 26).1)))]:List Int).map fun z=>UInt8.ofNat z.toNat),([]:List Int)) [0,1,2,4] ⟨by((try dsimp only);((repeat' with_reducible apply And.intro)<;>first|exact SrcOk.mono (by assumption) (by omega)|exact SrcOk.mono hW1.2.2.1 (by omega)|decide|(have h9:=hW1.2.2.2.1;omega)|exact hW1.2.2.2.2|(intro v hv;cases hv;done)|(intro v hv;rw[List.mem_singleton]at hv;subst hv;have h9:=hax q4 _ hS_q4 (by omega);omega)|(simp;done)|(intro h8;exact absurd h8 (hX2 (by assumption)))|(intro h8;exact absurd h8 (hX3 (by assumption)))|(intro h8;have h9:=hlt q4 _ hS_q4 (by omega);simpa using h9)|(intro h8;exfalso;grind))),hR⟩ sm
      ·replace hR:=cf hR
       refine AWP.skip ?_;refine Meet.nilB 2 1 2 1 (fun _=>[]) rfl rfl ?_;try simp only[ea,absV,yoc,cput,gv,sv,dn,reduceCtorEq,reduceIte,Nat.reduceBEq,Nat.reduceAdd,Nat.reduceEqDiff,Nat.reduceLT,Nat.reduceLeDiff,Nat.reduceMul,Nat.reduceSub,BEq.rfl,beq_self_eq_true,Int.reduceToNat];exact Meet.end (q4.code,q4.at_,q4.seed,[],([]:List Int)) [0,1,2,3] ⟨by((try dsimp only);((repeat' with_reducible apply And.intro)<;>first|exact SrcOk.mono (by assumption) (by omega)|exact SrcOk.mono hW1.2.2.1 (by omega)|decide|(have h9:=hW1.2.2.2.1;omega)|exact hW1.2.2.2.2|(intro v hv;cases hv;done)|(intro v hv;rw[List.mem_singleton]at hv;subst hv;have h9:=hax q4 _ hS_q4 (by omega);omega)|(simp;done)|(intro h8;exact absurd h8 (hX2 (by assumption)))|(intro h8;exact absurd h8 (hX3 (by assumption)))|(intro h8;have h9:=hlt q4 _ hS_q4 (by omega);simpa using h9)|(intro h8;exfalso;grind))),hR⟩ sm
 ·clear hR
  obtain⟨hX1,hR⟩:=hV1;unfold zoh at hR;iterate 2 refine rS ?_
  refine yb ?_ ?_<;>intro hb
  ·replace hR:=ct hR
   exact retR
  ·replace hR:=cf hR
   refine rS ?_;generalize hq22:(zk ({ code:=t1.1,at_:=t1.2.1,seed:=t1.2.2.1:l00Src }) ([0,5,20,50,100,1,200]:List Int)).2=q22 at hR ⊢;replace hR:=bn hR;have hS_q22:SrcOk (600202) q22:=by rw[<- hq22];exact SrcOk.among hX1.1 (by omega)
   refine rS ?_;refine yb ?_ ?_<;>intro hb
   ·replace hR:=ct hR
    refine rS ?_;exact retR
   ·replace hR:=cf hR
    exact retR
end N86
def D_zi : List AV -> Option (AV × List AV × List Prop)
 | [x0]=>some (.agg (y9b ((zi (rdQ yx x0)).1)),[(.op (yt ((zi (rdQ yx x0)).2)))],[wQ yt yx x0,SrcOk 600000 (rdQ yx x0)])
 | _=>none
theorem y3bb:OkM Tryz.prog 86 D_zi:=by unfold D_zi;exact dm N86.den
def nineC:List (List UInt8):=[[87],[82],[71],[89],[87,82],[82,71],[87,82,71],[87,71]]
def famG:List (List Int):=[[],[2],[3],[1,1],[1,2],[1,3],[2,1],[2,2],[2,3],[3,1],[3,2],[3,3]]
def mkC (k:Int) (g:List Int) (l:List UInt8):Character:={ Kind:=k,Group:=g,Letter:=l,Colors:=[87],Period:=0 }
def famC:List Character:=[mkC 1 [] [],mkC 3 [] [],mkC 6 [] [],mkC 7 [] [],mkC 6 [3] [],mkC 6 [6] [],mkC 6 [9] [],mkC 7 [3] [],mkC 7 [6] [],mkC 7 [9] [],mkC 6 [6] [76],mkC 7 [6] [76]]++famG.map (fun g=>mkC 2 g [])++famG.map (fun g=>mkC 4 g [])++famG.map (fun g=>mkC 5 g [])++(List.range 26).map (fun i=>mkC 8 [] [UInt8.ofNat (65+i)])
def chkC (c:Character):Bool:=zje c && (decide (0<=zqb c) && (decide (zqb c<=600) && (c.Kind != 3 || zqb c == 20)))
theorem y17:(famC.all chkC)=true:=by decide +kernel
theorem ys7 {c:Character} (h:c∈famC):chkC c=true:=List.all_eq_true.1 y17 c h
structure PreC (c:Character):Prop where
 pp:c.Period=0
 cc:c.Colors∈nineC
 ff:mkC c.Kind c.Group c.Letter∈famC
def ChrP (n:Int) (r:Character×l00Src):Prop:=SrcOk n r.2/\zsc r.1=true/\r.1.Colors∈nineC/\r.1.Group.length<=2/\r.1.Letter.length<=1
def ymt (c:Character) (s:l00Src):Character×l00Src:=
 bif zhd c then(c,s)else(bnd ((zk s ([0,5,20,50,100,1,200]:List Int)).2) fun q=>(bif (c.Kind == 3)then({ Kind:=c.Kind,Group:=c.Group,Letter:=c.Letter,Colors:=c.Colors,Period:=IntKind.wrap .i64 ((zwe 600 (IntKind.wrap .i64 ((zqb c)+((zk s ([0,5,20,50,100,1,200]:List Int)).1))))+((zwe 600 (IntKind.wrap .i64 ((zqb c)+((zk s ([0,5,20,50,100,1,200]:List Int)).1)))).tmod 2)):Character },q)else({ Kind:=c.Kind,Group:=c.Group,Letter:=c.Letter,Colors:=c.Colors,Period:=(zwe 600 (IntKind.wrap .i64 ((zqb c)+((zk s ([0,5,20,50,100,1,200]:List Int)).1)))):Character },q)))
theorem yvi {n:Int} {s:l00Src} {l:List Int} (h:SrcOk n s) (hn:n<=2000000000) (hl:1<=l.length):(zk s l).1∈l:=by
 have hr:=yn (l.length:Int) h hn;have h2:=hr.2 (by omega);unfold zk;simp only;have hi:((za s (l.length:Int)).1).toNat<l.length:=by omega
 rw[List.getD_eq_getElem?_getD,List.getElem?_eq_getElem hi];exact List.getElem_mem hi
theorem y5bb {C:List UInt8} (h:C∈nineC):zmb C=true:=by
 have:(nineC.all zmb)=true:=by decide +kernel
 exact List.all_eq_true.1 this C h
theorem ymm (k:Int) (g:List Int) (l C:List UInt8) (p:Int) (h:zmb C=true):zje { Kind:=k,Group:=g,Letter:=l,Colors:=C,Period:=p }=zje (mkC k g l):=by
 have h2:zmb [87]=true:=by decide +kernel
 unfold zje mkC;simp only[h,h2]
theorem yet (k:Int) (g:List Int) (l C:List UInt8) (p:Int):zqb { Kind:=k,Group:=g,Letter:=l,Colors:=C,Period:=p }=zqb (mkC k g l):=rfl
theorem y8o (k:Int) (g:List Int) (l C:List UInt8) (p:Int):zhd { Kind:=k,Group:=g,Letter:=l,Colors:=C,Period:=p }=zhd (mkC k g l):=rfl
theorem yv6 {k:Int} {g:List Int} {l:List UInt8} (h:mkC k g l∈famC):g.length<=2/\l.length<=1:=by
 have:(famC.all fun c=>decide (c.Group.length<=2/\c.Letter.length<=1))=true:=by decide +kernel
 exact of_decide_eq_true (List.all_eq_true.1 this _ h)
theorem y1p {n:Int} {c:Character} {s:l00Src} (hs:SrcOk n s) (hn:n<=1000000000) (hc:PreC c):ChrP (n+2) (ymt c s):=by
 obtain⟨K,G,L,C,p⟩:=c;obtain⟨h1,h2,h3⟩:=hc;simp only at h1 h2 h3;subst h1;have hk:=ys7 h3;have hg:=yv6 h3;have hcol:=y5bb h2;unfold chkC at hk;simp only[Bool.and_eq_true,decide_eq_true_eq,Bool.or_eq_true,bne_iff_ne,beq_iff_eq]at hk;obtain⟨k1,k2,k3,k4⟩:=hk;have k4:K≠3\/zqb (mkC K G L)=20:=k4
 have okP:∀ p:Int,(zhd (mkC K G L)=true->p=0)->(zhd (mkC K G L)=false->(K=3->p.tmod 2=0)/\zqb (mkC K G L)<=p/\p<=600)->zsc { Kind:=K,Group:=G,Letter:=L,Colors:=C,Period:=p }=true:=fun p q1 q2=>by
  unfold zsc;rw[ymm K G L C p hcol,k1,y8o,yet]
  cases hst:zhd (mkC K G L)with
  | true=>simp[q1 hst]
  | false=>
   obtain⟨e1,e2,e3⟩:=q2 hst
   have e4:((K == 3) && (p.tmod 2 != 0))=false:=by
    by_cases hK:K=3
    ·rw[e1 hK];simp
    ·simp[hK]
   simp only[Bool.not_true,cond_false,e4];unfold zj;simp only[Bool.and_eq_true,decide_eq_true_eq];omega
 unfold ymt;rw[y8o]
 cases hst:zhd (mkC K G L)with
 | true=>exact⟨hs.mono (by omega),okP 0 (fun _=>rfl) (fun h=>absurd (hst.symm.trans h) (by decide)),h2,hg⟩
 | false=>
  rw[cond_false,yet];have hx:=yvi (l:=([0,5,20,50,100,1,200]:List Int)) hs (by omega) (by decide);have hq:=hs.among (l:=([0,5,20,50,100,1,200]:List Int)) (by omega);generalize (zk s ([0,5,20,50,100,1,200]:List Int)).1=x at hx;generalize (zk s ([0,5,20,50,100,1,200]:List Int)).2=q at hq
  have hx2:0<=x/\x<=200:=by
   simp only[List.mem_cons,List.not_mem_nil,or_false]at hx;omega
  have hw:IntKind.wrap .i64 (zqb (mkC K G L)+x)=zqb (mkC K G L)+x:=by rw[IntKind.wrap_i64];omega
  rw[hw]
  have hm:zqb (mkC K G L)<=zwe 600 (zqb (mkC K G L)+x)/\zwe 600 (zqb (mkC K G L)+x)<=600/\(K=3->zwe 600 (zqb (mkC K G L)+x)<=220):=by
   unfold zwe;by_cases hd:600<zqb (mkC K G L)+x
   ·rw[decide_eq_true hd,cond_true];omega
   ·rw[decide_eq_false hd,cond_false];omega
  generalize zwe 600 (zqb (mkC K G L)+x)=m at hm;show ChrP (n+2) (bif (K == 3)then _ else _)
  cases hK:(K == 3)with
  | true=>
   rw[beq_iff_eq]at hK;have ht:m.tmod 2=m % 2:=Int.tmod_eq_emod_of_nonneg (by omega);have hw2:IntKind.wrap .i64 (m+m % 2)=m+m % 2:=by rw[IntKind.wrap_i64];omega
   have ht2:(m+m % 2).tmod 2=(m+m % 2) % 2:=Int.tmod_eq_emod_of_nonneg (by omega);rw[cond_true,ht,hw2];exact⟨hq,okP _ (fun h=>absurd (hst.symm.trans h) (by decide)) (fun _=>⟨fun _=>by rw[ht2];omega,by omega,by omega⟩),h2,hg⟩
  | false=>
   rw[cond_false];rw[beq_eq_false_iff_ne]at hK;exact⟨hq,okP _ (fun h=>absurd (hst.symm.trans h) (by decide)) (fun _=>⟨fun h=>absurd h hK,hm.1,hm.2.1⟩),h2,hg⟩
theorem yiv {n:Int} {s:l00Src} (h:SrcOk n s) (hn:n<=2000000000):(zfc s).1∈nineC:=by
 unfold zfc;have:=ydl (l:=([[87],[87],[82],[71],[89],[87,82],[82,71],[87,82,71],[87,71]]:List (List UInt8))) h hn (by decide);simp only;generalize (zx s ([[87],[87],[82],[71],[89],[87,82],[82,71],[87,82,71],[87,71]]:List (List UInt8))).1=x at this;have hs:∀ y∈([[87],[87],[82],[71],[89],[87,82],[82,71],[87,82,71],[87,71]]:List (List UInt8)),y∈nineC:=by decide
 exact hs x this
structure GrpI (N:Int) (s:Int×l00Src×List Int):Prop where
 a:0<=s.1
 b:s.1<=3
 q:SrcOk (N+2 * (3-s.1)) s.2.1
 g:(s.2.2.length:Int)<=3-s.1
 g2:s.1<=1->s.2.2.length<=2
 v:∀ x∈s.2.2,1<=x/\x<=3
def grpStep (s:Int×l00Src×List Int):Except (Sum (Character×l00Src) (Int×l00Src×List Int)) (Int×l00Src×List Int):=
 (bif decide (1<s.1)then(bnd ((za s.2.1 3).2) fun q=>.ok (IntKind.wrap .i64 (s.1-1),q,s.2.2++([IntKind.wrap .i64 (1+((za s.2.1 3).1))]:List Int)))else .error (.inr (s.1,s.2.1,s.2.2)))
theorem y3z {N:Int} (hN:N<=1000000000) (k:Nat) (s:Int×l00Src×List Int) (h:GrpI N s) (hk:s.1.toNat<k):∃ t,yab grpStep k s=.error (.inr t)/\GrpI N t/\t.1<=1:=by
 obtain⟨e,h1,t,rfl,h2⟩:=yqg (b:=grpStep) (GrpI N) (fun e=>∃ t,e=.inr t/\GrpI N t/\t.1<=1) (fun s=>s.1.toNat) (fun s h=>by
  unfold grpStep;by_cases hc:1<s.1
  ·rw[decide_eq_true hc,cond_true]
   left
   have hb:=h.b;have hr:=yn 3 h.q (by omega);have hr2:=hr.2 (by omega);have hq:=h.q.pick (m:=3) (by omega);have hw:IntKind.wrap .i64 (s.1-1)=s.1-1:=by rw[IntKind.wrap_i64];omega
   have hw2:IntKind.wrap .i64 (1+(za s.2.1 3).1)=1+(za s.2.1 3).1:=by rw[IntKind.wrap_i64];omega
   rw[hw,hw2];have hg:=h.g;refine⟨_,rfl,⟨by show 0<=s.1-1;omega,by show s.1-1<=3;omega,hq.mono (by show _<=N+2 * (3-(s.1-1));omega),?_,fun h9 => ?_,?_⟩,by show(s.1-1).toNat<s.1.toNat;omega⟩
   ·show((s.2.2++[_]).length:Int)<=3-(s.1-1)
    rw[List.length_append,List.length_singleton];omega
   ·show(s.2.2++[_]).length<=2
    have h9:s.1-1<=1:=h9;rw[List.length_append,List.length_singleton];omega
   ·intro x hx
    rcases List.mem_append.1 hx with hx|hx
    ·exact h.v x hx
    ·rw[List.mem_singleton]at hx;subst hx;omega
  ·rw[decide_eq_false hc,cond_false]
   exact .inr ⟨_,rfl,s,rfl,h,by omega⟩) k s h hk
 exact⟨t,h1,h2⟩
theorem yru {K:Int} (hK:K=2\/K=4\/K=5) {g:List Int} (hl:g.length<=2) (hv:∀ x∈g,1<=x/\x<=3) (hg:zuc g=true):mkC K g []∈famC:=by
 have hm:g∈famG:=by
  match g,hl,hv,hg with
  | [],_,_,_=>decide
  | [a],_,hv,hg=>
   have:=hv a (by simp);rcases(show a=1\/a=2\/a=3 by omega)with e|e|e<;>subst e
   ·exact absurd hg (by decide +kernel)
   ·decide
   ·decide
  | [a,b],_,hv,hg=>
   have h1:=hv a (by simp);have h2:=hv b (by simp);rcases(show a=1\/a=2\/a=3 by omega)with e|e|e<;>subst e<;>rcases(show b=1\/b=2\/b=3 by omega)with e|e|e<;>subst e<;>decide
 unfold famC;simp only[List.mem_append,List.mem_map];rcases hK with rfl|rfl|rfl
 ·exact .inl (.inl (.inl (.inr ⟨g,hm,rfl⟩)))
 ·exact .inl (.inl (.inr ⟨g,hm,rfl⟩))
 ·exact .inl (.inr ⟨g,hm,rfl⟩)
theorem yr0 {N K:Int} {C:List UInt8} (hN:N<=100000000) (hK:K=2\/K=4\/K=5) (hC:C∈nineC) {t:Int×l00Src×List Int} (h:GrpI N t) (h1:t.1<=1) :
  ChrP (N+8) (bif (!(zuc t.2.2))then ymt { Kind:=K,Group:=([2]:List Int),Letter:=[],Colors:=C,Period:=0:Character } t.2.1 else ymt { Kind:=K,Group:=t.2.2,Letter:=[],Colors:=C,Period:=0:Character } t.2.1):=by
 have ha:=h.a;have hs:SrcOk (N+6) t.2.1:=h.q.mono (by omega);have e8:N+8=N+6+2:=by omega
 rw[e8]
 cases hg:zuc t.2.2 with
 | true=>
  rw[Bool.not_true,cond_false];exact y1p (c:={ Kind:=K,Group:=t.2.2,Letter:=[],Colors:=C,Period:=0:Character }) hs (by omega) ⟨rfl,hC,yru hK (h.g2 h1) h.v hg⟩
 | false=>
  rw[Bool.not_false,cond_true];exact y1p (c:={ Kind:=K,Group:=([2]:List Int),Letter:=[],Colors:=C,Period:=0:Character }) hs (by omega) ⟨rfl,hC,by show mkC K [2] []∈famC;exact yru (g:=[2]) hK (by decide) (by decide) (by decide +kernel)⟩
theorem dj1 (s q3 q4 q:l00Src) (L:List UInt8) (g:List Int):zoh s q3 q4 (q.code,q.at_,q.seed,L,g)=ymt { Kind:=IntKind.wrap .i64 (1+(za s 8).1),Group:=g,Letter:=L,Colors:=(zfc q3).1,Period:=0:Character } q:=rfl
theorem yuy {n:Int} {s:l00Src} (h:SrcOk n s) (hn:n<=10000000):ChrP (n+100) (zi s):=by
 have hr:=yn 8 h (by omega);have hr2:=hr.2 (by omega);have h3:=h.pick (m:=8) (by omega);have hw:IntKind.wrap .i64 (1+(za s 8).1)=1+(za s 8).1:=by rw[IntKind.wrap_i64];omega
 unfold zi;generalize (za s 8).2=q3 at h3;have hC:=yiv h3 (by omega);have h4:=h3.colors (by omega);simp only[bnd];generalize (zfc q3).2=q4 at h4;have mono:∀ {m:Int} {r:Character×l00Src},ChrP m r->m<=n+100->ChrP (n+100) r:=fun h h2=>⟨h.1.mono h2,h.2⟩
 have hp:=yn 4 h4 (by omega);have hp2:=hp.2 (by omega);have h6:=h4.pick (m:=4) (by omega);have hI:GrpI (n+2+2+2) ((za q4 4).1,(za q4 4).2,([]:List Int)):=⟨hp.1,by show(za q4 4).1<=3;omega,h6.mono (by show _<=n+2+2+2+2 * (3-(za q4 4).1);omega),by show((0:Nat):Int)<=3-(za q4 4).1;omega,fun _=>by show(0:Nat)<=2;omega,fun x hx=>absurd hx (by simp)⟩
 have hKr:1<=IntKind.wrap .i64 (1+(za s 8).1)/\IntKind.wrap .i64 (1+(za s 8).1)<=8:=by omega
 clear hw hr hr2
 have leaf:∀ (g:List Int) (L:List UInt8) (q:l00Src) (m:Int),SrcOk m q->m+2<=n+100->mkC (IntKind.wrap .i64 (1+(za s 8).1)) g L∈famC->ChrP (n+100) (zoh s q3 q4 (q.code,q.at_,q.seed,L,g)):=fun g L q m hq hm hf=>by
  rw[dj1];exact mono (y1p hq (by omega) ⟨rfl,hC,hf⟩) (by omega)
 have J2:(IntKind.wrap .i64 (1+(za s 8).1)=2\/IntKind.wrap .i64 (1+(za s 8).1)=4\/IntKind.wrap .i64 (1+(za s 8).1)=5)->ChrP (n+100) (zbi s q3 q4 true):=fun hK=>by
  obtain⟨t,e1,e2,e3⟩:=y3z (N:=n+2+2+2) (by omega) (((za q4 4).1).toNat+1) _ hI (by show((za q4 4).1).toNat<_;omega);have hb:y90 s q3 q4 true (za q4 4).2=grpStep:=rfl;unfold zbi;simp only[bnd];rw[cond_true,hb,e1];exact mono (yr0 (K:=IntKind.wrap .i64 (1+(za s 8).1)) (by omega) hK hC e2 e3) (by omega)
 have qv:∀ (K:Int) (hK:K=6\/K=7),mkC K [] []∈famC/\mkC K [3] []∈famC/\mkC K [6] []∈famC/\mkC K [9] []∈famC/\mkC K [6] [76]∈famC:=fun K hK=>by rcases hK with rfl|rfl<;>decide +kernel
 have J3t:(IntKind.wrap .i64 (1+(za s 8).1)=6\/IntKind.wrap .i64 (1+(za s 8).1)=7)->ChrP (n+100) (zci s q3 q4 false true):=fun hK=>by
  obtain⟨f1,f2,f3,f4,f5⟩:=qv _ hK;have hx:=yvi (l:=([0,0,3,6,9]:List Int)) h4 (by omega) (by decide);have hq:=h4.among (l:=([0,0,3,6,9]:List Int)) (by omega);have ho:=hq.one (m:=2) (by omega);unfold zci;simp only[bnd];rw[cond_true];generalize (zk q4 ([0,0,3,6,9]:List Int)).2=q60 at hq ho ⊢;generalize (zk q4 ([0,0,3,6,9]:List Int)).1=x at hx ⊢;generalize (zn q60 2).2=q62 at ho ⊢;generalize (zn q60 2).1=b;simp only[List.mem_cons,List.not_mem_nil,or_false]at hx;rcases hx with rfl|rfl|rfl|rfl|rfl<;>cases b<;>simp only[Int.reduceLT,decide_true,decide_false,Int.reduceBEq,Bool.true_and,Bool.and_true,Bool.and_false,Bool.false_and,cond_true,cond_false,Int.lt_irrefl]<;>first|exact leaf _ _ _ _ ho (by omega) (by assumption)|exact leaf _ _ _ _ hq (by omega) (by assumption)
 have J3f:(IntKind.wrap .i64 (1+(za s 8).1)=8\/IntKind.wrap .i64 (1+(za s 8).1)=1\/IntKind.wrap .i64 (1+(za s 8).1)=3)->ChrP (n+100) (zci s q3 q4 false false):=fun hK=>by
  unfold zci;simp only[bnd];rw[cond_false]
  cases c8:(IntKind.wrap .i64 (1+(za s 8).1) == 8)with
  | true=>
   rw[beq_iff_eq]at c8;have hr:=yn 26 h4 (by omega);have hr2:=hr.2 (by omega);have hq:=h4.pick (m:=26) (by omega);have hall:((List.range 26).all fun m=>decide (mkC 8 [] (([IntKind.wrap .u8 (IntKind.wrap .i64 (65+(m:Int)))]:List Int).map fun z=>UInt8.ofNat z.toNat)∈famC))=true:=by decide +kernel
   have hm:mkC 8 [] (([IntKind.wrap .u8 (IntKind.wrap .i64 (65+(za q4 26).1))]:List Int).map fun z=>UInt8.ofNat z.toNat)∈famC:=by
    have:=of_decide_eq_true (List.all_eq_true.1 hall ((za q4 26).1).toNat (List.mem_range.2 (by omega)));rw[show(((za q4 26).1).toNat:Int)=(za q4 26).1 by omega]at this;exact this
   rw[cond_true];exact leaf _ _ _ _ hq (by omega) (by rw[c8];exact hm)
  | false=>
   rw[cond_false];rw[beq_eq_false_iff_ne]at c8;refine leaf _ _ _ _ h4 (by omega) ?_;rcases hK with e|e|e
   ·exact absurd e c8
   all_goals rw[e];decide +kernel
 have J2f:IntKind.wrap .i64 (1+(za s 8).1)≠2->IntKind.wrap .i64 (1+(za s 8).1)≠4->IntKind.wrap .i64 (1+(za s 8).1)≠5->ChrP (n+100) (zbi s q3 q4 false):=fun h2 h4 h5=>by
  unfold zbi;rw[cond_false]
  cases c6:(IntKind.wrap .i64 (1+(za s 8).1) == 6)with
  | true=>
   rw[beq_iff_eq]at c6;exact J3t (.inl c6)
  | false=>
  rw[cond_false]
  cases c7:(IntKind.wrap .i64 (1+(za s 8).1) == 7)with
  | true=>
   rw[beq_iff_eq]at c7;exact J3t (.inr c7)
  | false=>
   rw[beq_eq_false_iff_ne]at c6 c7;exact J3f (by omega)
 cases c2:(IntKind.wrap .i64 (1+(za s 8).1) == 2)with
 | true=>
  rw[beq_iff_eq]at c2;exact J2 (.inl c2)
 | false=>
 rw[cond_false]
 cases c4:(IntKind.wrap .i64 (1+(za s 8).1) == 4)with
 | true=>
  rw[beq_iff_eq]at c4;exact J2 (.inr (.inl c4))
 | false=>
 rw[cond_false]
 cases c5:(IntKind.wrap .i64 (1+(za s 8).1) == 5)with
 | true=>
  rw[beq_iff_eq]at c5;exact J2 (.inr (.inr c5))
 | false=>
  rw[beq_eq_false_iff_ne]at c2 c4 c5;exact J2f c2 c4 c5
theorem SrcOk.chr {n:Int} {s:l00Src} (h:SrcOk n s) (hn:n<=10000000):SrcOk (n+100) (zi s).2:=(yuy h hn).1
theorem ywcb {n:Int} {s:l00Src} (h:SrcOk n s) (hn:n<=10000000):1<=(((zi s).1.Colors).length:Int):=by
 have hc:=(yuy h hn).2.2.1;have:∀ x∈nineC,1<=x.length:=by decide
 have:=this _ hc;omega
theorem yabb {n:Int} {s:l00Src} (h:SrcOk n s) (hn:n<=10000000):bdCharacter (zi s).1:=by
 obtain⟨_,_,hc,hg,hl⟩:=yuy h hn;have:∀ x∈nineC,x.length<=3:=by decide
 have h3:=this _ hc;exact⟨by show List.length _<1099511627776;omega,by show List.length _<1099511627776;omega,by show List.length _<1099511627776;omega⟩
theorem y6x {n:Int} {s:l00Src} (h:SrcOk n s) (hn:n<=100000000):SrcOk (n+14) (zyb s).2/\zvc (zyb s).1=true:=by
 have hw:=yvi (l:=([20,100,100,100]:List Int)) h (by omega) (by decide);have h2:=h.among (l:=([20,100,100,100]:List Int)) (by omega)
 have hw:(zk s ([20,100,100,100]:List Int)).1=20\/(zk s ([20,100,100,100]:List Int)).1=100:=by
  simp only[List.mem_cons,List.not_mem_nil,or_false]at hw;omega
 unfold zyb;simp only[bnd];generalize (zk s ([20,100,100,100]:List Int)).2=q2 at h2 ⊢;generalize (zk s ([20,100,100,100]:List Int)).1=w at hw ⊢;have r1:=yn w h2 (by omega);have r12:=r1.2 (by omega);have h4:=h2.pick (m:=w) (by omega);generalize (za q2 w).2=q4 at h4 ⊢;generalize (za q2 w).1=x at r1 r12 ⊢;have r2:=yn w h4 (by omega);have r22:=r2.2 (by omega);have h6:=h4.pick (m:=w) (by omega);generalize (za q4 w).2=q6 at h6 ⊢;generalize (za q4 w).1=y at r2 r22 ⊢;have h8:=h6.one (m:=3) (by omega);generalize (zn q6 3).2=q8 at h8 ⊢;have wx:IntKind.wrap .i64 (10000+IntKind.wrap .i64 (x * 100))=10000+x * 100:=by rw[IntKind.wrap_i64,IntKind.wrap_i64];omega
 have wy:IntKind.wrap .i64 (10000+IntKind.wrap .i64 (y * 100))=10000+y * 100:=by rw[IntKind.wrap_i64,IntKind.wrap_i64];omega
 simp only[wx,wy];have r3:=yn 200 h8 (by omega);have r32:=r3.2 (by omega);have h10:=h8.pick (m:=200) (by omega)
 have ok:∀ a b:Int,0<=a->a<=200000->0<=b->b<=200000->zvc { X:=a,Y:=b }=true:=fun a b p q u v=>by
  unfold zvc zj;simp only[Bool.and_eq_true,decide_eq_true_eq];omega
 cases(zn q6 3).1 with
 | true=>
  rw[cond_true];generalize (za q8 200).2=q10 at h10 ⊢;generalize (za q8 200).1=u at r3 r32 ⊢;have wu:IntKind.wrap .i64 (10000+x * 100+u)=10000+x * 100+u:=by rw[IntKind.wrap_i64];omega
  simp only[wu];have h12:=h10.one (m:=3) (by omega);generalize (zn q10 3).2=q12 at h12 ⊢
  cases(zn q10 3).1 with
  | true=>
   rw[cond_true];have r4:=yn 200 h12 (by omega);have r42:=r4.2 (by omega);have h14:=h12.pick (m:=200) (by omega);have wv:IntKind.wrap .i64 (10000+y * 100+(za q12 200).1)=10000+y * 100+(za q12 200).1:=by rw[IntKind.wrap_i64];omega
   simp only[wv];exact⟨h14.mono (by omega),ok _ _ (by omega) (by omega) (by omega) (by omega)⟩
  | false=>exact⟨h12.mono (by omega),ok _ _ (by omega) (by omega) (by omega) (by omega)⟩
 | false=>
  rw[cond_false];have h12:=h8.one (m:=3) (by omega);generalize (zn q8 3).2=q12 at h12 ⊢
  cases(zn q8 3).1 with
  | true=>
   rw[cond_true];have r4:=yn 200 h12 (by omega);have r42:=r4.2 (by omega);have h14:=h12.pick (m:=200) (by omega);have wv:IntKind.wrap .i64 (10000+y * 100+(za q12 200).1)=10000+y * 100+(za q12 200).1:=by rw[IntKind.wrap_i64];omega
   simp only[wv];exact⟨h14.mono (by omega),ok _ _ (by omega) (by omega) (by omega) (by omega)⟩
  | false=>exact⟨h12.mono (by omega),ok _ _ (by omega) (by omega) (by omega) (by omega)⟩
theorem SrcOk.point {n:Int} {s:l00Src} (h:SrcOk n s) (hn:n<=100000000):SrcOk (n+14) (zyb s).2:=(y6x h hn).1
theorem yxl (a : List Sector) (hl : a.length <= 12) (h1 : ∀ i, i < a.length -> zkc (a.getD i default) = true) (h2 : ∀ i, i + 1 < a.length -> (a.getD i default).From < (a.getD (i + 1) default).From)
  (h3:1<a.length->∀ i,i<a.length->y5c (a.getD i default)<=((a.getD ((i+1) % a.length) default).From-(a.getD i default).From+360) % 360):zv a=true:=by
 have sp1:=y5d (b:=y6v a) (secQ a) (fun _ u=>u) false (k:=a.length-0) (i:=0) (s:=()) (fun j u _ _=>by cases u;rfl);rcases sp1 with⟨⟨j,_,hj,hq⟩,e1⟩|⟨hq,e1⟩
 ·have:=(y8q a j (by omega)).2 ⟨h1 j (by omega),fun h=>by have:=h2 (j-1) (by omega);rwa [show j-1+1=j by omega]at this⟩
  rw[this]at hq;cases hq
 ·have hb:∀ i,i<a.length->brg (a.getD i default).From/\brg (a.getD i default).To:=fun i hi=>ytq (h1 i hi)
  let q2 (j:Nat):Bool:=decide (1<a.length) && decide ((((a.getD ((j+1) % a.length) default).From-(a.getD j default).From+360) % 360)<y5c (a.getD j default))
  have sp2:=yqj (b:=y3q a ()) q2 false (if 1<a.length then a.length else 0) (fun j hj=>by
   simp only[y3q];by_cases hn:1<a.length
   ·rw[if_pos hn]at hj ⊢
    have d1:decide ((1:Int)<(a.length:Int))=true:=by simp;omega
    rw[d1,Bool.and_true];by_cases hjl:j<a.length
    ·have d2:decide ((j:Int)<(a.length:Int))=true:=by simp;omega
     rw[d2,decide_eq_true hjl];simp only[cond_true];have w1:IntKind.wrap .i64 ((j:Int)+1)=((j+1:Nat):Int):=by rw[IntKind.wrap_i64];omega
     have t1:((IntKind.wrap .i64 ((j:Int)+1)).tmod (a.length:Int)).toNat=(j+1) % a.length:=by
      rw[w1,Int.tmod_eq_emod_of_nonneg (by omega),show((j+1:Nat):Int) % (a.length:Int)=(((j+1) % a.length:Nat):Int)from rfl,Int.toNat_natCast]
     rw[t1,Int.toNat_natCast,ymx _ (hb j hjl).1 (hb j hjl).2,w1];have hm:(j+1) % a.length<a.length:=Nat.mod_lt _ (by omega);have b1:=(hb _ hm).1;have b2:=(hb j hjl).1;obtain⟨c1,c2⟩:=b1;obtain⟨c3,c4⟩:=b2;rw[w64 (x:=(a.getD ((j+1) % a.length) default).From-(a.getD j default).From) (by omega) (by omega),w64 (x:=(a.getD ((j+1) % a.length) default).From-(a.getD j default).From+360) (by omega) (by omega),Int.tmod_eq_emod_of_nonneg (by omega)];show _=bif q2 j then _ else _
     rw[show q2 j=decide ((((a.getD ((j+1) % a.length) default).From-(a.getD j default).From+360) % 360)<y5c (a.getD j default))from by show(decide (1<a.length) && _)=_;rw[decide_eq_true hn,Bool.true_and]]
    ·have d2:decide ((j:Int)<(a.length:Int))=false:=by simp;omega
     rw[d2,decide_eq_false hjl];rfl
   ·rw[if_neg hn]at hj ⊢
    have d1:decide ((1:Int)<(a.length:Int))=false:=by simp;omega
    have d3:decide (j<0)=false:=by simp
    rw[d1,Bool.and_false,d3]
    rfl) (if 1<a.length then a.length else 0) 0 (a.length-(0:Int).toNat+1) (by omega) (by simp;split<;>omega)
  have e0:((0:Nat):Int)=0:=rfl;rw[e0]at sp2;unfold zv;rw[decide_eq_false (show ¬ 12<(a.length:Int)by omega),cond_false,e1];simp only;rcases sp2 with⟨⟨j,_,hj,hq2⟩,e3⟩|⟨_,e3⟩
  ·exfalso
   by_cases hn:1<a.length
   ·rw[if_pos hn]at hj
    have hq3:(decide (1<a.length) && decide ((((a.getD ((j+1) % a.length) default).From-(a.getD j default).From+360) % 360)<y5c (a.getD j default)))=true:=hq2;rw[decide_eq_true hn,Bool.true_and]at hq3;have:=of_decide_eq_true hq3;have:=h3 hn j hj;omega
   ·rw[if_neg hn]at hj;omega
  ·rw[e3]
theorem ysm {α:Type} [Inhabited α] (l:List α) (x:α) (i:Nat) (h:i<l.length):(l++[x]).getD i default=l.getD i default:=by
 rw[List.getD_eq_getElem?_getD,List.getD_eq_getElem?_getD,List.getElem?_append_left h]
theorem y6t {α:Type} [Inhabited α] (l:List α) (x:α):(l++[x]).getD l.length default=x:=by
 rw[List.getD_eq_getElem?_getD,List.getElem?_append_right (Nat.le_refl _)];simp
structure SecO (start at_:Int) (l:List Sector):Prop where
 o:∀ i,i<l.length->zkc (l.getD i default)=true/\start<=(l.getD i default).From/\(l.getD i default).From+y5c (l.getD i default)<=start+360 /\
  (i+1<l.length->(l.getD i default).From+y5c (l.getD i default)<=(l.getD (i+1) default).From)/\(l.getD i default).From+y5c (l.getD i default)<=at_
 z:0<l.length->(l.getD 0 default).From=start
 e:l.length=0->at_=start
theorem SecO.ok {start at_:Int} {l:List Sector} (h:SecO start at_ l) (hl:l.length<=12) (h0:0<=start):zv l=true:=by
 have hr:=fun i=>yqi (l.getD i default)
 refine yxl l hl (fun i hi=>(h.o i hi).1) (fun i hi=>by have:=(h.o i (by omega)).2.2.2.1 hi;have:=hr i;omega) (fun hn i hi => ?_);have hi1:=h.o i hi;have ri:=hr i;by_cases hlast:i+1=l.length
 ·rw[hlast,Nat.mod_self,h.z (by omega)]
  have h0':=h.o (i-1) (by omega);have r0:=hr (i-1);have hlt:=h0'.2.2.2.1 (by omega);rw[show i-1+1=i by omega]at hlt;have:=h0'.2.1;omega
 ·rw[Nat.mod_eq_of_lt (by omega)]
  have h1:=hi1.2.2.2.1 (by omega);have h2:=(h.o (i+1) (by omega)).2.2.1;have:=hr (i+1);omega
theorem SecO.snoc {start at_ w at2:Int} {l:List Sector} {c:List UInt8} (h:SecO start at_ l) (h0:0<=start) (hs:start<=at_) (h1:at_<=359) (w1:1<=w) (w2:w<=70) (h2:at_+w<=start+360) (hc:zjf c=true) (ha:at_+w<=at2) :
  SecO start at2 (l++[{ From:=at_,To:=(at_+w).tmod 360,Color:=c:Sector }]):=by
 have ht:(at_+w).tmod 360=(at_+w) % 360:=Int.tmod_eq_emod_of_nonneg (by omega)
 have harc:y5c ({ From:=at_,To:=(at_+w).tmod 360,Color:=c:Sector })=w:=by
  unfold y5c;simp only;rw[ht];rcases(show(at_+w) % 360=at_+w\/(at_+w) % 360=at_+w-360 by omega)with e|e<;>rw[e]<;>omega
 have hone:zkc ({ From:=at_,To:=(at_+w).tmod 360,Color:=c:Sector })=true:=by
  unfold zkc zug zj;simp only;rw[ht,hc];simp only[Bool.and_eq_true,decide_eq_true_eq];exact⟨⟨⟨by omega,by omega⟩,by omega,by omega⟩,trivial⟩
 refine⟨fun i hi => ?_,fun _ => ?_,fun h9=>by rw[List.length_append,List.length_singleton]at h9;omega⟩
 ·rw[List.length_append,List.length_singleton]at hi ⊢
  by_cases hl:i<l.length
  ·rw[ysm l _ i hl]
   obtain⟨q1,q2,q3,q4,q5⟩:=h.o i hl;refine⟨q1,q2,q3,fun h9 => ?_,by omega⟩;by_cases hl2:i+1<l.length
   ·rw[ysm l _ (i+1) hl2];exact q4 hl2
   ·rw[show i+1=l.length by omega,y6t]
    exact q5
  ·rw[show i=l.length by omega,y6t,harc]
   exact⟨hone,hs,h2,fun h9=>by omega,ha⟩
 ·by_cases hl:0<l.length
  ·rw[ysm l _ 0 hl];exact h.z hl
  ·have:=h.e (by omega)
   have hn:l=[]:=List.length_eq_zero_iff.1 (by omega);subst hn;exact this
theorem SecO.mono {start a b:Int} {l:List Sector} (h:SecO start a l) (hl:0<l.length) (hab:a<=b):SecO start b l:=
 ⟨fun i hi=>by obtain⟨q1,q2,q3,q4,q5⟩:=h.o i hi;exact⟨q1,q2,q3,q4,by omega⟩,h.z,fun h9=>by omega⟩
structure SecI (N start:Int) (s:Int×Int×l00Src×List Sector):Prop where
 a:start<=s.1
 b:s.1<=59+110 * (5-s.2.1)
 k0:0<=s.2.1
 k1:s.2.1<=5
 q:SrcOk (N+20 * (5-s.2.1)) s.2.2.1
 n:(s.2.2.2.length:Int)<=5-s.2.1
 o:SecO start s.1 s.2.2.2
def SecP (n:Int) (r:List Sector×l00Src):Prop:=SrcOk n r.2/\r.1.length<=5/\zv r.1=true
theorem yfab {n:Int} {s:l00Src} (h:SrcOk n s) (hn:n<=2000000000):zjf (zx s [[87],[82],[71],[89]]).1=true:=by
 have:=ydl (l:=([[87],[82],[71],[89]]:List (List UInt8))) h hn (by decide);generalize (zx s ([[87],[82],[71],[89]]:List (List UInt8))).1=x at this;have hs:∀ y∈([[87],[82],[71],[89]]:List (List UInt8)),zjf y=true:=by decide +kernel
 exact hs x this
theorem yj7 {N start:Int} (a0 q2 q8 q10:l00Src) (hst:(za q2 60).1=start) (h0:0<=start) (h59:start<=59) (hN:N<=100000000) (k:Nat) (s:Int×Int×l00Src×List Sector) (h:SecI N start s) (hk:s.2.1.toNat<k) :
  ∃ t,yab (y6u a0 q2 q8 q10) k s=.error (.inr t)/\SrcOk (N+130) t.2.2.1/\t.2.2.2.length<=5/\∃ z,SecO start z t.2.2.2:=by
 obtain⟨e,h1,t,rfl,h2⟩:=yqg (b:=y6u a0 q2 q8 q10) (SecI N start) (fun e=>∃ t,e=.inr t/\SrcOk (N+130) t.2.2.1/\t.2.2.2.length<=5/\∃ z,SecO start z t.2.2.2) (fun s=>s.2.1.toNat) (fun s h=>by
  obtain⟨at_,k,src,out⟩:=s;obtain⟨ha,hb,hk0,hk1,hs,hn,ho⟩:=h;simp only at ha hb hk0 hk1 hs hn ho;unfold y6u;simp only;rw[hst];by_cases hc:0<k
  ·rw[decide_eq_true hc,cond_true]
   have hr:=yn 70 hs (by omega);have hr2:=hr.2 (by omega);have hq:=hs.pick (m:=70) (by omega);generalize (za src 70).2=q20 at hq;generalize (za src 70).1=p at hr hr2;have w1:IntKind.wrap .i64 (p+1)=p+1:=by rw[IntKind.wrap_i64];omega
   have w2:IntKind.wrap .i64 (start+360)=start+360:=by rw[IntKind.wrap_i64];omega
   have w3:IntKind.wrap .i64 (at_+(p+1))=at_+(p+1):=by rw[IntKind.wrap_i64];omega
   have w4:IntKind.wrap .i64 (k-1)=k-1:=by rw[IntKind.wrap_i64];omega
   rw[w1,w2,w3,w4];simp only[bnd];by_cases hbr:start+360<at_+(p+1)\/359<at_
   ·have:(decide (start+360<at_+(p+1)) || decide (359<at_))=true:=by simp;exact hbr
    rw[this,cond_true];exact .inr ⟨_,rfl,_,rfl,hq.mono (by show _<=N+130;omega),by show out.length<=5;omega,at_,ho⟩
   ·have:(decide (start+360<at_+(p+1)) || decide (359<at_))=false:=by simp;omega
    rw[this,cond_false];left
    have hcol:=yfab hq (by omega);have hq2:=hq.text (l:=[[87],[82],[71],[89]]) (by omega);generalize (zx q20 [[87],[82],[71],[89]]).2=q22 at hq2;generalize (zx q20 [[87],[82],[71],[89]]).1=c at hcol;have hq3:=hq2.one (m:=2) (by omega);generalize (zn q22 2).2=q24 at hq3;have hx:=ho.snoc (w:=p+1) (c:=c) (at2:=at_+(p+1)) h0 ha (by omega) (by omega) (by omega) (by omega) hcol (Int.le_refl _);have hlen:(out++[{ From:=at_,To:=(at_+(p+1)).tmod 360,Color:=c:Sector }]).length=out.length+1:=by rw[List.length_append,List.length_singleton]
    cases(zn q22 2).1 with
    | true=>
     rw[cond_true];have hr4:=yn 40 hq3 (by omega);have hr42:=hr4.2 (by omega);have hq4:=hq3.pick (m:=40) (by omega);have w5:IntKind.wrap .i64 (at_+(p+1)+(za q24 40).1)=at_+(p+1)+(za q24 40).1:=by rw[IntKind.wrap_i64];omega
     rw[w5];exact⟨_,rfl,⟨by show start<=at_+(p+1)+(za q24 40).1;omega,by show at_+(p+1)+(za q24 40).1<=59+110 * (5-(k-1));omega,by show 0<=k-1;omega,by show k-1<=5;omega,hq4.mono (by show _<=N+20 * (5-(k-1));omega),by show(List.length _:Int)<=5-(k-1);rw[hlen];omega,hx.mono (by rw[hlen];omega) (by show _<=at_+(p+1)+(za q24 40).1;omega)⟩,by show(k-1).toNat<k.toNat;omega⟩
    | false=>
     rw[cond_false];exact⟨_,rfl,⟨by show start<=at_+(p+1);omega,by show at_+(p+1)<=59+110 * (5-(k-1));omega,by show 0<=k-1;omega,by show k-1<=5;omega,hq3.mono (by show _<=N+20 * (5-(k-1));omega),by show(List.length _:Int)<=5-(k-1);rw[hlen];omega,hx⟩,by show(k-1).toNat<k.toNat;omega⟩
  ·rw[decide_eq_false hc,cond_false]
   exact .inr ⟨_,rfl,_,rfl,hs.mono (by show _<=N+130;omega),by show out.length<=5;omega,at_,ho⟩) k s h hk
 exact⟨t,h1,h2⟩
theorem y3y {n:Int} {s:l00Src} (h:SrcOk n s) (hn:n<=10000000):SecP (n+200) (zy s):=by
 have hr:=yn 6 h (by omega);have h2:=h.pick (m:=6) (by omega);unfold zy;simp only[bnd];generalize (za s 6).2=q2 at h2;generalize (za s 6).1=k at hr
 cases(k == 0)with
 | true=>rw[cond_true];exact⟨h2.mono (by show _<=n+200;omega),(by decide:([]:List Sector).length<=5),(by decide +kernel:zv ([]:List Sector)=true)⟩
 | false=>
  rw[cond_false]
  cases(k == 1)with
  | true=>
   rw[cond_true];have hr3:=yn 360 h2 (by omega);have hr32:=hr3.2 (by omega);have h4:=h2.pick (m:=360) (by omega);generalize (za q2 360).2=q4 at h4;generalize (za q2 360).1=p at hr3 hr32;have hc:=yfab h4 (by omega);have h6:=h4.text (l:=[[87],[82],[71],[89]]) (by omega);refine⟨h6.mono (by show _<=n+200;omega),by show(1:Nat)<=5;omega,yxl _ (by show(1:Nat)<=12;omega) (fun i hi => ?_) (fun i hi => ?_) (fun h9 => ?_)⟩
   ·have hi:i<1:=hi
    rw[show i=0 by omega];show zkc ({ From:=p,To:=p,Color:=_:Sector })=true;unfold zkc zug zj;simp only;rw[hc];simp only[Bool.and_eq_true,decide_eq_true_eq];exact⟨⟨⟨by omega,by omega⟩,by omega,by omega⟩,trivial⟩
   ·have hi:i+1<1:=hi
    omega
   ·have h9:1<1:=h9
    omega
  | false=>
   rw[cond_false];have hr3:=yn 60 h2 (by omega);have hr32:=hr3.2 (by omega);have h8:=h2.pick (m:=60) (by omega);have hr5:=yn 5 h8 (by omega);have hr52:=hr5.2 (by omega);have h10:=h8.pick (m:=5) (by omega);have w1:IntKind.wrap .i64 ((za (za q2 60).2 5).1+1)=(za (za q2 60).2 5).1+1:=by rw[IntKind.wrap_i64];omega
   rw[w1]
   obtain ⟨t, e1, e2, e3, z, e4⟩ := yj7 (N := n + 2 + 2 + 2) (start := (za q2 60).1) s q2 (za q2 60).2 (za (za q2 60).2 5).2 rfl hr3.1 (by omega) (by omega) (((za (za q2 60).2 5).1 + 1).toNat + 1) ((za q2 60).1, (za (za q2 60).2 5).1 + 1, (za (za q2 60).2 5).2, ([] : List Sector))
    ⟨by show(za q2 60).1<=(za q2 60).1;omega,by show(za q2 60).1<=59+110 * (5-((za (za q2 60).2 5).1+1));omega,by show 0<=(za (za q2 60).2 5).1+1;omega,by show(za (za q2 60).2 5).1+1<=5;omega,h10.mono (by show _<=n+2+2+2+20 * (5-((za (za q2 60).2 5).1+1));omega),by show((0:Nat):Int)<=5-((za (za q2 60).2 5).1+1);omega,⟨fun i hi=>absurd hi (by simp),fun h=>absurd h (by simp),fun _=>rfl⟩⟩ (by show((za (za q2 60).2 5).1+1).toNat<_;omega)
   rw[e1];exact⟨e2.mono (by show _<=n+200;omega),e3,e4.ok (by omega) hr3.1⟩
theorem SrcOk.sectors {n:Int} {s:l00Src} (h:SrcOk n s) (hn:n<=10000000):SrcOk (n+200) (zy s).2:=(y3y h hn).1
theorem yi5 {n:Int} {s:l00Src} (h:SrcOk n s) (hn:n<=10000000):(zy s).1.length<1099511627776:=by
 have:=(y3y h hn).2.1;omega
theorem yc4 {n:Int} {s:l00Src} (h:SrcOk n s) (hn:n<=10000000):∀ v∈(zy s).1,bdSector v:=fun v hv=>by
 have hr:=(y7d (y3y h hn).2.2).2;obtain⟨i,hi,rfl⟩:=List.getElem_of_mem hv;have:=(hr i).2.2.2.2;rw[List.getD_eq_getElem?_getD,List.getElem?_eq_getElem hi]at this;show List.length _<1099511627776;simp only[Option.getD_some]at this;omega
theorem y9cb {n:Int} {s:l00Src} {v:Sector} (hv:v∈(zy s).1) (h:SrcOk n s) (hn:n<=10000000):bdSector v:=yc4 h hn v hv
def zr (a0:l00Src):Aid×l00Src:=
 (bnd ((za a0 30).2) fun q2=>(bnd ((zx q2 [[114,111,99,107],[101,97,115,116],[112,105,101,114],[98,97,114],[99,97,112,101]]).2) fun q4=>(bnd ((zyb q4).2) fun q6=>(bnd ((za q6 500).2) fun q8=>(bnd ((zn q8 2).2) fun q10=>(bif ((zn q8 2).1)then(bnd ((za q10 9).2) fun q12=>(bif (((zlf (IntKind.wrap .i64 (((za q10 9).1)+1))).2) == 0)then(bnd ((zn q12 5).2) fun q14=>(bif ((zn q12 5).1)then({ Number:=IntKind.wrap .i64 (((za a0 30).1)+1),Name:=((zx q2 [[114,111,99,107],[101,97,115,116],[112,105,101,114],[98,97,114],[99,97,112,101]]).1),At:=((zyb q4).1),Height:=((za q6 500).1),Mark:=(zlf (IntKind.wrap .i64 (((za q10 9).1)+1))).1,Light:={ Kind:=0,Group:=[],Letter:=[],Colors:=[],Period:=0:Character },Sectors:=[],Intensity:=0:Aid },q14)else(bnd ((zi q14).2) fun q16=>(bnd ((zk q16 ([10,1000,20000,1000000,1]:List Int)).2) fun q18=>(bnd ((zn q18 2).2) fun q20=>(bif ((zn q18 2).1)then({ Number:=IntKind.wrap .i64 (((za a0 30).1)+1),Name:=((zx q2 [[114,111,99,107],[101,97,115,116],[112,105,101,114],[98,97,114],[99,97,112,101]]).1),At:=((zyb q4).1),Height:=((za q6 500).1),Mark:=(zlf (IntKind.wrap .i64 (((za q10 9).1)+1))).1,Light:={ Kind:=((zi q14).1).Kind,Group:=((zi q14).1).Group,Letter:=((zi q14).1).Letter,Colors:=(((zi q14).1).Colors).take 1,Period:=((zi q14).1).Period:Character },Sectors:=[],Intensity:=((zk q16 ([10,1000,20000,1000000,1]:List Int)).1):Aid },q20)else(bnd ((zy q20).2) fun q22=>(bif ((((zy q20).1).length:Int) == 0)then({ Number:=IntKind.wrap .i64 (((za a0 30).1)+1),Name:=((zx q2 [[114,111,99,107],[101,97,115,116],[112,105,101,114],[98,97,114],[99,97,112,101]]).1),At:=((zyb q4).1),Height:=((za q6 500).1),Mark:=(zlf (IntKind.wrap .i64 (((za q10 9).1)+1))).1,Light:={ Kind:=((zi q14).1).Kind,Group:=((zi q14).1).Group,Letter:=((zi q14).1).Letter,Colors:=(((zi q14).1).Colors).take 1,Period:=((zi q14).1).Period:Character },Sectors:=((zy q20).1),Intensity:=((zk q16 ([10,1000,20000,1000000,1]:List Int)).1):Aid },q22)else(bif decide (3<((zib ((zy q20).1)).length:Int))then({ Number:=IntKind.wrap .i64 (((za a0 30).1)+1),Name:=((zx q2 [[114,111,99,107],[101,97,115,116],[112,105,101,114],[98,97,114],[99,97,112,101]]).1),At:=((zyb q4).1),Height:=((za q6 500).1),Mark:=(zlf (IntKind.wrap .i64 (((za q10 9).1)+1))).1,Light:={ Kind:=((zi q14).1).Kind,Group:=((zi q14).1).Group,Letter:=((zi q14).1).Letter,Colors:=[71],Period:=((zi q14).1).Period:Character },Sectors:=[{ From:=10,To:=200,Color:=[71]:Sector }],Intensity:=((zk q16 ([10,1000,20000,1000000,1]:List Int)).1):Aid },q22)else({ Number:=IntKind.wrap .i64 (((za a0 30).1)+1),Name:=((zx q2 [[114,111,99,107],[101,97,115,116],[112,105,101,114],[98,97,114],[99,97,112,101]]).1),At:=((zyb q4).1),Height:=((za q6 500).1),Mark:=(zlf (IntKind.wrap .i64 (((za q10 9).1)+1))).1,Light:={ Kind:=((zi q14).1).Kind,Group:=((zi q14).1).Group,Letter:=((zi q14).1).Letter,Colors:=(zib ((zy q20).1)),Period:=((zi q14).1).Period:Character },Sectors:=((zy q20).1),Intensity:=((zk q16 ([10,1000,20000,1000000,1]:List Int)).1):Aid },q22))))))))))else(bnd ((zn q12 5).2) fun q24=>(bif ((zn q12 5).1)then({ Number:=IntKind.wrap .i64 (((za a0 30).1)+1),Name:=((zx q2 [[114,111,99,107],[101,97,115,116],[112,105,101,114],[98,97,114],[99,97,112,101]]).1),At:=((zyb q4).1),Height:=((za q6 500).1),Mark:={ Kind:=0,Colors:=[],Shape:=[],Topmark:=[]:Mark },Light:={ Kind:=0,Group:=[],Letter:=[],Colors:=[],Period:=0:Character },Sectors:=[],Intensity:=0:Aid },q24)else(bnd ((zi q24).2) fun q26=>(bnd ((zk q26 ([10,1000,20000,1000000,1]:List Int)).2) fun q28=>(bnd ((zn q28 2).2) fun q30=>(bif ((zn q28 2).1)then({ Number:=IntKind.wrap .i64 (((za a0 30).1)+1),Name:=((zx q2 [[114,111,99,107],[101,97,115,116],[112,105,101,114],[98,97,114],[99,97,112,101]]).1),At:=((zyb q4).1),Height:=((za q6 500).1),Mark:={ Kind:=0,Colors:=[],Shape:=[],Topmark:=[]:Mark },Light:={ Kind:=((zi q24).1).Kind,Group:=((zi q24).1).Group,Letter:=((zi q24).1).Letter,Colors:=(((zi q24).1).Colors).take 1,Period:=((zi q24).1).Period:Character },Sectors:=[],Intensity:=((zk q26 ([10,1000,20000,1000000,1]:List Int)).1):Aid },q30)else(bnd ((zy q30).2) fun q32=>(bif ((((zy q30).1).length:Int) == 0)then({ Number:=IntKind.wrap .i64 (((za a0 30).1)+1),Name:=((zx q2 [[114,111,99,107],[101,97,115,116],[112,105,101,114],[98,97,114],[99,97,112,101]]).1),At:=((zyb q4).1),Height:=((za q6 500).1),Mark:={ Kind:=0,Colors:=[],Shape:=[],Topmark:=[]:Mark },Light:={ Kind:=((zi q24).1).Kind,Group:=((zi q24).1).Group,Letter:=((zi q24).1).Letter,Colors:=(((zi q24).1).Colors).take 1,Period:=((zi q24).1).Period:Character },Sectors:=((zy q30).1),Intensity:=((zk q26 ([10,1000,20000,1000000,1]:List Int)).1):Aid },q32)else(bif decide (3<((zib ((zy q30).1)).length:Int))then({ Number:=IntKind.wrap .i64 (((za a0 30).1)+1),Name:=((zx q2 [[114,111,99,107],[101,97,115,116],[112,105,101,114],[98,97,114],[99,97,112,101]]).1),At:=((zyb q4).1),Height:=((za q6 500).1),Mark:={ Kind:=0,Colors:=[],Shape:=[],Topmark:=[]:Mark },Light:={ Kind:=((zi q24).1).Kind,Group:=((zi q24).1).Group,Letter:=((zi q24).1).Letter,Colors:=[71],Period:=((zi q24).1).Period:Character },Sectors:=[{ From:=10,To:=200,Color:=[71]:Sector }],Intensity:=((zk q26 ([10,1000,20000,1000000,1]:List Int)).1):Aid },q32)else({ Number:=IntKind.wrap .i64 (((za a0 30).1)+1),Name:=((zx q2 [[114,111,99,107],[101,97,115,116],[112,105,101,114],[98,97,114],[99,97,112,101]]).1),At:=((zyb q4).1),Height:=((za q6 500).1),Mark:={ Kind:=0,Colors:=[],Shape:=[],Topmark:=[]:Mark },Light:={ Kind:=((zi q24).1).Kind,Group:=((zi q24).1).Group,Letter:=((zi q24).1).Letter,Colors:=(zib ((zy q30).1)),Period:=((zi q24).1).Period:Character },Sectors:=((zy q30).1),Intensity:=((zk q26 ([10,1000,20000,1000000,1]:List Int)).1):Aid },q32))))))))))))else(bnd ((zn q10 5).2) fun q34=>(bif ((zn q10 5).1)then({ Number:=IntKind.wrap .i64 (((za a0 30).1)+1),Name:=((zx q2 [[114,111,99,107],[101,97,115,116],[112,105,101,114],[98,97,114],[99,97,112,101]]).1),At:=((zyb q4).1),Height:=((za q6 500).1),Mark:={ Kind:=0,Colors:=[],Shape:=[],Topmark:=[]:Mark },Light:={ Kind:=0,Group:=[],Letter:=[],Colors:=[],Period:=0:Character },Sectors:=[],Intensity:=0:Aid },q34)else(bnd ((zi q34).2) fun q36=>(bnd ((zk q36 ([10,1000,20000,1000000,1]:List Int)).2) fun q38=>(bnd ((zn q38 2).2) fun q40=>(bif ((zn q38 2).1)then({ Number:=IntKind.wrap .i64 (((za a0 30).1)+1),Name:=((zx q2 [[114,111,99,107],[101,97,115,116],[112,105,101,114],[98,97,114],[99,97,112,101]]).1),At:=((zyb q4).1),Height:=((za q6 500).1),Mark:={ Kind:=0,Colors:=[],Shape:=[],Topmark:=[]:Mark },Light:={ Kind:=((zi q34).1).Kind,Group:=((zi q34).1).Group,Letter:=((zi q34).1).Letter,Colors:=(((zi q34).1).Colors).take 1,Period:=((zi q34).1).Period:Character },Sectors:=[],Intensity:=((zk q36 ([10,1000,20000,1000000,1]:List Int)).1):Aid },q40)else(bnd ((zy q40).2) fun q42=>(bif ((((zy q40).1).length:Int) == 0)then({ Number:=IntKind.wrap .i64 (((za a0 30).1)+1),Name:=((zx q2 [[114,111,99,107],[101,97,115,116],[112,105,101,114],[98,97,114],[99,97,112,101]]).1),At:=((zyb q4).1),Height:=((za q6 500).1),Mark:={ Kind:=0,Colors:=[],Shape:=[],Topmark:=[]:Mark },Light:={ Kind:=((zi q34).1).Kind,Group:=((zi q34).1).Group,Letter:=((zi q34).1).Letter,Colors:=(((zi q34).1).Colors).take 1,Period:=((zi q34).1).Period:Character },Sectors:=((zy q40).1),Intensity:=((zk q36 ([10,1000,20000,1000000,1]:List Int)).1):Aid },q42)else(bif decide (3<((zib ((zy q40).1)).length:Int))then({ Number:=IntKind.wrap .i64 (((za a0 30).1)+1),Name:=((zx q2 [[114,111,99,107],[101,97,115,116],[112,105,101,114],[98,97,114],[99,97,112,101]]).1),At:=((zyb q4).1),Height:=((za q6 500).1),Mark:={ Kind:=0,Colors:=[],Shape:=[],Topmark:=[]:Mark },Light:={ Kind:=((zi q34).1).Kind,Group:=((zi q34).1).Group,Letter:=((zi q34).1).Letter,Colors:=[71],Period:=((zi q34).1).Period:Character },Sectors:=[{ From:=10,To:=200,Color:=[71]:Sector }],Intensity:=((zk q36 ([10,1000,20000,1000000,1]:List Int)).1):Aid },q42)else({ Number:=IntKind.wrap .i64 (((za a0 30).1)+1),Name:=((zx q2 [[114,111,99,107],[101,97,115,116],[112,105,101,114],[98,97,114],[99,97,112,101]]).1),At:=((zyb q4).1),Height:=((za q6 500).1),Mark:={ Kind:=0,Colors:=[],Shape:=[],Topmark:=[]:Mark },Light:={ Kind:=((zi q34).1).Kind,Group:=((zi q34).1).Group,Letter:=((zi q34).1).Letter,Colors:=(zib ((zy q40).1)),Period:=((zi q34).1).Period:Character },Sectors:=((zy q40).1),Intensity:=((zk q36 ([10,1000,20000,1000000,1]:List Int)).1):Aid },q42))))))))))))))))
namespace N39
theorem DD:DOk Tryz.prog (Go.Ab.DD [(38,dM [true,false] D_za),(42,dM [true,false] D_zn),(83,dM [true,true] D_zx),(84,dM [true] D_zyb),(85,dP D_zlf),(86,dM [true] D_zi),(87,dM [true,true] D_zk),(88,dM [true] D_zy),(89,dP D_zib)]):=ya ylf.e <| ya y3l.e <| ya ydw.e <| ya yj9.e <| ya ya8.e <| ya y3bb.e <| ya yzv.e <| ya y4bb.e <| ya y8x.e <| yc _
abbrev dn:=cj @D_za.eq_1 <| cj @D_zn.eq_1 <| cj @D_zx.eq_1 <| cj @D_zyb.eq_1 <| cj @D_zlf.eq_1 <| cj @D_zi.eq_1 <| cj @D_zk.eq_1 <| cj @D_zy.eq_1 <| @D_zib.eq_1
theorem o1 {p:Prop} (h:p:=by(first|(refine SrcOk.mono (by repeat' first|assumption|exact SrcOk.next ‹_› | apply SrcOk.next|apply SrcOk.pick|apply SrcOk.one|apply SrcOk.among|apply SrcOk.text|apply SrcOk.colors|apply SrcOk.point|apply SrcOk.chr|apply SrcOk.sectors|apply SrcOk.aid|apply SrcOk.aids|apply SrcOk.notice|omega) (by omega))|(exact ywcb (by assumption) (by omega))|(exact yabb (by assumption) (by omega))|(exact yi5 (by assumption) (by omega))|(exact yc4 (by assumption) (by omega))|(exact y9cb (by assumption) (by assumption) (by omega)));first|done|fail):p:=h
theorem lx {p:Prop} (h:p:=by(exact lxx);first|done|fail):p:=h
set_option maxHeartbeats 2000000 in
set_option maxRecDepth 20000 in
theorem den (a0:l00Src) (hp0:SrcOk 500000 a0):DenM Tryz.prog 39 [.op (yt a0)] (.agg (eAid ((zr a0).1))) [(.op (yt ((zr a0).2)))]:=by
 generalize hR:zr a0=r;unfold zr at hR;refine djL (gb:=[true]) Tryz.func39 Tryz.ntmps39 Tryz.results39 ?_;intro c hL hc hk;obtain⟨hL0,_⟩:=hL;have hw0:bwl00Src a0:=ykb a0 hL0;clear hL0;simp only[adEL,adE,adRL,adR,ownL,encL,sv,List.nil_append,List.append_nil,List.cons_append,List.length_cons,List.length_nil,pars,Nat.zero_add,Nat.reduceAdd]at hk ⊢;iterate 2 refine rS ?_
 generalize hq2:(za a0 30).2=q2 at hR ⊢;replace hR:=bn hR;have hS_q2:SrcOk (500002) q2:=by rw[<- hq2];exact SrcOk.pick hp0 (by omega)
 refine rS ?_;generalize hq4:(zx q2 [[114,111,99,107],[101,97,115,116],[112,105,101,114],[98,97,114],[99,97,112,101]]).2=q4 at hR ⊢;replace hR:=bn hR;have hS_q4:SrcOk (500004) q4:=by rw[<- hq4];exact SrcOk.text hS_q2 (by omega)
 refine rS ?_;generalize hq6:(zyb q4).2=q6 at hR ⊢;replace hR:=bn hR;have hS_q6:SrcOk (500018) q6:=by rw[<- hq6];exact SrcOk.point hS_q4 (by omega)
 refine rS ?_;generalize hq8:(za q6 500).2=q8 at hR ⊢;replace hR:=bn hR;have hS_q8:SrcOk (500020) q8:=by rw[<- hq8];exact SrcOk.pick hS_q6 (by omega)
 refine rS ?_;generalize hq10:(zn q8 2).2=q10 at hR ⊢;replace hR:=bn hR;have hS_q10:SrcOk (500022) q10:=by rw[<- hq10];exact SrcOk.one hS_q8 (by omega)
 refine yb ?_ ?_<;>intro hb
 ·replace hR:=ct hR
  refine rS ?_;generalize hq12:(za q10 9).2=q12 at hR ⊢;replace hR:=bn hR;have hS_q12:SrcOk (500024) q12:=by rw[<- hq12];exact SrcOk.pick hS_q10 (by omega)
  refine rS ?_;refine yb ?_ ?_<;>intro hb
  ·replace hR:=ct hR
   iterate 2 refine rS ?_
   generalize hq14:(zn q12 5).2=q14 at hR ⊢;replace hR:=bn hR;have hS_q14:SrcOk (500026) q14:=by rw[<- hq14];exact SrcOk.one hS_q12 (by omega)
   refine yb ?_ ?_<;>intro hb
   ·replace hR:=ct hR
    exact y1h
   ·replace hR:=cf hR
    refine rS ?_;generalize hq16:(zi q14).2=q16 at hR ⊢;replace hR:=bn hR;have hS_q16:SrcOk (500126) q16:=by rw[<- hq16];exact SrcOk.chr hS_q14 (by omega)
    refine rS ?_;generalize hq18:(zk q16 ([10,1000,20000,1000000,1]:List Int)).2=q18 at hR ⊢;replace hR:=bn hR;have hS_q18:SrcOk (500128) q18:=by rw[<- hq18];exact SrcOk.among hS_q16 (by omega)
    refine rS ?_;generalize hq20:(zn q18 2).2=q20 at hR ⊢;replace hR:=bn hR;have hS_q20:SrcOk (500130) q20:=by rw[<- hq20];exact SrcOk.one hS_q18 (by omega)
    refine yb ?_ ?_<;>intro hb
    ·replace hR:=ct hR
     refine rS ?_;exact y1h
    ·replace hR:=cf hR
     refine rS ?_;generalize hq22:(zy q20).2=q22 at hR ⊢;replace hR:=bn hR;have hS_q22:SrcOk (500330) q22:=by rw[<- hq22];exact SrcOk.sectors hS_q20 (by omega)
     refine rS ?_;refine yb ?_ ?_<;>intro hb
     ·replace hR:=ct hR
      refine rS ?_;exact y1h
     ·replace hR:=cf hR
      iterate 2 refine rS ?_
      refine yb ?_ ?_<;>intro hb
      ·replace hR:=ct hR
       iterate 3 refine rS ?_
       exact y1h
      ·replace hR:=cf hR
       refine rS ?_;exact y1h
  ·replace hR:=cf hR
   refine rS ?_;generalize hq24:(zn q12 5).2=q24 at hR ⊢;replace hR:=bn hR;have hS_q24:SrcOk (500026) q24:=by rw[<- hq24];exact SrcOk.one hS_q12 (by omega)
   refine yb ?_ ?_<;>intro hb
   ·replace hR:=ct hR
    exact y1h
   ·replace hR:=cf hR
    refine rS ?_;generalize hq26:(zi q24).2=q26 at hR ⊢;replace hR:=bn hR;have hS_q26:SrcOk (500126) q26:=by rw[<- hq26];exact SrcOk.chr hS_q24 (by omega)
    refine rS ?_;generalize hq28:(zk q26 ([10,1000,20000,1000000,1]:List Int)).2=q28 at hR ⊢;replace hR:=bn hR;have hS_q28:SrcOk (500128) q28:=by rw[<- hq28];exact SrcOk.among hS_q26 (by omega)
    refine rS ?_;generalize hq30:(zn q28 2).2=q30 at hR ⊢;replace hR:=bn hR;have hS_q30:SrcOk (500130) q30:=by rw[<- hq30];exact SrcOk.one hS_q28 (by omega)
    refine yb ?_ ?_<;>intro hb
    ·replace hR:=ct hR
     refine rS ?_;exact y1h
    ·replace hR:=cf hR
     refine rS ?_;generalize hq32:(zy q30).2=q32 at hR ⊢;replace hR:=bn hR;have hS_q32:SrcOk (500330) q32:=by rw[<- hq32];exact SrcOk.sectors hS_q30 (by omega)
     refine rS ?_;refine yb ?_ ?_<;>intro hb
     ·replace hR:=ct hR
      refine rS ?_;exact y1h
     ·replace hR:=cf hR
      iterate 2 refine rS ?_
      refine yb ?_ ?_<;>intro hb
      ·replace hR:=ct hR
       iterate 3 refine rS ?_
       exact y1h
      ·replace hR:=cf hR
       refine rS ?_;exact y1h
 ·replace hR:=cf hR
  refine rS ?_;generalize hq34:(zn q10 5).2=q34 at hR ⊢;replace hR:=bn hR;have hS_q34:SrcOk (500024) q34:=by rw[<- hq34];exact SrcOk.one hS_q10 (by omega)
  refine yb ?_ ?_<;>intro hb
  ·replace hR:=ct hR
   exact y1h
  ·replace hR:=cf hR
   refine rS ?_;generalize hq36:(zi q34).2=q36 at hR ⊢;replace hR:=bn hR;have hS_q36:SrcOk (500124) q36:=by rw[<- hq36];exact SrcOk.chr hS_q34 (by omega)
   refine rS ?_;generalize hq38:(zk q36 ([10,1000,20000,1000000,1]:List Int)).2=q38 at hR ⊢;replace hR:=bn hR;have hS_q38:SrcOk (500126) q38:=by rw[<- hq38];exact SrcOk.among hS_q36 (by omega)
   refine rS ?_;generalize hq40:(zn q38 2).2=q40 at hR ⊢;replace hR:=bn hR;have hS_q40:SrcOk (500128) q40:=by rw[<- hq40];exact SrcOk.one hS_q38 (by omega)
   refine yb ?_ ?_<;>intro hb
   ·replace hR:=ct hR
    refine rS ?_;exact y1h
   ·replace hR:=cf hR
    refine rS ?_;generalize hq42:(zy q40).2=q42 at hR ⊢;replace hR:=bn hR;have hS_q42:SrcOk (500328) q42:=by rw[<- hq42];exact SrcOk.sectors hS_q40 (by omega)
    refine rS ?_;refine yb ?_ ?_<;>intro hb
    ·replace hR:=ct hR
     refine rS ?_;exact y1h
    ·replace hR:=cf hR
     iterate 2 refine rS ?_
     refine yb ?_ ?_<;>intro hb
     ·replace hR:=ct hR
      iterate 3 refine rS ?_
      exact y1h
     ·replace hR:=cf hR
      refine rS ?_;exact y1h
end N39
def D_zr : List AV -> Option (AV × List AV × List Prop)
 | [x0]=>some (.agg (eAid ((zr (rdQ yx x0)).1)),[(.op (yt ((zr (rdQ yx x0)).2)))],[wQ yt yx x0,SrcOk 500000 (rdQ yx x0)])
 | _=>none
theorem yw3:OkM Tryz.prog 39 D_zr:=by unfold D_zr;exact dm N39.den
end Go.Ab
