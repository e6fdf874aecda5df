/- A part of a proof: walks of functions and lemmas of our own. No conditions. -/
import Derived.Test.YthadgghdkkapaaaGreatDoorNAl
import Derived.Test.YthadgghdkkapaaaGreatDoorNAm
import Derived.Test.YthadgghdkkapaaaGreatDoorNBa
import Derived.Test.YthadgghdkkapaaaGreatDoorNAt
import Derived.Test.YthadgghdkkapaaaGreatDoorNAv
import Derived.Test.YthadgghdkkapaaaGreatDoorNAq
set_option linter.unusedSectionVars false
set_option linter.unusedVariables false
set_option linter.unusedSimpArgs false
set_option maxHeartbeats 1000000
namespace Go.Ab
open Go Go.Proofs
def zdg (a0:(List Int)) (a1:(List Int)):Bool:=
 (bif (zyf a0 a1)then true else(bif (((((((((zab (zn a0) ([]:List Notice) (IntKind.wrap .i64 (90+(zbb a1 0 250)))).2) != 0) || (!(zyc ((zab (zn a0) ([]:List Notice) (IntKind.wrap .i64 (90+(zbb a1 0 250)))).1) (zn a0)))) || (((zab (zn a0) (zgb a1 (zn a0)) 0).2) != 0)) || (!(zyc ((zab (zn a0) (zgb a1 (zn a0)) 0).1) (zn a0)))) || (((zqd (zn a0) (zgb a1 (zn a0)) (IntKind.wrap .i64 (90+(zbb a1 0 250)))).2) != 0)) || (!((((zqd (zn a0) (zgb a1 (zn a0)) (IntKind.wrap .i64 (90+(zbb a1 0 250)))).1) == 0) == (((zab (zn a0) (zgb a1 (zn a0)) (IntKind.wrap .i64 (90+(zbb a1 0 250)))).2) == 0)))) || (((zqc ({ Number:=7,Day:=0,Aids:=(zn a0):Edition }) (zgb a1 (zn a0)) (IntKind.wrap .i64 (90+(zbb a1 0 250)))).2) != ((zab (zn a0) (zgb a1 (zn a0)) (IntKind.wrap .i64 (90+(zbb a1 0 250)))).2)))then false else(bif ((((zhc (zgb a1 (zn a0)) (IntKind.wrap .i64 (90+(zbb a1 0 250)))).2) != 0) || ((((zqd (zn a0) (zgb a1 (zn a0)) (IntKind.wrap .i64 (90+(zbb a1 0 250)))).1) != 0) && (!(zrd ((zhc (zgb a1 (zn a0)) (IntKind.wrap .i64 (90+(zbb a1 0 250)))).1) ((zqd (zn a0) (zgb a1 (zn a0)) (IntKind.wrap .i64 (90+(zbb a1 0 250)))).1)))))then false else((((zab (zn a0) (zgb a1 (zn a0)) (IntKind.wrap .i64 (90+(zbb a1 0 250)))).2) != 0) || ((((zxf ((zab (zn a0) (zgb a1 (zn a0)) (IntKind.wrap .i64 (90+(zbb a1 0 250)))).1)) && ((((zqc ({ Number:=7,Day:=0,Aids:=(zn a0):Edition }) (zgb a1 (zn a0)) (IntKind.wrap .i64 (90+(zbb a1 0 250)))).1).Number) == 8)) && ((((zqc ({ Number:=7,Day:=0,Aids:=(zn a0):Edition }) (zgb a1 (zn a0)) (IntKind.wrap .i64 (90+(zbb a1 0 250)))).1).Day) == (IntKind.wrap .i64 (90+(zbb a1 0 250))))) && (zyc (((zqc ({ Number:=7,Day:=0,Aids:=(zn a0):Edition }) (zgb a1 (zn a0)) (IntKind.wrap .i64 (90+(zbb a1 0 250)))).1).Aids) ((zab (zn a0) (zgb a1 (zn a0)) (IntKind.wrap .i64 (90+(zbb a1 0 250)))).1)))))))
namespace N6
theorem DD:DOk Tryz.prog (Go.Ab.DD [(32,dP D_zyf),(33,dP D_zn),(34,dP D_zgb),(35,dP D_zbb),(36,dP D_zab),(37,dP D_zqd),(38,dP D_zqc),(39,dP D_zyc),(40,dP D_zhc),(41,dP D_zrd),(42,dP D_zxf)]):=ya yvv.e <| ya y10.e <| ya y5y.e <| ya y2v.e <| ya y4p.e <| ya ypv.e <| ya y0y.e <| ya ynv.e <| ya yaw.e <| ya y7x.e <| ya yuw.e <| ye _
theorem dn:type_of% (And.intro @D_zyf.eq_1 <| And.intro @D_zn.eq_1 <| And.intro @D_zgb.eq_1 <| And.intro @D_zbb.eq_1 <| And.intro @D_zab.eq_1 <| And.intro @D_zqd.eq_1 <| And.intro @D_zqc.eq_1 <| And.intro @D_zyc.eq_1 <| And.intro @D_zhc.eq_1 <| And.intro @D_zrd.eq_1 <| @D_zxf.eq_1):=by and_intros<;>intros<;>rfl
theorem o0 {p:Prop} (h:p:=by(first|((repeat' with_reducible apply And.intro)<;>first|with_reducible assumption|omega|(intros;first|with_reducible assumption|omega|((repeat' with_reducible apply And.intro)<;>first|with_reducible assumption|omega))));first|done|fail):p:=h
set_option maxHeartbeats 4000000 in
set_option maxRecDepth 20000 in
theorem _root_.Go.Ab.zdg_den (a0:(List Int)) (a1:(List Int)) (hp0:∀ v∈a0,0<=v/\v<=255) (hp1:∀ v∈a1,0<=v/\v<=255):Den Tryz.prog 6 [encL 1 eIu8 a0,encL 1 eIu8 a1] (.bool (zdg a0 a1)):=by
 generalize hR:zdg a0 a1=r;unfold zdg at hR;refine di Tryz.func6 Tryz.ntmps6 Tryz.results6 ?_;intro c hL hc hk;obtain⟨hL0,hL1,_⟩:=hL;have hw0:a0.length<9223372036854775808:=Nat.lt_succ_of_le (yb hL0).1;have hw1:a1.length<9223372036854775808:=Nat.lt_succ_of_le (yb hL1).1;clear hL0 hL1;simp only[pars,Nat.zero_add];obtain⟨hA,hA5⟩:=ygp a0 hp0;obtain⟨hN,hN5⟩:=yzu a1 (zn a0) hp1;have hAb:=fun v h=>(hA.2 v h).1
 have hNb:∀ v∈(zgb a1 (zn a0)),bdNotice v:=fun v h=>(hN.q v h).1
 have hW9:=yvh a1 hp1 0 250 (by omega) (by omega) (by omega);obtain⟨b1,b2⟩:=yff (l:=[]) (IntKind.wrap .i64 (90+(zbb a1 0 250))) hA (fun v h=>absurd h (by simp));obtain⟨b3,b4⟩:=yff 0 hA hN.q;obtain⟨b5,b6⟩:=yff (IntKind.wrap .i64 (90+(zbb a1 0 250))) hA hN.q;obtain⟨b7,b8⟩:=ykv 7 0 (IntKind.wrap .i64 (90+(zbb a1 0 250))) hA hN.q;have b9:=y1t (zgb a1 (zn a0)) (IntKind.wrap .i64 (90+(zbb a1 0 250)));iterate 2 refine rS ?_
 refine AWP.cond rfl (fun hb => ?_) (fun hb => ?_)
 ·replace hR:=ct hR
  refine rS ?_;refine AWP.ret ?_;subst hR;exact es
 ·replace hR:=cf hR
  refine rS ?_;refine AWP.lendV 5 0 (fun j=>eAid ((zn a0).getD j default)) rfl rfl (Nat.le_refl _) lv1 lv2 ?_;simp only[setE];iterate 3 refine rS ?_
  refine AWP.lendV 8 2 (fun j=>eAid (((zab (zn a0) ([]:List Notice) (IntKind.wrap .i64 (90+(zbb a1 0 250)))).1).getD j default)) rfl rfl (Nat.le_refl _) lv1 lv2 ?_;simp only[setE];refine rS ?_;refine AWP.lendV 10 3 (fun j=>eAid (((zab (zn a0) (zgb a1 (zn a0)) 0).1).getD j default)) rfl rfl (Nat.le_refl _) lv1 lv2 ?_;simp only[setE];refine rS ?_;refine AWP.lendV 12 4 (fun j=>eAid (((zab (zn a0) (zgb a1 (zn a0)) (IntKind.wrap .i64 (90+(zbb a1 0 250)))).1).getD j default)) rfl rfl (Nat.le_refl _) lv1 lv2 ?_;simp only[setE];iterate 4 refine rS ?_
  refine AWP.cond rfl (fun hb => ?_) (fun hb => ?_)
  ·replace hR:=ct hR
   refine rS ?_;refine AWP.ret ?_;subst hR;exact es
  ·replace hR:=cf hR
   iterate 2 refine rS ?_
   refine AWP.cond rfl (fun hb => ?_) (fun hb => ?_)
   ·replace hR:=ct hR
    refine rS ?_;refine AWP.ret ?_;subst hR;exact es
   ·replace hR:=cf hR
    refine rS ?_;refine AWP.ret ?_;subst hR;exact es
end N6
theorem y1k (a0 a1:List Int) (hp0:∀ v∈a0,0<=v/\v<=255) (hp1:∀ v∈a1,0<=v/\v<=255):zdg a0 a1=true:=by
 unfold zdg
 cases zyf a0 a1 with
 | true=>rfl
 | false=>
 rw[cond_false];have hA:okP AidQ (zn a0):=(ygp a0 hp0).1;have hN:NtsP (zgb a1 (zn a0)):=(yzu a1 _ hp1).1;have hW:=yvh a1 hp1 0 250 (by omega) (by omega) (by omega);have hw:IntKind.wrap .i64 (90+zbb a1 0 250)=90+zbb a1 0 250:=by rw[IntKind.wrap_i64];omega
 rw[hw];generalize zn a0=A at hA hN ⊢;generalize zgb a1 A=l at hN ⊢;generalize hd:90+zbb a1 0 250=d;have d0:90<=d:=by omega
 have d1:d<=339:=by omega
 have c1:zoc A [] d=0:=yap hA NtsP.nil (by omega) (by omega);have c2:zoc A l 0=0:=yap hA hN (by omega) (by omega);have c3:zoc A l d=0:=yap hA hN (by omega) (by omega);have f1:zk [] d=[]:=List.length_eq_zero_iff.1 (Nat.le_zero.1 (ygc [] d))
 have f2:zk l 0=[]:=by
  rw[y0j,List.filter_eq_nil_iff];intro n hn;have:=hN.d n hn;unfold inF;rw[decide_eq_false (show ¬ n.Day<=0 by omega)];simp
 have e1:zab A [] d=(A,0):=by unfold zab;rw[c1,ypt f1];rfl
 have e2:zab A l 0=(A,0):=by unfold zab;rw[c2,ypt f2];rfl
 have e3:=y1r hN (d:=d) (by omega) (by omega)
 have ve:zaf { Number:=7,Day:=0,Aids:=A:Edition }=true:=by
  unfold zaf;rw[ymc A (fun v h=>(hA.2 v h).l),(y8f A).2 hA.1];show(zjc 7 && zib 0 && true)=true;decide
 have vn:zfb l=true:=by rw[ytd l (fun n h=>(hN.q n h).l),hN.ok]
 have vd:=yjl (d:=d) (by omega) (by omega);have dn:(decide (d<0) || ((7:Int) == 9999))=false:=by rw[decide_eq_false (by omega)];decide
 rcases y4m (d:=d) hA hN.q with⟨s,h1,h2⟩|⟨n,h1,c,h2,h3⟩
 ·have e4:zab A l d=(s,0):=by unfold zab;rw[c3,h1];rfl
  have e5:zqd A l d=(0,0):=by unfold zqd;rw[c3,h1];rfl
  have e6:zqc { Number:=7,Day:=0,Aids:=A:Edition } l d=({ Number:=8,Day:=d,Aids:=s:Edition },0):=by
   unfold zqc;simp only[ve,vn,vd,dn,e4];rfl
  have e7:zxf s=true:=(y8f s).2 h2.1;simp only[e1,e2,e3,e4,e5,e6,e7,yzj];simp
 ·have e4:zab A l d=([],c):=by unfold zab;rw[c3,h3];rfl
  have e5:zqd A l d=(n.Number,0):=by unfold zqd;rw[c3,h3];rfl
  have hc:(c != 0)=true:=by simpa using h2
  have hc2:(c == 0)=false:=by simpa using h2
  have e6:(zqc { Number:=7,Day:=0,Aids:=A:Edition } l d).2=c:=by
   unfold zqc;simp only[ve,vn,vd,dn,e4,hc];rfl
  have hm:n∈l:=by rw[y0j]at h1;exact(List.mem_filter.1 h1).1
  have hp:=yv0 ((yeu hN.ok).1 n hm);have hn0:(n.Number == 0)=false:=by rw[beq_eq_false_iff_ne];omega
  have hn1:(n.Number != 0)=true:=by rw[bne,hn0];rfl
  have hh:zrd ((zk l d).map fun n=>n.Number) n.Number=true:=yvw (List.mem_map_of_mem h1);simp only[e1,e2,e3,e4,e5,e6,yzj,hc,hc2,hn0,hn1,hh];simp
end Go.Ab
