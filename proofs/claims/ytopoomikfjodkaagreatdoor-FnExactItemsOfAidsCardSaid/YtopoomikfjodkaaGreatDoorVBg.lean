/- A part of a proof: walks of functions and lemmas of our own. No conditions. -/
import Derived.Test.YtopoomikfjodkaaGreatDoorVBf
import Derived.Test.YtopoomikfjodkaaGreatDoorVAy
import Derived.Test.YtopoomikfjodkaaGreatDoorVAp
import Derived.Test.YtopoomikfjodkaaGreatDoorVAs
import Derived.Test.YtopoomikfjodkaaGreatDoorVAt
import Derived.Test.YtopoomikfjodkaaGreatDoorVAl
import Derived.Test.YtopoomikfjodkaaGreatDoorVAi
import Derived.Test.YtopoomikfjodkaaGreatDoorVAo
import Derived.Test.YtopoomikfjodkaaGreatDoorVAz
set_option linter.unusedSectionVars false
set_option linter.unusedVariables false
set_option linter.unusedSimpArgs false
set_option maxHeartbeats 1000000
namespace Go.Ab
open Go Go.Proofs
theorem yp0 (g:List Int):zbd g=zuc g:=Bool.eq_iff_iff.2 ((ykj g).trans (yse g).symm)
theorem ykl (a:List UInt8):(zib a != [])=decide (a.length=1∧65≤(a.getD 0 0).toNat∧(a.getD 0 0).toNat≤90):=by
 rw[y8h]
 by_cases h:a.length=1∧65≤(a.getD 0 0).toNat∧(a.getD 0 0).toNat≤90
 ·rw[if_pos h,decide_eq_true h]
  have hlt:(a.getD 0 0).toNat-65<yvc.length:=by show _<26;omega
  rw[List.getD_eq_getElem?_getD,List.getElem?_eq_getElem hlt,Option.getD_some]
  have:=(yhg _ (List.getElem_mem hlt)).1
  rw[bne_iff_ne]
  intro h2;rw[h2]at this;simp at this
 ·rw[if_neg h,decide_eq_false h];rfl
theorem yd0 (L:List UInt8) (g:List Int) :
  (bif (L == [])then(((g.length:Int) == 0) || (((g.length:Int) == 1) && (zb (g.getD 0 default) 2 9)))else((L == [76]) && (zfc g [6]))) =
  (bif (L == [76])then(((g.length:Int) == 1) && ((g.getD 0 default) == 6))else(((L == []) && decide ((g.length:Int)≤1)) && (zuc g))):=by
 by_cases h1:L=[]
 ·subst h1
  simp only[show(([]:List UInt8) == [])=true from rfl,show(([]:List UInt8) == [76])=false from rfl,cond_true,cond_false,Bool.true_and]
  apply Bool.eq_iff_iff.2
  rw[Bool.and_eq_true,yse,decide_eq_true_eq]
  match g with
  | []=>simp[yyu]
  | [x]=>
   have e:((([x]:List Int).length:Int) == 0)=false:=rfl
   have e2:((([x]:List Int).length:Int) == 1)=true:=rfl
   rw[e,e2]
   simp only[Bool.false_or,Bool.true_and,zb,Bool.and_eq_true,decide_eq_true_eq,List.getD_cons_zero,yyu,List.length_singleton,List.mem_singleton,forall_eq,List.sum_cons,List.sum_nil,ne_eq,List.cons.injEq,and_true]
   omega
  | x::y::t=>
   have e:(((x::y::t).length:Int) == 0)=false:=by rw[beq_eq_false_iff_ne];simp only[List.length_cons];omega
   have e2:(((x::y::t).length:Int) == 1)=false:=by rw[beq_eq_false_iff_ne];simp only[List.length_cons];omega
   rw[e,e2]
   simp only[Bool.false_and,Bool.or_self,Bool.false_eq_true,false_iff,List.length_cons]
   omega
 ·have e1:(L == [])=false:=by simpa using h1
  rw[e1]
  by_cases h2:L=[76]
  ·subst h2
   simp only[BEq.rfl,cond_true,cond_false,Bool.true_and,yug]
   apply Bool.eq_iff_iff.2
   rw[Bool.and_eq_true,decide_eq_true_eq,beq_iff_eq,beq_iff_eq]
   constructor
   ·intro h;subst h;simp
   ·rintro⟨h3,h4⟩
    obtain⟨x,rfl⟩:=List.length_eq_one_iff.1 (show g.length=1 by omega)
    simp only[List.getD_cons_zero]at h4
    rw[h4]
  ·have e2:(L == [76])=false:=by simpa using h2
   rw[e2];simp
theorem yfy (c:Character) (hl:c.Colors.length<9223372036854775808):zze c=(zmb c.Colors && zz c):=by
 unfold zze zz zzg ze
 rw[y1w _ hl, ← yd0,yp0,ykl]
 cases znd c.Colors with
 | false=>simp
 | true=>
  simp only[Bool.not_true,Bool.or_false,Bool.true_and]
  rcases(show c.Kind=1∨c.Kind=2∨c.Kind=3∨c.Kind=4∨c.Kind=5∨c.Kind=6∨c.Kind=7∨c.Kind=8∨(c.Kind<1∨8<c.Kind)by omega)with h|h|h|h|h|h|h|h|h
  ·rw[h];rfl
  ·rw[h];rfl
  ·rw[h];rfl
  ·rw[h];rfl
  ·rw[h];rfl
  ·rw[h];rfl
  ·rw[h];rfl
  ·rw[h]
   show((((((c.Group.length:Int) == 0) && ((c.Letter.length:Int) == 1)) && decide (65≤((c.Letter.getD 0 0).toNat:Int))) && decide (((c.Letter.getD 0 0).toNat:Int)≤90)))=(decide (c.Letter.length=1∧65≤(c.Letter.getD 0 0).toNat∧(c.Letter.getD 0 0).toNat≤90) && ((c.Group.length:Int) == 0))
   apply Bool.eq_iff_iff.2
   simp only[Bool.and_eq_true,beq_iff_eq,decide_eq_true_eq]
   omega
  ·have e0:(decide (1≤c.Kind) && decide (c.Kind≤8))=false:=by
    rw[Bool.and_eq_false_iff,decide_eq_false_iff_not,decide_eq_false_iff_not];omega
   have e:∀ n:Int,1≤n→n≤8→(c.Kind == n)=false:=fun n h1 h2=>by rw[beq_eq_false_iff_ne];omega
   rw[e0,e 1 (by omega) (by omega),e 2 (by omega) (by omega),e 3 (by omega) (by omega),e 4 (by omega) (by omega),e 5 (by omega) (by omega),e 6 (by omega) (by omega),e 7 (by omega) (by omega),e 8 (by omega) (by omega)]
   rfl
theorem yj5 (l:List Int):zie l=zod l:=rfl
theorem ycj (c:Character):zlc c=zaf c:=rfl
theorem yin (c:Character) (h:zz c=true) (h8:c.Kind≠8):(c.Letter != [])=(c.Letter == [76]):=by
 unfold zz at h
 simp only[Bool.cond_eq_ite]at h
 have e8:(c.Kind == 8)=false:=by rw[beq_eq_false_iff_ne];exact h8
 repeat' split at h
 all_goals first
  | (rename_i q;rw[e8]at q;cases q;done)
  | (cases h;done)
  | (simp only[Bool.and_eq_true,beq_iff_eq]at h;rw[h.2];rfl)
  | (simp only[Bool.and_eq_true,beq_iff_eq]at h;rw[h.1];rfl)
  | (rename_i q;simp only[beq_iff_eq]at q;rw[q];rfl)
theorem y1v (k:Int) (h:k=2∨k=4∨k=5∨k=6∨k=7∨k=8):(zj k).1=zud k∧(zj k).2.1=zub k:=by
 rcases h with h|h|h|h|h|h<;>subst h<;>exact⟨rfl,rfl⟩
theorem y8x (c:Character) (h:zz c=true) (hk:c.Kind=2∨c.Kind=4∨c.Kind=5∨c.Kind=6∨c.Kind=7∨c.Kind=8):zi c=zf c:=by
 obtain⟨r1,r2⟩:=y1v c.Kind hk
 by_cases h8:c.Kind=8
 ·have hs:(zib c.Letter != [])=true:=by
   unfold zz at h
   rw[h8]at h
   have h:(((zib c.Letter) != []) && ((c.Group.length:Int) == 0))=true:=h
   rw[Bool.and_eq_true]at h
   exact h.1
  rw[ykl,decide_eq_true_eq]at hs
  have e1:=y8h c.Letter
  rw[if_pos hs]at e1
  have e2:=ysf ((c.Letter.getD 0 0).toNat:Int)
  rw[y0i _ (by omega) (by omega),show((((c.Letter.getD 0 0).toNat:Int)-65).toNat)=(c.Letter.getD 0 0).toNat-65 by omega]at e2
  have hd:(default:List UInt8)=[]:=rfl
  rw[hd]at e2
  have hall:∀ x∈yvc.getD ((c.Letter.getD 0 0).toNat-65) [],x=45∨x=46:=by
   have hlt:(c.Letter.getD 0 0).toNat-65<yvc.length:=by show _<26;omega
   rw[List.getD_eq_getElem?_getD,List.getElem?_eq_getElem hlt,Option.getD_some]
   exact(yhg _ (List.getElem_mem hlt)).2.2
  generalize yvc.getD ((c.Letter.getD 0 0).toNat-65) []=code at *
  have hb:yf (yhu c) code.length 0 []=yf (y0m c) code.length 0 []:=y6g _ _ _ (fun j u _ hj=>by
   unfold yhu y0m
   rw[e1,e2,r1,r2,h8]
   have hg:(code.map (fun c=>if c=46 then(5:Int)else 15)).getD j default=if code.getD j 0=46 then 5 else 15:=by
    rw[List.getD_eq_getElem?_getD,List.getD_eq_getElem?_getD,List.getElem?_map,List.getElem?_eq_getElem (by omega)]
    rfl
   rw[hg]
   have hm:=hall (code.getD j 0) (by rw[List.getD_eq_getElem?_getD,List.getElem?_eq_getElem (by omega),Option.getD_some];exact List.getElem_mem _)
   generalize code.getD j 0=x at hm
   rcases hm with hm|hm<;>subst hm<;>rfl)
  unfold zi zf
  rw[h8,e1,e2]
  simp only[List.length_map,Nat.sub_zero]
  rw[hb]
  rfl
 ·have e8:(c.Kind == 8)=false:=by rw[beq_eq_false_iff_ne];exact h8
  unfold zi zf
  rw[e8,yin c h h8,r2]
  have b3:ynu c=yyn c:=by
   funext i s j t
   unfold ynu yyn
   rw[r1,r2]
  have b5:y2u c=ymo c:=by
   funext i s j t
   unfold y2u ymo
   rw[r1,r2]
  have b2:ygu c=y3m c:=by
   funext i s
   unfold ygu y3m
   rw[b3]
   all_goals rfl
  have b4:y9t c=y7o c:=by
   funext i s
   unfold y9t y7o
   rw[b5]
   all_goals rfl
  rw[b2,b4]
  rfl
theorem yhr (c:Character) (h:zz c=true) (hs:zlc c=false):zlg c=zmf c:=by
 unfold zlg zmf
 rw[hs, ← ycj,hs]
 simp only[cond_false]
 by_cases h3:c.Kind=3
 ·rw[h3];rfl
 ·have e3:(c.Kind == 3)=false:=by rw[beq_eq_false_iff_ne];exact h3
  rw[e3]
  simp only[cond_false]
  have hk:c.Kind=2∨c.Kind=4∨c.Kind=5∨c.Kind=6∨c.Kind=7∨c.Kind=8:=by
   unfold zz at h
   unfold zlc at hs
   simp only[Bool.cond_eq_ite]at h
   simp only[Bool.or_eq_false_iff,beq_eq_false_iff_ne]at hs
   repeat' split at h
   all_goals (try simp only[beq_iff_eq]at *)
   all_goals first|omega|(cases h;done)
  rw[y8x c h hk,yj5]
  have hg:=(y7h c h).1
  have hone:c.Kind=6∨c.Kind=7∨c.Kind=8→c.Group.length≤1:=by
   intro hq
   unfold zz at h
   simp only[Bool.cond_eq_ite]at h
   repeat' split at h
   all_goals (try simp only[Bool.and_eq_true,Bool.or_eq_true,beq_iff_eq,yug,decide_eq_true_eq]at *)
   all_goals first|omega|(rcases h with h|h<;>omega)|(rw[h.2];simp)
  have e1:∀ n:Int,IntKind.wrap .i64 n=n∨True:=fun _=>.inr trivial
  unfold zkf
  rcases hk with hk|hk|hk|hk|hk|hk
  ·rw[hk]
   cases decide (1<(c.Group.length:Int))<;>rfl
  ·rw[hk]
   cases decide (1<(c.Group.length:Int))<;>rfl
  ·rw[hk]
   cases decide (1<(c.Group.length:Int))<;>rfl
  ·have:=hone (by omega)
   rw[hk,decide_eq_false (show ¬ 1<(c.Group.length:Int)by omega)];rfl
  ·have:=hone (by omega)
   rw[hk,decide_eq_false (show ¬ 1<(c.Group.length:Int)by omega)];rfl
  ·have:=hone (by omega)
   rw[hk,decide_eq_false (show ¬ 1<(c.Group.length:Int)by omega)];rfl
theorem ybi (c:Character) (hl:c.Colors.length<9223372036854775808):zgb c=zfe c:=by
 unfold zgb zfe
 rw[yfy c hl, ← ycj]
 cases h1:zmb c.Colors with
 | false=>rfl
 | true=>
  cases h2:zz c with
  | false=>rfl
  | true=>
   cases h3:zlc c with
   | true=>rfl
   | false=>
    rw[yhr c h2 h3]
    simp only[Bool.not_true,Bool.or_self,Bool.and_self,cond_false,zb,ze]
    cases h4:(c.Kind == 3)with
    | false=>
     have:(c.Kind != 3)=true:=by rw[bne,h4];rfl
     rw[this];simp
    | true=>
     have:(c.Kind != 3)=false:=by rw[bne,h4];rfl
     rw[this]
     simp only[Bool.false_or,Bool.true_and]
     cases h5:(c.Period.tmod 2 == 0)with
     | true=>
      have:(c.Period.tmod 2 != 0)=false:=by rw[bne,h5];rfl
      rw[this];simp
     | false=>
      have:(c.Period.tmod 2 != 0)=true:=by rw[bne,h5];rfl
      rw[this];simp
end Go.Ab

namespace Go.Ab
open Go Go.Proofs
theorem yp4 (s:List UInt8) (c:UInt8) : -1≤Go.Lib.indexByte s c∧(0≤Go.Lib.indexByte s c↔c∈s):=by
 induction s with
 | nil=>simp[Go.Lib.indexByte]
 | cons b l ih=>
  obtain⟨i1,i2⟩:=ih
  by_cases hb:b=c
  ·subst hb;simp[Go.Lib.indexByte]
  ·have hb2:¬ c=b:=fun h=>hb h.symm
   have e1:(b == c)=false:=by simpa using hb
   by_cases hm:c∈l
   ·have h0:=i2.2 hm
    have e2:(Go.Lib.indexByte l c == -1)=false:=by rw[beq_eq_false_iff_ne];omega
    have e3:Go.Lib.indexByte (b::l) c=Go.Lib.indexByte l c+1:=by simp only[Go.Lib.indexByte,e1,e2,Bool.false_eq_true,if_false]
    rw[e3]
    exact⟨by omega,fun _=>List.mem_cons_of_mem _ hm,fun _=>by omega⟩
   ·have h0:¬ 0≤Go.Lib.indexByte l c:=fun h=>hm (i2.1 h)
    have e0:Go.Lib.indexByte l c = -1:=by omega
    have e3:Go.Lib.indexByte (b::l) c = -1:=by simp only[Go.Lib.indexByte,e1,e0,Bool.false_eq_true,if_false];rfl
    rw[e3]
    refine⟨by omega,fun h=>by omega,fun h => ?_⟩
    rcases List.mem_cons.1 h with h|h
    ·exact absurd h hb2
    ·exact absurd h hm
theorem ysq (s:List UInt8) (c:UInt8):zkb s [c]=decide (c∈s):=by
 unfold zkb
 rw[List.getD_cons_zero]
 exact decide_eq_decide.2 (yp4 s c).2
theorem y9y (s:List UInt8) (c:UInt8):zkb (s++[c]) [c]=true:=by
 rw[ysq];simp
theorem yi5 (s:List UInt8) (b c:UInt8) (h:b≠c):zkb (s++[b]) [c]=zkb s [c]:=by
 rw[ysq,ysq]
 have:¬ c=b:=fun e=>h e.symm
 simp[this]
theorem yyr (c:UInt8) (g:Sector→List UInt8→Except (List UInt8) (List UInt8)) (hg:∀ x u,g x u=bif ((x.Color == [c]) && (!(zkb u [c])))then .ok (u++[c])else .ok u) :
  ∀ (l:List Sector) (u:List UInt8),zkb u [c]=true→yak g l u=.ok u
 | [],u,_=>rfl
 | x::l,u,h=>by
  rw[y9e,hg,h,Bool.not_true,Bool.and_false]
  exact yyr c g hg l u h
theorem ylv (c:UInt8) (g:Sector→List UInt8→Except (List UInt8) (List UInt8)) (hg:∀ x u,g x u=bif ((x.Color == [c]) && (!(zkb u [c])))then .ok (u++[c])else .ok u) :
  ∀ (l:List Sector) (u:List UInt8),zkb u [c]=false→yak g l u=.ok (bif l.any (fun x=>x.Color == [c])then u++[c]else u)
 | [],u,_=>rfl
 | x::l,u,h=>by
  rw[y9e,hg,h,Bool.not_false,Bool.and_true,List.any_cons]
  cases hx:(x.Color == [c])with
  | true=>
   simp only[cond_true,Bool.true_or]
   exact yyr c g hg l _ (y9y u c)
  | false=>
   simp only[cond_false,Bool.false_or]
   exact ylv c g hg l u h
theorem yhw (c:List UInt8) (g:Sector→List UInt8→Except (Sum (List UInt8) (List UInt8)) (List UInt8)) (hg:∀ x u,g x u=bif (x.Color == c)then .error (.inr (u++c))else .ok u) :
  ∀ (l:List Sector) (u:List UInt8),yak g l u=bif l.any (fun x=>x.Color == c)then .error (.inr (u++c))else .ok u
 | [],u=>rfl
 | x::l,u=>by
  rw[y9e,hg,List.any_cons]
  cases hx:(x.Color == c)with
  | true=>rfl
  | false=>
   simp only[cond_false,Bool.false_or]
   exact yhw c g hg l u
def yzj (a:List Sector) (s:List UInt8) (c:UInt8):List UInt8:=bif a.any (fun x=>x.Color == [c])then s++[c]else s
theorem y6e (a:List Sector) (i:Nat) (s:List UInt8) (c:UInt8) (h4:i<4) (hc:(([87,82,71,89].take ((IntKind.wrap .i64 ((i:Int)+1)).toNat)).drop i)=[c]) (h:zkb s [c]=false) :
  ydl a i s=.ok (yzj a s c):=by
 unfold ydl
 rw[y3c (fun x u=>bif ((x.Color == [c]) && (!(zkb u [c])))then .ok (u++[c])else .ok u) a s (fun j u _=>by simp only[ygn,hc])]
 rw[ylv c _ (fun _ _=>rfl) a s h]
 rfl
theorem y1e (a:List Sector) (i:Nat) (s:List UInt8) (c:UInt8) (hc:([[87],[82],[71],[89]]:List (List UInt8)).getD i default=[c]):yik a i s=.ok (yzj a s c):=by
 unfold yik
 rw[y3c (fun x u=>bif (x.Color == [c])then .error (.inr (u++[c]))else .ok u) a s (fun j u _=>by simp only[yln,hc])]
 rw[yhw [c] _ (fun _ _=>rfl) a s]
 unfold yzj
 cases a.any (fun x=>x.Color == [c])<;>rfl
theorem yjc (a:List Sector) (s:List UInt8) (b c:UInt8) (h:b≠c):zkb (yzj a s b) [c]=zkb s [c]:=by
 unfold yzj
 cases a.any (fun x=>x.Color == [b])with
 | true=>exact yi5 s b c h
 | false=>rfl
theorem yqh (a:List Sector):zgc a=zhc a:=by
 unfold zgc zhc
 have n0:∀ c:UInt8,zkb [] [c]=false:=by intro c;simp[zkb,Go.Lib.indexByte]
 have l4:([87,82,71,89]:List Nat).length-0=4:=rfl
 rw[l4]
 simp only[yf,Nat.sub_zero]
 rw[y6e a 0 [] 87 (by omega) rfl (n0 _),y1e a 0 [] 87 rfl]
 simp only
 rw[y6e a (0+1) _ 82 (by omega) rfl (by rw[yjc _ _ _ _ (by decide)];exact n0 _),y1e a (0+1) _ 82 rfl]
 simp only
 rw[y6e a (0+1+1) _ 71 (by omega) rfl (by rw[yjc _ _ _ _ (by decide),yjc _ _ _ _ (by decide)];exact n0 _),y1e a (0+1+1) _ 71 rfl]
 simp only
 rw[y6e a (0+1+1+1) _ 89 (by omega) rfl (by rw[yjc _ _ _ _ (by decide),yjc _ _ _ _ (by decide),yjc _ _ _ _ (by decide)];exact n0 _),y1e a (0+1+1+1) _ 89 rfl]
end Go.Ab

namespace Go.Ab
open Go Go.Proofs
def zge (a0:Aid):Bool:=
 (bif (((!(zgb a0.Light)) || (!(zmg a0.Intensity))) || (!(zlb a0.Sectors)))then false else(bif ((a0.Sectors.length:Int) == 0)then((a0.Light.Colors.length:Int) == 1)else((zgc a0.Sectors) == a0.Light.Colors)))
namespace N105
theorem DD:DOk Tryz.prog (Go.Ab.DD [(214,dP D_zmg),(215,dP D_zlb),(216,dP D_zgc),(91,dP D_zgb)]):=ya yyx.e <| ya y7s.e <| ya yuy.e <| ya ycr.e <| yd _
theorem dn:type_of% (And.intro @D_zmg.eq_1 <| And.intro @D_zlb.eq_1 <| And.intro @D_zgc.eq_1 <| @D_zgb.eq_1):=by and_intros<;>intros<;>rfl
theorem den (a0:Aid) (hb0:bdAid a0):Den Tryz.prog 105 [.agg (eAid a0)] (.bool (zge a0)):=by
 generalize hR:zge a0=r
 unfold zge at hR
 refine di Tryz.func105 Tryz.ntmps105 Tryz.results105 ?_
 intro c hL hc hk
 obtain⟨hL0,_⟩:=hL
 have hw0:bwAid a0:=yy a0 hL0
 clear hL0
 simp only[pars,Nat.zero_add]
 iterate 2 refine rS ?_
 refine AWP.cond rfl (fun hb => ?_) (fun hb => ?_)
 ·replace hR:=ct hR
  refine rS ?_
  refine AWP.ret ?_
  subst hR
  exact es
 ·replace hR:=cf hR
  refine rS ?_
  refine AWP.cond rfl (fun hb => ?_) (fun hb => ?_)
  ·replace hR:=ct hR
   refine rS ?_
   refine AWP.ret ?_
   subst hR
   exact es
  ·replace hR:=cf hR
   refine rD 6 ?_
   refine AWP.ret ?_
   subst hR
   exact es
end N105
def D_zge : DF
 | [x0]=>some (.bool (zge (rdG dAid x0)),false,[wG eAid dAid x0,bdAid (rdG dAid x0)])
 | _=>none
theorem yot:OkD Tryz.prog 105 D_zge:=by unfold D_zge;exact dk N105.den
end Go.Ab

namespace Go.Ab
open Go Go.Proofs
def zed (a0:Aid):Bool:=
 ((((((zsc a0.Number) && (zbe a0.Name)) && (zce a0.At)) && (zxg a0.Height)) && (zae a0.Mark)) && ((zge a0) || (zng a0)))
namespace N104
theorem DD:DOk Tryz.prog (Go.Ab.DD [(105,dP D_zge),(17,dP D_zae),(209,dP D_zsc),(210,dP D_zbe),(211,dP D_zce),(212,dP D_zxg),(213,dP D_zng)]):=ya yot.e <| ya ycs.e <| ya yol.e <| ya ynz.e <| ya yos.e <| ya y2z.e <| ya yb1.e <| yd _
theorem dn:type_of% (And.intro @D_zge.eq_1 <| And.intro @D_zae.eq_1 <| And.intro @D_zsc.eq_1 <| And.intro @D_zbe.eq_1 <| And.intro @D_zce.eq_1 <| And.intro @D_zxg.eq_1 <| @D_zng.eq_1):=by and_intros<;>intros<;>rfl
theorem den (a0:Aid) (hb0:bdAid a0):Den Tryz.prog 104 [.agg (eAid a0)] (.bool (zed a0)):=by
 generalize hR:zed a0=r
 unfold zed at hR
 refine di Tryz.func104 Tryz.ntmps104 Tryz.results104 ?_
 intro c hL hc hk
 obtain⟨hL0,_⟩:=hL
 have hw0:bwAid a0:=yy a0 hL0
 clear hL0
 simp only[pars,Nat.zero_add]
 iterate 2 refine rS ?_
 refine AWP.ret ?_
 subst hR
 exact es
end N104
def D_zed : DF
 | [x0]=>some (.bool (zed (rdG dAid x0)),false,[wG eAid dAid x0,bdAid (rdG dAid x0)])
 | _=>none
theorem y1l:OkD Tryz.prog 104 D_zed:=by unfold D_zed;exact dk N104.den
end Go.Ab

namespace Go.Ab
open Go Go.Proofs
def yck (a0:(List Aid)) (i1:Nat) (s1:Unit):Except (Bool) (Unit):=
 (bif ((!(zed (a0.getD i1 default))) || (decide (0<(i1:Int)) && decide (((a0.getD i1 default).Number)≤((a0.getD ((IntKind.wrap .i64 ((i1:Int)-1)).toNat) default).Number))))then .error false else .ok ())
def zwb (a0:(List Aid)):Bool:=
 (match yf (yck a0) (a0.length-0) 0 ()with|.error e=>e|.ok s1=>(zbc (a0.length:Int) 24))
namespace N117
theorem DD:DOk Tryz.prog (Go.Ab.DD [(104,dP D_zed),(160,dP D_zbc)]):=ya y1l.e <| ya yri.e <| yd _
theorem dn:type_of% (And.intro @D_zed.eq_1 <| @D_zbc.eq_1):=by and_intros<;>intros<;>rfl
theorem den (a0:(List Aid)) (hb0:a0.length<1099511627776) (hb1:∀ v∈a0,bdAid v):Den Tryz.prog 117 [encL 16 eAid a0] (.bool (zwb a0)):=by
 generalize hR:zwb a0=r
 unfold zwb at hR
 refine di Tryz.func117 Tryz.ntmps117 Tryz.results117 ?_
 intro c hL hc hk
 obtain⟨hL0,_⟩:=hL
 have hw0:a0.length<9223372036854775808:=Nat.lt_succ_of_le (ye hL0).1
 have hw1:∀ v∈a0,bwAid v:=fun v hv=>yy v ((ye hL0).2 v hv)
 clear hL0
 simp only[pars,Nat.zero_add]
 iterate 2 refine rS ?_
 refine AWP.block ?_
 generalize hz1:yf (yck a0) (a0.length-0) 0 ()=z1 at hR
 refine AWP.range (yck a0) (fun i1 s1=>⟨[(0,encL 16 eAid a0),(5,encL 16 eAid a0),(6,.int .i64 (a0.length:Int)),(7,.int .i64 (i1:Int))],[]⟩) (fun i1 s1=>True) (a0.length) 0 () [] hz1 ot wt sm ?_
 clear hz1
 intro i1 s1 hi1 hW1 hz1
 refine rS ?_
 refine AWP.seq ?_
 refine AWP.cond rfl (fun hb => ?_) (fun hb => ?_)
 ·have hlt1:i1<a0.length:=ot
  rw[yh hlt1]at hz1;simp only[yck]at hz1
  refine rS ?_
  refine rD 18 ?_
  refine AWP.cond rfl (fun hb => ?_) (fun hb => ?_)
  ·simp only[hb,cond_true]at hz1
   refine rS ?_
   refine AWP.ret ?_
   subst hz1
   dsimp only at hR
   subst hR
   exact es
  ·simp only[hb,cond_false]at hz1
   refine rS ?_
   exact⟨_,[],hlt1,wt,hz1,sm⟩
 ·obtain rfl:i1=a0.length:=ot
  rw[yi (Nat.le_refl _)]at hz1;subst hz1;dsimp only at hR
  refine AWP.exit ?_;refine yb ?_
  refine rS ?_
  refine AWP.ret ?_
  subst hR
  exact es
end N117
def D_zwb : DF
 | [x0]=>some (.bool (zwb (rdL dAid x0)),false,[wL 16 eAid dAid x0,(rdL dAid x0).length<1099511627776,∀ v∈(rdL dAid x0),bdAid v])
 | _=>none
theorem y9r:OkD Tryz.prog 117 D_zwb:=by unfold D_zwb;exact dk N117.den
end Go.Ab

namespace Go.Ab
open Go Go.Proofs
def zt (a0:Aid):Bool:=
 (bif (((((!(ze a0.Number 1 9999)) || (!(zpb a0.Name))) || (!(zoc a0.At))) || (!(ze a0.Height 0 3000))) || (!(zdd a0.Mark)))then false else(bif (zvd a0.Light)then(((a0.Sectors.length:Int) == 0) && (a0.Intensity == 0))else(bif (((!(zfe a0.Light)) || (!(ze a0.Intensity 1 100000000))) || (!(zq a0.Sectors)))then false else(bif ((a0.Sectors.length:Int) == 0)then((a0.Light.Colors.length:Int) == 1)else((zhc a0.Sectors) == a0.Light.Colors)))))
namespace N98
theorem DD:DOk Tryz.prog (Go.Ab.DD [(170,dP D_ze),(195,dP D_zpb),(196,dP D_zoc),(197,dP D_zdd),(198,dP D_zvd),(199,dP D_zfe),(200,dP D_zq),(201,dP D_zhc)]):=ya yld.e <| ya y3r.e <| ya y5z.e <| ya ys1.e <| ya yby.e <| ya y10.e <| ya yy3.e <| ya yh1.e <| yd _
theorem dn:type_of% (And.intro @D_ze.eq_1 <| And.intro @D_zpb.eq_1 <| And.intro @D_zoc.eq_1 <| And.intro @D_zdd.eq_1 <| And.intro @D_zvd.eq_1 <| And.intro @D_zfe.eq_1 <| And.intro @D_zq.eq_1 <| @D_zhc.eq_1):=by and_intros<;>intros<;>rfl
theorem ol:type_of% (@ze.eq_1):=@ze.eq_1
theorem den (a0:Aid) (hb0:bdAid a0):Den Tryz.prog 98 [.ep (eAid a0)] (.bool (zt a0)):=by
 generalize hR:zt a0=r
 unfold zt at hR
 refine di Tryz.func98 Tryz.ntmps98 Tryz.results98 ?_
 intro c hL hc hk
 obtain⟨hL0,_⟩:=hL
 have hw0:bwAid a0:=yy a0 hL0
 clear hL0
 simp only[pars,Nat.zero_add]
 iterate 2 refine rS ?_
 refine AWP.cond rfl (fun hb => ?_) (fun hb => ?_)
 ·replace hR:=ct hR
  refine rS ?_
  refine AWP.ret ?_
  subst hR
  exact es
 ·replace hR:=cf hR
  refine rS ?_
  refine AWP.cond rfl (fun hb => ?_) (fun hb => ?_)
  ·replace hR:=ct hR
   refine rS ?_
   refine AWP.ret ?_
   subst hR
   exact es
  ·replace hR:=cf hR
   refine rS ?_
   refine AWP.cond rfl (fun hb => ?_) (fun hb => ?_)
   ·replace hR:=ct hR
    refine rS ?_
    refine AWP.ret ?_
    subst hR
    exact es
   ·replace hR:=cf hR
    refine rS ?_
    refine AWP.cond rfl (fun hb => ?_) (fun hb => ?_)
    ·replace hR:=ct hR
     refine rS ?_
     refine AWP.ret ?_
     subst hR
     exact es
    ·replace hR:=cf hR
     refine rD 11 ?_
     refine AWP.ret ?_
     subst hR
     exact es
end N98
def D_zt : DF
 | [x0]=>some (.bool (zt (rdP dAid x0)),false,[wP eAid dAid x0,bdAid (rdP dAid x0)])
 | _=>none
theorem ygq:OkD Tryz.prog 98 D_zt:=by unfold D_zt;exact dk N98.den
end Go.Ab

namespace Go.Ab
open Go Go.Proofs
def y1h (a0:(List Aid)) (i1:Nat) (s1:Unit):Except (Bool) (Unit):=
 (bif ((!(zt (a0.getD i1 default))) || (decide (0<(i1:Int)) && decide (((a0.getD i1 default).Number)≤((a0.getD ((IntKind.wrap .i64 ((i1:Int)-1)).toNat) default).Number))))then .error false else .ok ())
def zcb (a0:(List Aid)):Bool:=
 (match yf (y1h a0) (a0.length-0) 0 ()with|.error e=>e|.ok s1=>decide ((a0.length:Int)≤24))
namespace N114
theorem DD:DOk Tryz.prog (Go.Ab.DD [(98,dP D_zt)]):=ya ygq.e <| yd _
theorem dn:type_of% (@D_zt.eq_1):=by and_intros<;>intros<;>rfl
theorem den (a0:(List Aid)) (hb0:a0.length<1099511627776) (hb1:∀ v∈a0,bdAid v):Den Tryz.prog 114 [encL 16 eAid a0] (.bool (zcb a0)):=by
 generalize hR:zcb a0=r
 unfold zcb at hR
 refine di Tryz.func114 Tryz.ntmps114 Tryz.results114 ?_
 intro c hL hc hk
 obtain⟨hL0,_⟩:=hL
 have hw0:a0.length<9223372036854775808:=Nat.lt_succ_of_le (ye hL0).1
 have hw1:∀ v∈a0,bwAid v:=fun v hv=>yy v ((ye hL0).2 v hv)
 clear hL0
 simp only[pars,Nat.zero_add]
 iterate 2 refine rS ?_
 refine AWP.block ?_
 generalize hz1:yf (y1h a0) (a0.length-0) 0 ()=z1 at hR
 refine AWP.range (y1h a0) (fun i1 s1=>⟨[(0,encL 16 eAid a0),(3,.int .i64 (i1:Int))],[]⟩) (fun i1 s1=>True) (a0.length) 0 () [] hz1 ot wt sm ?_
 clear hz1
 intro i1 s1 hi1 hW1 hz1
 refine rS ?_
 refine AWP.cond rfl (fun hb => ?_) (fun hb => ?_)
 ·have hlt1:i1<a0.length:=ot
  rw[yh hlt1]at hz1;simp only[y1h]at hz1
  refine rD 23 ?_
  refine AWP.cond rfl (fun hb => ?_) (fun hb => ?_)
  ·simp only[hb,cond_true]at hz1
   refine rS ?_
   refine AWP.ret ?_
   subst hz1
   dsimp only at hR
   subst hR
   exact es
  ·simp only[hb,cond_false]at hz1
   refine rS ?_
   exact⟨_,[],hlt1,wt,hz1,sm⟩
 ·obtain rfl:i1=a0.length:=ot
  rw[yi (Nat.le_refl _)]at hz1;subst hz1;dsimp only at hR
  refine AWP.exit ?_;refine yb ?_
  refine rS ?_
  refine AWP.ret ?_
  subst hR
  exact es
end N114
def D_zcb : DF
 | [x0]=>some (.bool (zcb (rdL dAid x0)),false,[wL 16 eAid dAid x0,(rdL dAid x0).length<1099511627776,∀ v∈(rdL dAid x0),bdAid v])
 | _=>none
theorem ynt:OkD Tryz.prog 114 D_zcb:=by unfold D_zcb;exact dk N114.den
end Go.Ab

namespace Go.Ab
open Go Go.Proofs
theorem ytn (c:Character) (h:zvd c=true):zgb c=false:=by
 unfold zvd at h
 simp only[Bool.and_eq_true,beq_iff_eq]at h
 obtain⟨⟨⟨⟨h1,h2⟩,h3⟩,h4⟩,h5⟩:=h
 cases c
 simp only at h1 h2 h3 h4 h5
 rename_i k g l cs p
 have hg:g=[]:=List.length_eq_zero_iff.1 (by omega)
 subst h1 hg h3 h4 h5
 decide
theorem yo1 (a:Aid):zng a=((zvd a.Light && ((a.Sectors.length:Int) == 0)) && (a.Intensity == 0)):=by
 unfold zng zje zvd
 rw[yfk]
 have:decide (a.Light.Group=[])=((a.Light.Group.length:Int) == 0):=by
  cases a.Light.Group with
  | nil=>rfl
  | cons x l=>simp;omega
 rw[this]
theorem yhc (a:Aid) (hl:a.Light.Colors.length<9223372036854775808) (hs:a.Sectors.length<9223372036854775807):zed a=zt a:=by
 unfold zed zt
 rw[yo1]
 unfold zge
 rw[ycc a.Sectors hs,yqh,yle,yf3]
 have e1:zsc a.Number=ze a.Number 1 9999:=rfl
 have e2:zce a.At=zoc a.At:=rfl
 have e3:zxg a.Height=ze a.Height 0 3000:=rfl
 have e4:zmg a.Intensity=ze a.Intensity 1 100000000:=rfl
 rw[e1,e2,e3,e4]
 cases hp:zvd a.Light with
 | true=>
  rw[ytn _ hp]
  simp only[Bool.not_false,Bool.true_or,cond_true,Bool.true_and,Bool.false_or]
  cases ze a.Number 1 9999<;>cases zpb a.Name<;>cases zoc a.At<;>cases ze a.Height 0 3000<;>cases zdd a.Mark<;>rfl
 | false=>
  rw[ybi a.Light hl]
  simp only[Bool.false_and,Bool.or_false,cond_false]
  cases ze a.Number 1 9999<;>cases zpb a.Name<;>cases zoc a.At<;>cases ze a.Height 0 3000<;>cases zdd a.Mark<;>rfl
theorem yke (l:List Aid) (h:∀ v∈l,v.Light.Colors.length<9223372036854775808∧v.Sectors.length<9223372036854775807):zwb l=zcb l:=by
 unfold zwb zcb
 rw[y6g (b:=yck l) (b':=y1h l) (l.length-0) 0 () (fun j u _ hj=>by
  have:=ybd (p:=fun v:Aid=>v.Light.Colors.length<9223372036854775808∧v.Sectors.length<9223372036854775807) h ⟨by decide,by decide⟩ j
  simp only[yck,y1h,yhc _ this.1 this.2])]
 rfl
end Go.Ab

namespace Go.Ab
open Go Go.Proofs
def InR (s:List Int):Prop:=∀ v∈s,0≤v∧v≤100
theorem InR.app {s t:List Int} (h1:InR s) (h2:InR t):InR (s++t):=fun v hv=>(List.mem_append.1 hv).elim (h1 v) (h2 v)
theorem InR.one {x:Int} (h1:0≤x) (h2:x≤100):InR [x]:=fun v hv=>by rw[List.mem_singleton]at hv;subst hv;exact⟨h1,h2⟩
theorem InR.nil:InR []:=fun v hv=>by simp at hv
theorem y0w (k:Int):0≤zud k∧zud k≤100:=by
 unfold zud
 simp only[Bool.cond_eq_ite]
 repeat' split
 all_goals omega
theorem y3p (k:Int):0≤zub k∧zub k≤20:=by
 unfold zub
 simp only[Bool.cond_eq_ite]
 repeat' split
 all_goals omega
theorem ycz (k:Int):0≤IntKind.wrap .i64 (zub k+20)∧IntKind.wrap .i64 (zub k+20)≤100:=by
 have:=y3p k
 rw[IntKind.wrap_i64];omega
theorem yqw (c:Character) (h1:c.Group.length≤4) (h2:∀ v∈c.Group,1≤v∧v≤9):InR (zf c)∧(zf c).length≤80:=by
 have hf:=y0w c.Kind
 have hg:=y3p c.Kind
 have hw:=ycz c.Kind
 unfold zf
 cases hk:(c.Kind == 8)with
 | true=>
  simp only[cond_true]
  have hm:(zdb ((c.Letter.getD 0 0).toNat:Int)).length≤4:=yso _
  have hmr:∀ j,0≤(zdb ((c.Letter.getD 0 0).toNat:Int)).getD j default∧(zdb ((c.Letter.getD 0 0).toNat:Int)).getD j default≤100:=by
   intro j
   rw[ysf,List.getD_eq_getElem?_getD,List.getElem?_map]
   cases(yvc.getD (IntKind.wrap .u8 (((c.Letter.getD 0 0).toNat:Int)-65)).toNat default)[j]? with
   | none=>show(0:Int)≤0∧(0:Int)≤100;omega
   | some x=>simp only[Option.map_some,Option.getD_some];split<;>omega
  obtain⟨t,q1,q2,q3⟩:=yq (b:=y0m c) (fun i s=>InR s∧s.length≤2 * i) (k:=(zdb ((c.Letter.getD 0 0).toNat:Int)).length-0) (i:=0) (s:=[]) ⟨InR.nil,by simp⟩ (fun j u _ _ h=>by
   unfold y0m
   cases decide (0<(j:Int))with
   | true=>exact⟨_,rfl,(h.1.app (InR.one (by omega) (by omega))).app (InR.one (hmr j).1 (hmr j).2),by simp only[List.length_append,List.length_singleton];omega⟩
   | false=>exact⟨_,rfl,h.1.app (InR.one (hmr j).1 (hmr j).2),by simp only[List.length_append,List.length_singleton];omega⟩)
  rw[q1]
  exact⟨q2,by simp only;omega⟩
 | false=>
  simp only[cond_false]
  have hend:∀ s:List Int,InR s→s.length≤72→InR (bif (c.Letter == [76])then s++[zub c.Kind,20]else s)∧(bif (c.Letter == [76])then s++[zub c.Kind,20]else s).length≤80:=by
   intro s h3 h4
   cases(c.Letter == [76])with
   | true=>exact⟨h3.app (fun v hv=>by simp only[List.mem_cons,List.not_mem_nil,or_false]at hv;rcases hv with h|h<;>subst h<;>omega),by simp only[cond_true,List.length_append,List.length_cons,List.length_nil];omega⟩
   | false=>exact⟨h3,by simp only[cond_false];omega⟩
  cases hz:((c.Group.length:Int) == 0)with
  | true=>
   simp only[cond_true]
   obtain⟨t,q1,q2,q3⟩:=yq (b:=y3m c) (fun i s=>InR s∧s.length≤18 * i) (k:=1-0) (i:=0) (s:=[]) ⟨InR.nil,by simp⟩ (fun j u _ hj h=>by
    unfold y3m
    have hj0:j=0:=by omega
    obtain⟨t,q1,q2,q3⟩:=yq (b:=yyn c j u) (fun i s=>InR s∧s.length≤18 * j+2 * i) (k:=(([1]:List Int).getD j default).toNat-0) (i:=0) (s:=u) ⟨h.1,by omega⟩ (fun i w _ hi h=>by
     unfold yyn
     cases decide (0<(i:Int))with
     | true=>exact⟨_,rfl,(h.1.app (InR.one hg.1 (by omega))).app (InR.one hf.1 hf.2),by simp only[List.length_append,List.length_singleton];omega⟩
     | false=>
      cases decide (0<(j:Int))with
      | true=>exact⟨_,rfl,(h.1.app (InR.one hw.1 hw.2)).app (InR.one hf.1 hf.2),by simp only[List.length_append,List.length_singleton];omega⟩
      | false=>exact⟨_,rfl,h.1.app (InR.one hf.1 hf.2),by simp only[List.length_append,List.length_singleton];omega⟩)
    rw[q1]
    subst hj0
    exact⟨t,rfl,q2,by simp only[List.getD_cons_zero]at q3;omega⟩)
   rw[q1]
   exact hend t q2 (by omega)
  | false=>
   simp only[cond_false]
   obtain⟨t,q1,q2,q3⟩:=yq (b:=y7o c) (fun i s=>InR s∧s.length≤18 * i) (k:=c.Group.length-0) (i:=0) (s:=[]) ⟨InR.nil,by simp⟩ (fun j u _ hj h=>by
    unfold y7o
    have hgj:=y1g h2 j
    obtain⟨t,q1,q2,q3⟩:=yq (b:=ymo c j u) (fun i s=>InR s∧s.length≤18 * j+2 * i) (k:=(c.Group.getD j default).toNat-0) (i:=0) (s:=u) ⟨h.1,by omega⟩ (fun i w _ hi h=>by
     unfold ymo
     cases decide (0<(i:Int))with
     | true=>exact⟨_,rfl,(h.1.app (InR.one hg.1 (by omega))).app (InR.one hf.1 hf.2),by simp only[List.length_append,List.length_singleton];omega⟩
     | false=>
      cases decide (0<(j:Int))with
      | true=>exact⟨_,rfl,(h.1.app (InR.one hw.1 hw.2)).app (InR.one hf.1 hf.2),by simp only[List.length_append,List.length_singleton];omega⟩
      | false=>exact⟨_,rfl,h.1.app (InR.one hf.1 hf.2),by simp only[List.length_append,List.length_singleton];omega⟩)
    rw[q1]
    exact⟨t,rfl,q2,by omega⟩)
   rw[q1]
   exact hend t q2 (by omega)
theorem y31 (l:List Int) (h:InR l) (hl:l.length≤80):0≤zod l∧zod l≤8000:=by
 unfold zod
 obtain⟨t,q1,q2,q3⟩:=yq (b:=yho l) (fun i s=>0≤s∧s≤100 * i) (k:=l.length-0) (i:=0) (s:=0) ⟨by omega,by omega⟩ (fun j u _ hj hI=>by
  have hx:0≤l.getD j default∧l.getD j default≤100:=by
   rw[List.getD_eq_getElem?_getD,List.getElem?_eq_getElem (by omega),Option.getD_some]
   exact h _ (List.getElem_mem _)
  refine⟨_,rfl,?_⟩
  rw[IntKind.wrap_i64];omega)
 rw[q1]
 exact⟨q2,by simp only;omega⟩
theorem yfw (c:Character) (h:zz c=true) (hs:zlc c=false):0<zmf c:=by
 obtain⟨g1,g2⟩:=y7h c h
 obtain⟨t1,t2⟩:=yqw c g1 g2
 have t3:=y31 _ t1 t2
 have hg:=y3p c.Kind
 unfold zmf
 rw[← ycj,hs]
 simp only[cond_false]
 cases(c.Kind == 3)with
 | true=>simp
 | false=>
  simp only[cond_false]
  have hr:0<zkf c∧zkf c≤100:=by
   unfold zkf
   simp only[Bool.cond_eq_ite]
   repeat' split
   all_goals (try rw[IntKind.wrap_i64]);(try rw[IntKind.wrap_i64]);omega
  rw[IntKind.wrap_i64];omega
end Go.Ab

namespace Go.Ab
open Go Go.Proofs
theorem yzc (a:Character) (h:zgb a=true):zz a=true:=by
 unfold zgb at h
 cases hf:zz a with
 | true=>rfl
 | false=>rw[hf]at h;simp at h
theorem yw0 (a:Character) (h:zgb a=true):a.Period≤600:=by
 unfold zgb at h
 cases h1:((!(zmb a.Colors)) || (!(zz a)))with
 | true=>rw[h1]at h;cases h
 | false=>
  rw[h1]at h
  cases h2:zlc a with
  | true=>rw[h2]at h;simp at h;omega
  | false=>rw[h2]at h;simp[zb]at h;omega
theorem yne (a:Character) (h:zgb a=true):a.Group.length≤4∧(∀ v∈a.Group,1≤v∧v≤9)∧a.Period≤600:=by
 have h1:=y7h a (yzc a h)
 exact⟨h1.1,h1.2,yw0 a h⟩
theorem yio (a:Character) (h1:a.Group.length≤4) (h2:∀ v∈a.Group,1≤v∧v≤9):(ztc a).length≤200+a.Letter.length:=by
 unfold ztc
 have hk:=y5s a.Kind
 obtain⟨t,q1,q2,q3⟩:=yq (b:=yal a) (fun i s=>s.length=i∧∀ v∈s,v.length≤20) (k:=a.Group.length-0) (i:=0) (s:=[]) ⟨rfl,by simp⟩ (fun j u _ _ h=>⟨_,rfl,by simp[h.1],fun v hv=>by
  rcases List.mem_append.1 hv with h9|h9
  ·exact h.2 v h9
  ·rw[List.mem_singleton]at h9;subst h9
   have:=y1g h2 j
   exact ydc _ (by omega) (by omega)⟩)
 rw[q1]
 have hj:=(ybj t q3).1
 simp only[Bool.cond_eq_ite]
 repeat' split
 all_goals ((try simp only[List.length_append,List.length_cons,List.length_nil]);omega)
theorem ydo (a:Character) (h:zgb a=true):(zlc a=true∧a.Period=0)∨(zlc a=false∧0<a.Period∧a.Period≤600):=by
 have hf:=yzc a h
 unfold zgb at h
 cases h1:((!(zmb a.Colors)) || (!(zz a)))with
 | true=>rw[h1]at h;cases h
 | false=>
  rw[h1]at h
  cases h2:zlc a with
  | true=>rw[h2]at h;left;simpa using h
  | false=>
   rw[h2,yhr a hf h2]at h
   have:=yfw a hf h2
   right
   simp[zb]at h
   exact⟨rfl,by omega,by omega⟩
theorem yte (a:Character) (h:zgb a=true):0≤a.Period:=by
 rcases ydo a h with⟨_,h⟩|⟨_,h,_⟩<;>omega
theorem yli (a:Character) (h:zz a=true):1≤a.Kind∧a.Kind≤8:=by
 unfold zz at h
 simp only[Bool.cond_eq_ite]at h
 repeat' split at h
 all_goals (try simp only[beq_iff_eq]at *)
 all_goals first|omega|(cases h;done)
theorem yt2 (a:Character) (hl:a.Colors.length<9223372036854775808) (h:zfe a=true):a.Group.length≤4∧(∀ v∈a.Group,1≤v∧v≤9)∧1≤a.Kind∧a.Kind≤8∧0≤a.Period∧a.Period≤600:=by
 rw[← ybi a hl]at h
 have h1:=yne a h
 have h2:=yli a (yzc a h)
 exact⟨h1.1,h1.2.1,h2.1,h2.2,yte a h,h1.2.2⟩
theorem yzp (n:Int) (h1 : -9223372036854775808≤n) (h2:n≤9223372036854775807):(zhf n).length≤41:=by
 unfold zhf
 have h3:=y3k (n.tdiv 10)
 have ht:=yhi n
 have h4:=ydc (n.tmod 10) (by omega) (by omega)
 simp only[Bool.cond_eq_ite]
 split
 ·omega
 ·simp only[List.length_append,List.length_cons,List.length_nil];omega
end Go.Ab

namespace Go.Ab
open Go Go.Proofs
theorem ydx {p:Point} (h:zoc p=true):0≤p.X∧p.X≤200000∧0≤p.Y∧p.Y≤200000:=by
 simp[zoc,ze]at h;omega
theorem yd3 {a:List Sector} (h:zq a=true):a.length≤12∧∀ i,i<a.length→zmd (a.getD i default)=true:=by
 unfold zq at h
 cases h12:decide (12<(a.length:Int))with
 | true=>rw[h12]at h;cases h
 | false=>
  rw[h12]at h
  have h12:=of_decide_eq_false h12
  refine⟨by omega,fun i hi => ?_⟩
  rcases yud (b:=yvu a) (secQ a) (fun _ u=>u) false (k:=a.length-0) (i:=0) (s:=()) (fun j u _ _=>by cases u;rfl)with⟨_,e1⟩|⟨hq,_⟩
  ·rw[e1]at h;cases h
  ·exact((yar a i (by omega)).1 (hq i (Nat.zero_le _) (by omega))).1
theorem yl4 {c:List UInt8} (h:zjf c=true):c=[87]∨c=[82]∨c=[71]∨c=[89]:=by
 unfold zjf at h
 simp only[Bool.or_eq_true,beq_iff_eq]at h
 rcases h with((h|h)|h)|h
 ·exact .inl h
 ·exact .inr (.inl h)
 ·exact .inr (.inr (.inl h))
 ·exact .inr (.inr (.inr h))
theorem yof {a:List Sector} (h:zq a=true):a.length≤12∧∀ i,0≤(a.getD i default).From∧(a.getD i default).From≤359∧0≤(a.getD i default).To∧(a.getD i default).To≤359∧(a.getD i default).Color.length≤1:=by
 obtain⟨h1,h2⟩:=yd3 h
 refine⟨h1,fun i => ?_⟩
 by_cases hi:i<a.length
 ·have h3:=h2 i hi
  have hb:=y2v h3
  unfold zmd at h3
  rw[Bool.and_eq_true]at h3
  refine⟨hb.1.1,hb.1.2,hb.2.1,hb.2.2,?_⟩
  rcases yl4 h3.2 with h|h|h|h<;>rw[h]<;>decide
 ·rw[List.getD_eq_getElem?_getD,List.getElem?_eq_none (by omega)]
  decide
theorem y4t {m:Mark} (h:zdd m=true):(m.Kind=0∧m.Colors=[]∧m.Shape=[]∧m.Topmark=[]) ∨
  (znc m.Kind=true∧m.Colors=zwe m.Kind∧(m.Topmark=[]∨m.Topmark=zxe m.Kind)∧m.Shape∈zeb m.Kind):=by
 rw[show zdd m=zjb m from rfl]at h
 unfold zjb at h
 by_cases hk:m.Kind=0
 ·left
  rw[show(m.Kind == 0)=true by simp[hk]]at h
  simp only[cond_true,Bool.and_eq_true,beq_iff_eq]at h
  exact⟨hk,h.2.1,h.2.2.1,h.2.2.2⟩
 ·right
  rw[show(m.Kind == 0)=false by simp[hk],cond_false]at h
  cases hc:(((!(znc m.Kind)) || (m.Colors != (zwe m.Kind))) || ((m.Topmark != []) && (m.Topmark != (zxe m.Kind))))with
  | true=>rw[hc]at h;cases h
  | false=>
   rw[hc,cond_false]at h
   have h:=(y2k m).symm.trans h
   rw[List.any_eq_true]at h
   simp only[Bool.or_eq_false_iff,Bool.not_eq_false',Bool.and_eq_false_iff,bne_eq_false_iff_eq]at hc
   obtain⟨y,hy,he⟩:=h
   exact⟨hc.1.1,hc.1.2,hc.2,by rw[← eq_of_beq he];exact hy⟩
theorem ydi {m:Mark} (h:zdd m=true):0≤m.Kind∧m.Kind≤9∧m.Colors.length≤3∧m.Shape.length≤6∧m.Topmark.length≤5:=by
 rcases y4t h with⟨h1,h2,h3,h4⟩|⟨h1,h2,h3,h4⟩
 ·rw[h1,h2,h3,h4];simp
 ·have hk:=h1
  unfold znc ze at hk
  simp only[Bool.and_eq_true,decide_eq_true_eq]at hk
  refine⟨by omega,by omega,?_,?_,?_⟩
  ·rw[h2];rcases y3g h1 with e|e|e|e|e|e|e|e|e<;>rw[e]<;>decide
  ·have hs:∀ y∈zeb m.Kind,y.length≤6:=by rcases y3g h1 with e|e|e|e|e|e|e|e|e<;>rw[e]<;>decide
   exact hs _ h4
  ·rcases h3 with e|e
   ·rw[e];decide
   ·rw[e];rcases y3g h1 with e|e|e|e|e|e|e|e|e<;>rw[e]<;>decide
theorem yi4:zq []=true:=by decide
theorem ykd {a:Aid} (h:zt a=true):1≤a.Number∧a.Number≤9999∧zpb a.Name=true∧zoc a.At=true∧0≤a.Height∧a.Height≤3000∧zdd a.Mark=true ∧
  (zwd a=true→zfe a.Light=true)∧zq a.Sectors=true∧0≤a.Intensity∧a.Intensity≤100000000:=by
 unfold zt at h
 cases hc:(((((!(ze a.Number 1 9999)) || (!(zpb a.Name))) || (!(zoc a.At))) || (!(ze a.Height 0 3000))) || (!(zdd a.Mark)))with
 | true=>rw[hc]at h;cases h
 | false=>
  rw[hc,cond_false]at h
  simp only[Bool.or_eq_false_iff,Bool.not_eq_false']at hc
  obtain⟨⟨⟨⟨c1,c2⟩,c3⟩,c4⟩,c5⟩:=hc
  simp only[ze,Bool.and_eq_true,decide_eq_true_eq]at c1 c4
  have fin:(zwd a=true→zfe a.Light=true)∧zq a.Sectors=true∧0≤a.Intensity∧a.Intensity≤100000000:=by
   cases hp:zvd a.Light with
   | true=>
    rw[hp,cond_true,Bool.and_eq_true,beq_iff_eq,beq_iff_eq]at h
    have hs:a.Sectors=[]:=List.length_eq_zero_iff.1 (by omega)
    refine⟨fun hl => ?_,by rw[hs];exact yi4,by omega,by omega⟩
    unfold zvd at hp
    simp only[Bool.and_eq_true,beq_iff_eq]at hp
    unfold zwd at hl
    rw[bne_iff_ne]at hl
    exact absurd hp.1.1.1.1 hl
   | false=>
    rw[hp,cond_false]at h
    cases hd:(((!(zfe a.Light)) || (!(ze a.Intensity 1 100000000))) || (!(zq a.Sectors)))with
    | true=>rw[hd]at h;cases h
    | false=>
     simp only[Bool.or_eq_false_iff,Bool.not_eq_false',ze,Bool.and_eq_true,decide_eq_true_eq]at hd
     exact⟨fun _=>hd.1.1,hd.2,by omega,by omega⟩
  exact⟨c1.1,c1.2,c2,c3,c4.1,c4.2,c5,fin⟩
theorem ytz {s:List UInt8} (h:zpb s=true):s.length≤10:=((y0f s).1 h).2.1
theorem yh2 {a:Aid} (h:zt a=true) (hl:a.Light.Colors.length<9223372036854775808):zge a=zwd a:=by
 have hr:=ykd h
 have hsl:=(yof hr.2.2.2.2.2.2.2.2.1).1
 unfold zt at h
 cases hc:(((((!(ze a.Number 1 9999)) || (!(zpb a.Name))) || (!(zoc a.At))) || (!(ze a.Height 0 3000))) || (!(zdd a.Mark)))with
 | true=>rw[hc]at h;cases h
 | false=>
  rw[hc,cond_false]at h
  cases hp:zvd a.Light with
  | true=>
   have h1:=ytn _ hp
   unfold zge zwd
   rw[h1]
   unfold zvd at hp
   simp only[Bool.and_eq_true,beq_iff_eq]at hp
   rw[hp.1.1.1.1]
   rfl
  | false=>
   rw[hp,cond_false]at h
   cases hd:(((!(zfe a.Light)) || (!(ze a.Intensity 1 100000000))) || (!(zq a.Sectors)))with
   | true=>rw[hd]at h;cases h
   | false=>
    rw[hd,cond_false]at h
    simp only[Bool.or_eq_false_iff,Bool.not_eq_false']at hd
    have hk:=(yt2 a.Light hl hd.1.1).2.2.1
    unfold zge zwd
    have e4:zmg a.Intensity=ze a.Intensity 1 100000000:=rfl
    rw[ybi _ hl,hd.1.1,e4,hd.1.2,ycc _ (by omega),hd.2,yqh]
    simp only[Bool.not_true,Bool.or_self,cond_false]
    rw[h]
    symm
    rw[bne_iff_ne];omega
theorem yu3 {p:Point} (h:(!zce p)=false):0≤p.X∧p.X≤200000∧0≤p.Y∧p.Y≤200000:=by
 have h2:zce p=true:=by simpa using h
 exact ydx (p:=p) h2
theorem ycv {m:Mark} (h:(!zae m)=false):0≤m.Kind∧m.Kind≤9∧m.Colors.length≤3∧m.Shape.length≤6∧m.Topmark.length≤5:=ydi (by rw[← yle];simpa using h)
theorem y1y {a:List Sector} (hl:a.length<1099511627776) (h:(!zlb a)=false):a.length≤12∧∀ i,0≤(a.getD i default).From∧(a.getD i default).From≤359∧0≤(a.getD i default).To∧(a.getD i default).To≤359∧(a.getD i default).Color.length≤1:=yof (by rw[← ycc a (by omega)];simpa using h)
theorem y6q {a:Aid} (hb:bdAid a) (h:(!zed a)=false):zt a=true:=by
 rw[← yhc a (Nat.lt_of_lt_of_le hb.2.2.1.2.2 (by decide)) (Nat.lt_of_lt_of_le hb.2.2.2.1 (by decide))];simpa using h
theorem yex (k:Int):(zif k).length≤100:=y8s _ _ (by decide)
theorem yzy (n:Nat):(zpc.getD n default).length≤100:=yrf _ (by decide) n
theorem ye5 {a:Aid} (h:zt a=true) (hb:bdAid a) (hl:zwd a=true):a.Light.Group.length≤4∧(∀ v∈a.Light.Group,1≤v∧v≤9)∧1≤a.Light.Kind∧a.Light.Kind≤8∧0≤a.Light.Period∧a.Light.Period≤600:=yt2 _ (Nat.lt_of_lt_of_le hb.2.2.1.2.2 (by decide)) ((ykd h).2.2.2.2.2.2.2.1 hl)
end Go.Ab

namespace Go.Ab
open Go Go.Proofs
def yyd (m:Nat):List Int:=if h:m=0 then[]else(48+(m % 10:Nat):Int)::yyd (m / 10)
termination_by m
decreasing_by omega
theorem ywf:yyd 0=[]:=by rw[yyd];simp
theorem y7g {m:Nat} (h:m≠0):yyd m=(48+(m % 10:Nat):Int)::yyd (m / 10):=by rw[yyd];simp[h]
theorem ypm:∀ (m:Nat),m≠0→(yyd m).reverse.map (fun z=>UInt8.ofNat z.toNat)=Go.Lib.decDigits m:=by
 intro m
 induction m using Nat.strongRecOn with
 | ind m ih=>
  intro h
  rw[y7g h,Go.Lib.decDigits]
  have e3:UInt8.ofNat (48+((m % 10:Nat):Int)).toNat=UInt8.ofNat (48+m % 10):=by congr 1
  split
  ·rename_i h10
   have e:m / 10=0:=by omega
   have e2:m % 10=m:=Nat.mod_eq_of_lt h10
   rw[e2]at e3 ⊢
   simp only[e,ywf,List.reverse_cons,List.reverse_nil,List.nil_append,List.map_cons,List.map_nil]
   rw[e3]
  ·rw[← ih (m / 10) (by omega) (by omega)]
   simp only[List.reverse_cons,List.map_append,List.map_cons,List.map_nil,e3]
theorem yuz (x:Int):(x.tdiv 10).natAbs=x.natAbs / 10:=by
 rcases y1j x with⟨h,e⟩|⟨h,e⟩<;>rw[e]<;>omega
theorem yv4 (x:Int):x.tmod 10=x-10 * x.tdiv 10:=Int.tmod_def x 10
theorem ys4 (a0:Int) (m:Int) (ds:List Int) (h1 : -1000000000000≤m) (h2:m≤1000000000000) (h:m≠0) :
  y3o a0 (m,ds)=.ok (m.tdiv 10,ds++[48+((m.natAbs % 10:Nat):Int)]):=by
 have e1:=yv4 m
 have e2:=y1j m
 have hn:(m != 0)=true:=by simpa using h
 unfold y3o
 simp only[hn,cond_true]
 have w1:IntKind.wrap .i64 (m.tdiv 10)=m.tdiv 10:=by rw[IntKind.wrap_i64];omega
 rw[w1]
 by_cases hm:m.tmod 10<0
 ·simp only[hm,decide_true,cond_true]
  have w2:IntKind.wrap .u8 (IntKind.wrap .i64 (48+(IntKind.wrap .i64 (0-(m.tmod 10)))))=48+((m.natAbs % 10:Nat):Int):=by
   simp only[IntKind.wrap_i64,IntKind.wrap_u8]
   omega
  rw[w2]
 ·simp only[hm,decide_false,cond_false]
  have w2:IntKind.wrap .u8 (IntKind.wrap .i64 (48+(m.tmod 10)))=48+((m.natAbs % 10:Nat):Int):=by
   simp only[IntKind.wrap_i64,IntKind.wrap_u8]
   omega
  rw[w2]
theorem ydn (a0:Int):∀ (k:Nat) (m:Int) (ds:List Int),-1000000000000≤m→m≤1000000000000→m.natAbs<k →
  ynb (y3o a0) k (m,ds)=.error (.inr (0,ds++yyd m.natAbs))
 | 0,m,ds,_,_,h=>by omega
 | k+1,m,ds,h1,h2,h=>by
  by_cases hm:m=0
  ·subst hm
   simp[ynb,y3o,ywf]
  ·have e2:=y1j m
   simp only[ynb,ys4 a0 m ds h1 h2 hm]
   rw[ydn a0 k (m.tdiv 10) _ (by omega) (by omega) (by omega),yuz,List.append_assoc,List.singleton_append, ← y7g (by omega)]
theorem ytt:∀ (m:Nat),(yyd m).length≤m:=by
 intro m
 induction m using Nat.strongRecOn with
 | ind m ih=>
  by_cases h:m=0
  ·subst h;simp[ywf]
  ·rw[y7g h]
   have:=ih (m / 10) (by omega)
   simp only[List.length_cons]
   omega
theorem yct {α:Type} (L:List α) (d:α) (k:Nat) (h:k<L.length):L.getD k d::(L.take k).reverse=(L.take (k+1)).reverse:=by
 rw[List.take_add_one,List.reverse_append]
 simp[List.getD,List.getElem?_eq_getElem h]
theorem ygp (a0:Int) (s1:Int×List Int):∀ (f k:Nat) (out:List Int),k<f→k≤s1.2.length+1→k≤1000000000001 →
  ynb (yiq a0 s1) f ((k:Int)-1,out)=.error (.inr (-1,out++((s1.2++[45]).take k).reverse))
 | 0,k,out,h,_,_=>by omega
 | f+1,0,out,_,_,_=>by simp[ynb,yiq]
 | f+1,k+1,out,h,hk,hb=>by
  have e1:IntKind.wrap .i64 (((k+1:Nat):Int)-1-1)=(k:Int)-1:=by rw[IntKind.wrap_i64];omega
  have e2:(((k+1:Nat):Int)-1).toNat=k:=by omega
  have e3:decide (0≤((k+1:Nat):Int)-1)=true:=by simp
  simp only[ynb,yiq,e3,cond_true,e1,e2]
  rw[ygp a0 s1 f k _ (by omega) (by omega) (by omega),List.append_assoc,List.singleton_append,yct _ _ _ (by simp;omega)]
theorem yap (a0:Int) (s1:Int×List Int):∀ (f k:Nat) (out:List Int),k<f→k≤s1.2.length→k≤1000000000001 →
  ynb (ypq a0 s1) f ((k:Int)-1,out)=.error (.inr (-1,out++(s1.2.take k).reverse))
 | 0,k,out,h,_,_=>by omega
 | f+1,0,out,_,_,_=>by simp[ynb,ypq]
 | f+1,k+1,out,h,hk,hb=>by
  have e1:IntKind.wrap .i64 (((k+1:Nat):Int)-1-1)=(k:Int)-1:=by rw[IntKind.wrap_i64];omega
  have e2:(((k+1:Nat):Int)-1).toNat=k:=by omega
  have e3:decide (0≤((k+1:Nat):Int)-1)=true:=by simp
  simp only[ynb,ypq,e3,cond_true,e1,e2]
  rw[yap a0 s1 f k _ (by omega) (by omega) (by omega),List.append_assoc,List.singleton_append,yct _ _ _ (by omega)]
theorem ycf (n:Int) (h1 : -1000000000000≤n) (h2:n≤1000000000000):za n=Go.Lib.itoa n:=by
 unfold za Go.Lib.itoa
 by_cases h0:n=0
 ·subst h0
  simp[Go.Lib.decDigits]
 have hn:(n == 0)=false:=by simpa using h0
 rw[hn,cond_false,ydn n _ n [] h1 h2 (by omega)]
 have hl:=ytt n.natAbs
 have hr:=ypm n.natAbs (by omega)
 simp only[List.nil_append]
 by_cases hneg:n<0
 ·have e1:IntKind.wrap .i64 (((yyd n.natAbs).length+1:Int)-1)=((((yyd n.natAbs).length+1:Nat)):Int)-1:=by rw[IntKind.wrap_i64];omega
  simp only[hneg,decide_true,cond_true,e1,if_true]
  rw[ygp n _ _ _ _ (by omega) (by simp) (by omega)]
  simp only[List.nil_append]
  rw[List.take_of_length_le (by simp),List.reverse_append,List.map_append,hr]
  rfl
 ·have e1:IntKind.wrap .i64 (((yyd n.natAbs).length:Int)-1)=(((yyd n.natAbs).length:Nat):Int)-1:=by rw[IntKind.wrap_i64];omega
  simp only[hneg,decide_false,cond_false,e1,if_false]
  rw[yap n _ _ _ _ (by omega) (by simp) (by omega)]
  simp only[List.nil_append]
  rw[List.take_of_length_le (by simp),hr]
  congr 1
  omega
theorem y0b (n:Int) (h1 : -1000000000000≤n) (h2:n≤1000000000000):(za n).length≤n.natAbs+2:=by
 rw[ycf n h1 h2]
 exact ybn n
end Go.Ab

namespace Go.Ab
open Go Go.Proofs
def zjc (a0:Int):(List UInt8):=
 (bif ((a0.tmod 10) == 0)then(za (IntKind.wrap .i64 (a0.tdiv 10)))++[115]else(((za (IntKind.wrap .i64 (a0.tdiv 10)))++[46])++(za (a0.tmod 10)))++[115])
namespace N280
theorem DD:DOk Tryz.prog (Go.Ab.DD [(166,dP D_za)]):=ya ytc.e <| yd _
theorem dn:type_of% (@D_za.eq_1):=by and_intros<;>intros<;>rfl
set_option maxHeartbeats 400000 in
set_option maxRecDepth 20000 in
theorem den (a0:Int) (hp0:0≤a0) (hp1:a0≤1000000):Den Tryz.prog 280 [.int .i64 a0] (.str (zjc a0)):=by
 generalize hR:zjc a0=r
 unfold zjc at hR
 refine di Tryz.func280 Tryz.ntmps280 Tryz.results280 ?_
 intro c hL hc hk
 clear hL
 simp only[pars,Nat.zero_add]
 have hd:a0.tdiv 10=a0 / 10:=Int.tdiv_eq_ediv_of_nonneg hp0
 have hw:IntKind.wrap .i64 (a0.tdiv 10)=a0 / 10:=by rw[IntKind.wrap_i64];omega
 have ht:=yhi a0
 have h1:=y0b (IntKind.wrap .i64 (a0.tdiv 10)) (by omega) (by omega)
 have h2:=y0b (a0.tmod 10) (by omega) (by omega)
 have h3:(IntKind.wrap .i64 (a0.tdiv 10)).natAbs≤100000:=by omega
 have h4:(a0.tmod 10).natAbs≤10:=by omega
 iterate 2 refine rS ?_
 refine AWP.cond rfl (fun hb => ?_) (fun hb => ?_)
 ·replace hR:=ct hR
  refine rS ?_
  refine AWP.ret ?_
  subst hR
  exact es
 ·replace hR:=cf hR
  refine rS ?_
  refine AWP.ret ?_
  subst hR
  exact es
end N280
def D_zjc : DF
 | [x0]=>some (.str (zjc (rdI x0)),false,[wI .i64 x0,0≤(rdI x0),(rdI x0)≤1000000])
 | _=>none
theorem yvs:OkD Tryz.prog 280 D_zjc:=by unfold D_zjc;exact dk N280.den
end Go.Ab

namespace Go.Ab
open Go Go.Proofs
theorem y7p (n:Nat):(zvb.getD n default).length≤3:=by
 rw[List.getD_eq_getElem?_getD]
 have h:∀ x∈zvb,x.length≤3:=by decide
 cases hg:zvb[n]? with
 | none=>show(0:Nat)≤3;omega
 | some x=>exact h x (List.mem_of_getElem? hg)
theorem yeu (n:Int) (h1:0≤n) (h2:n≤1000000):(zjc n).length≤43:=by
 unfold zjc
 have hd:n.tdiv 10=n / 10:=Int.tdiv_eq_ediv_of_nonneg h1
 have hw:IntKind.wrap .i64 (n.tdiv 10)=n / 10:=by rw[IntKind.wrap_i64];omega
 have ht:=yhi n
 rw[hw,ycf _ (by omega) (by omega),ycf _ (by omega) (by omega)]
 have h3:=y8g (n / 10) (by omega) (by omega)
 have h4:=y8g (n.tmod 10) (by omega) (by omega)
 simp only[Bool.cond_eq_ite]
 split
 ·simp only[List.length_append,List.length_cons,List.length_nil];omega
 ·simp only[List.length_append,List.length_cons,List.length_nil];omega
end Go.Ab
