/- A part of a proof: walks of functions and lemmas of our own. No conditions. -/
import Derived.Test.YthjljhdfdppkoaaGreatDoorNAx
import Derived.Test.YthjljhdfdppkoaaGreatDoorNAu
import Derived.Test.YthjljhdfdppkoaaGreatDoorNAo
import Derived.Test.YthjljhdfdppkoaaGreatDoorNAq
import Derived.Test.YthjljhdfdppkoaaGreatDoorNAr
import Derived.Test.YthjljhdfdppkoaaGreatDoorNAl
import Derived.Test.YthjljhdfdppkoaaGreatDoorNAi
import Derived.Test.YthjljhdfdppkoaaGreatDoorNAn
import Derived.Test.YthjljhdfdppkoaaGreatDoorNAs
import Derived.Test.YthjljhdfdppkoaaGreatDoorNAp
set_option linter.unusedSectionVars false
set_option linter.unusedVariables false
set_option linter.unusedSimpArgs false
set_option maxHeartbeats 1000000
namespace Go.Ab
open Go Go.Proofs
theorem yk7 (g:List Int):zie g=zkc g:=Bool.eq_iff_iff.2 ((ybl g).trans (ymf g).symm)
theorem y9n (a:List UInt8):(zic a != [])=decide (a.length=1/\65<=(a.getD 0 0).toNat/\(a.getD 0 0).toNat<=90):=by
 rw[ysk];by_cases h:a.length=1/\65<=(a.getD 0 0).toNat/\(a.getD 0 0).toNat<=90
 ·rw[if_pos h,decide_eq_true h]
  have hlt:(a.getD 0 0).toNat-65<ynd.length:=by show _<26;omega
  rw[List.getD_eq_getElem?_getD,List.getElem?_eq_getElem hlt,Option.getD_some];have:=(yhi _ (List.getElem_mem hlt)).1;rw[bne_iff_ne];intro h2;rw[h2]at this;simp at this
 ·rw[if_neg h,decide_eq_false h];rfl
theorem yt4 (L:List UInt8) (g:List Int) :
  (bif (L == [])then(((g.length:Int) == 0) || (((g.length:Int) == 1) && (ze (g.getD 0 default) 2 9)))else((L == [76]) && (zdd g [6]))) =
  (bif (L == [76])then(((g.length:Int) == 1) && ((g.getD 0 default) == 6))else(((L == []) && decide ((g.length:Int)<=1)) && (zkc g))):=by
 by_cases h1:L=[]
 ·subst h1
  simp only[show(([]:List UInt8) == [])=true from rfl,show(([]:List UInt8) == [76])=false from rfl,cond_true,cond_false,Bool.true_and];apply Bool.eq_iff_iff.2;rw[Bool.and_eq_true,ymf,decide_eq_true_eq]
  match g with
  | []=>simp[yxy]
  | [x]=>
   have e:((([x]:List Int).length:Int) == 0)=false:=rfl;have e2:((([x]:List Int).length:Int) == 1)=true:=rfl;rw[e,e2];simp only[Bool.false_or,Bool.true_and,ze,Bool.and_eq_true,decide_eq_true_eq,List.getD_cons_zero,yxy,List.length_singleton,List.mem_singleton,forall_eq,List.sum_cons,List.sum_nil,ne_eq,List.cons.injEq,and_true];omega
  | x::y::t=>
   have e:(((x::y::t).length:Int) == 0)=false:=by rw[beq_eq_false_iff_ne];simp only[List.length_cons];omega
   have e2:(((x::y::t).length:Int) == 1)=false:=by rw[beq_eq_false_iff_ne];simp only[List.length_cons];omega
   rw[e,e2];simp only[Bool.false_and,Bool.or_self,Bool.false_eq_true,false_iff,List.length_cons];omega
 ·have e1:(L == [])=false:=by simpa using h1
  rw[e1];by_cases h2:L=[76]
  ·subst h2
   simp only[BEq.rfl,cond_true,cond_false,Bool.true_and,y1f];apply Bool.eq_iff_iff.2;rw[Bool.and_eq_true,decide_eq_true_eq,beq_iff_eq,beq_iff_eq];constructor
   ·intro h;subst h;simp
   ·rintro⟨h3,h4⟩
    obtain⟨x,rfl⟩:=List.length_eq_one_iff.1 (show g.length=1 by omega);simp only[List.getD_cons_zero]at h4;rw[h4]
  ·have e2:(L == [76])=false:=by simpa using h2
   rw[e2];simp
theorem y24 (c:Character) (hl:c.Colors.length<9223372036854775808):zee c=(zhc c.Colors && zmb c):=by
 unfold zee zmb zxg zg;rw[yos _ hl, <- yt4,yk7,y9n]
 cases zjb c.Colors with
 | false=>simp
 | true=>
  simp only[Bool.not_true,Bool.or_false,Bool.true_and];rcases(show c.Kind=1\/c.Kind=2\/c.Kind=3\/c.Kind=4\/c.Kind=5\/c.Kind=6\/c.Kind=7\/c.Kind=8\/(c.Kind<1\/8<c.Kind)by omega)with h|h|h|h|h|h|h|h|h
  ·rw[h];rfl
  ·rw[h];rfl
  ·rw[h];rfl
  ·rw[h];rfl
  ·rw[h];rfl
  ·rw[h];rfl
  ·rw[h];rfl
  ·rw[h]
   show((((((c.Group.length:Int) == 0) && ((c.Letter.length:Int) == 1)) && decide (65<=((c.Letter.getD 0 0).toNat:Int))) && decide (((c.Letter.getD 0 0).toNat:Int)<=90)))=(decide (c.Letter.length=1/\65<=(c.Letter.getD 0 0).toNat/\(c.Letter.getD 0 0).toNat<=90) && ((c.Group.length:Int) == 0))
   apply Bool.eq_iff_iff.2;simp only[Bool.and_eq_true,beq_iff_eq,decide_eq_true_eq];omega
  ·have e0:(decide (1<=c.Kind) && decide (c.Kind<=8))=false:=by
    rw[Bool.and_eq_false_iff,decide_eq_false_iff_not,decide_eq_false_iff_not];omega
   have e:∀ n:Int,1<=n->n<=8->(c.Kind == n)=false:=fun n h1 h2=>by rw[beq_eq_false_iff_ne];omega
   rw[e0,e 1 (by omega) (by omega),e 2 (by omega) (by omega),e 3 (by omega) (by omega),e 4 (by omega) (by omega),e 5 (by omega) (by omega),e 6 (by omega) (by omega),e 7 (by omega) (by omega),e 8 (by omega) (by omega)];rfl
theorem ylcb (l:List Int):zqf l=zqe l:=rfl
theorem yul (c:Character):ztd c=zxc c:=rfl
theorem yx0 (c:Character) (h:zmb c=true) (h8:c.Kind≠8):(c.Letter != [])=(c.Letter == [76]):=by
 unfold zmb at h;simp only[Bool.cond_eq_ite]at h;have e8:(c.Kind == 8)=false:=by rw[beq_eq_false_iff_ne];exact h8
 repeat' split at h
 all_goals first
  | (rename_i q;rw[e8]at q;cases q;done)
  | (cases h;done)
  | (simp only[Bool.and_eq_true,beq_iff_eq]at h;rw[h.2];rfl)
  | (simp only[Bool.and_eq_true,beq_iff_eq]at h;rw[h.1];rfl)
  | (rename_i q;simp only[beq_iff_eq]at q;rw[q];rfl)
theorem yu1 (k:Int) (h:k=2\/k=4\/k=5\/k=6\/k=7\/k=8):(zbb k).1=zdf k/\(zbb k).2.1=zqc k:=by
 rcases h with h|h|h|h|h|h<;>subst h<;>exact⟨rfl,rfl⟩
theorem ys7 (c:Character) (h:zmb c=true) (hk:c.Kind=2\/c.Kind=4\/c.Kind=5\/c.Kind=6\/c.Kind=7\/c.Kind=8):zy c=zp c:=by
 obtain⟨r1,r2⟩:=yu1 c.Kind hk;by_cases h8:c.Kind=8
 ·have hs:(zic c.Letter != [])=true:=by
   unfold zmb at h;rw[h8]at h;have h:(((zic c.Letter) != []) && ((c.Group.length:Int) == 0))=true:=h;rw[Bool.and_eq_true]at h;exact h.1
  rw[y9n,decide_eq_true_eq]at hs;have e1:=ysk c.Letter;rw[if_pos hs]at e1;have e2:=ymh ((c.Letter.getD 0 0).toNat:Int);rw[ytl _ (by omega) (by omega),show((((c.Letter.getD 0 0).toNat:Int)-65).toNat)=(c.Letter.getD 0 0).toNat-65 by omega]at e2;have hd:(default:List UInt8)=[]:=rfl;rw[hd]at e2
  have hall:∀ x∈ynd.getD ((c.Letter.getD 0 0).toNat-65) [],x=45\/x=46:=by
   have hlt:(c.Letter.getD 0 0).toNat-65<ynd.length:=by show _<26;omega
   rw[List.getD_eq_getElem?_getD,List.getElem?_eq_getElem hlt,Option.getD_some];exact(yhi _ (List.getElem_mem hlt)).2.2
  generalize ynd.getD ((c.Letter.getD 0 0).toNat-65) []=code at *
  have hb:yh (ypy c) code.length 0 []=yh (yqr c) code.length 0 []:=y6m _ _ _ (fun j u _ hj=>by
   unfold ypy yqr;rw[e1,e2,r1,r2,h8]
   have hg:(code.map (fun c=>if c=46 then(5:Int)else 15)).getD j default=if code.getD j 0=46 then 5 else 15:=by
    rw[List.getD_eq_getElem?_getD,List.getD_eq_getElem?_getD,List.getElem?_map,List.getElem?_eq_getElem (by omega)];rfl
   rw[hg];have hm:=hall (code.getD j 0) (by rw[List.getD_eq_getElem?_getD,List.getElem?_eq_getElem (by omega),Option.getD_some];exact List.getElem_mem _);generalize code.getD j 0=x at hm
   rcases hm with hm|hm<;>subst hm<;>rfl)
  unfold zy zp;rw[h8,e1,e2];simp only[List.length_map,Nat.sub_zero];rw[hb];rfl
 ·have e8:(c.Kind == 8)=false:=by rw[beq_eq_false_iff_ne];exact h8
  unfold zy zp;rw[e8,yx0 c h h8,r2]
  have b3:ykz c=ymt c:=by
   funext i s j t
   unfold ykz ymt;rw[r1,r2]
  have b5:yay c=y8r c:=by
   funext i s j t
   unfold yay y8r;rw[r1,r2]
  have b2:ydz c=y9r c:=by
   funext i s
   unfold ydz y9r;rw[b3];all_goals rfl
  have b4:y5y c=yiq c:=by
   funext i s
   unfold y5y yiq;rw[b5];all_goals rfl
  rw[b2,b4];rfl
theorem ymw (c:Character) (h:zmb c=true) (hs:ztd c=false):zch c=znb c:=by
 unfold zch znb;rw[hs, <- yul,hs];simp only[cond_false];by_cases h3:c.Kind=3
 ·rw[h3];rfl
 ·have e3:(c.Kind == 3)=false:=by rw[beq_eq_false_iff_ne];exact h3
  rw[e3];simp only[cond_false]
  have hk:c.Kind=2\/c.Kind=4\/c.Kind=5\/c.Kind=6\/c.Kind=7\/c.Kind=8:=by
   unfold zmb at h;unfold ztd at hs;simp only[Bool.cond_eq_ite]at h;simp only[Bool.or_eq_false_iff,beq_eq_false_iff_ne]at hs;repeat' split at h
   all_goals (try simp only[beq_iff_eq]at *)
   all_goals first|omega|(cases h;done)
  rw[ys7 c h hk,ylcb];have hg:=(y6e c h).1
  have hone:c.Kind=6\/c.Kind=7\/c.Kind=8->c.Group.length<=1:=by
   intro hq;unfold zmb at h;simp only[Bool.cond_eq_ite]at h;repeat' split at h
   all_goals (try simp only[Bool.and_eq_true,Bool.or_eq_true,beq_iff_eq,y1f,decide_eq_true_eq]at *)
   all_goals first|omega|(rcases h with h|h<;>omega)|(rw[h.2];simp)
  have e1:∀ n:Int,IntKind.wrap .i64 n=n\/True:=fun _=>.inr trivial
  unfold zog;rcases hk with hk|hk|hk|hk|hk|hk
  ·rw[hk]
   cases decide (1<(c.Group.length:Int))<;>rfl
  ·rw[hk]
   cases decide (1<(c.Group.length:Int))<;>rfl
  ·rw[hk]
   cases decide (1<(c.Group.length:Int))<;>rfl
  ·have:=hone (by omega)
   rw[hk,decide_eq_false (show ¬ 1<(c.Group.length:Int)by omega)];rfl
  ·have:=hone (by omega)
   rw[hk,decide_eq_false (show ¬ 1<(c.Group.length:Int)by omega)];rfl
  ·have:=hone (by omega)
   rw[hk,decide_eq_false (show ¬ 1<(c.Group.length:Int)by omega)];rfl
theorem yqk (c:Character) (hl:c.Colors.length<9223372036854775808):zfb c=zmc c:=by
 unfold zfb zmc;rw[y24 c hl, <- yul]
 cases h1:zhc c.Colors with
 | false=>rfl
 | true=>
  cases h2:zmb c with
  | false=>rfl
  | true=>
   cases h3:ztd c with
   | true=>rfl
   | false=>
    rw[ymw c h2 h3];simp only[Bool.not_true,Bool.or_self,Bool.and_self,cond_false,ze,zg]
    cases h4:(c.Kind == 3)with
    | false=>
     have:(c.Kind != 3)=true:=by rw[bne,h4];rfl
     rw[this];simp
    | true=>
     have:(c.Kind != 3)=false:=by rw[bne,h4];rfl
     rw[this];simp only[Bool.false_or,Bool.true_and]
     cases h5:(c.Period.tmod 2 == 0)with
     | true=>
      have:(c.Period.tmod 2 != 0)=false:=by rw[bne,h5];rfl
      rw[this];simp
     | false=>
      have:(c.Period.tmod 2 != 0)=true:=by rw[bne,h5];rfl
      rw[this];simp
theorem ymbb (s:List UInt8) (c:UInt8) : -1<=Go.Lib.indexByte s c/\(0<=Go.Lib.indexByte s c↔c∈s):=by
 induction s with
 | nil=>simp[Go.Lib.indexByte]
 | cons b l ih=>
  obtain⟨i1,i2⟩:=ih;by_cases hb:b=c
  ·subst hb;simp[Go.Lib.indexByte]
  ·have hb2:¬ c=b:=fun h=>hb h.symm
   have e1:(b == c)=false:=by simpa using hb
   by_cases hm:c∈l
   ·have h0:=i2.2 hm
    have e2:(Go.Lib.indexByte l c == -1)=false:=by rw[beq_eq_false_iff_ne];omega
    have e3:Go.Lib.indexByte (b::l) c=Go.Lib.indexByte l c+1:=by simp only[Go.Lib.indexByte,e1,e2,Bool.false_eq_true,if_false]
    rw[e3];exact⟨by omega,fun _=>List.mem_cons_of_mem _ hm,fun _=>by omega⟩
   ·have h0:¬ 0<=Go.Lib.indexByte l c:=fun h=>hm (i2.1 h)
    have e0:Go.Lib.indexByte l c = -1:=by omega
    have e3:Go.Lib.indexByte (b::l) c = -1:=by simp only[Go.Lib.indexByte,e1,e0,Bool.false_eq_true,if_false];rfl
    rw[e3];refine⟨by omega,fun h=>by omega,fun h => ?_⟩;rcases List.mem_cons.1 h with h|h
    ·exact absurd h hb2
    ·exact absurd h hm
theorem y1u (s:List UInt8) (c:UInt8):zgc s [c]=decide (c∈s):=by
 unfold zgc;rw[List.getD_cons_zero];exact decide_eq_decide.2 (ymbb s c).2
theorem ye4 (s:List UInt8) (c:UInt8):zgc (s++[c]) [c]=true:=by
 rw[y1u];simp
theorem yccb (s:List UInt8) (b c:UInt8) (h:b≠c):zgc (s++[b]) [c]=zgc s [c]:=by
 rw[y1u,y1u];have:¬ c=b:=fun e=>h e.symm
 simp[this]
theorem ynw (c:UInt8) (g:Sector->List UInt8->Except (List UInt8) (List UInt8)) (hg:∀ x u,g x u=bif ((x.Color == [c]) && (!(zgc u [c])))then .ok (u++[c])else .ok u) :
  ∀ (l:List Sector) (u:List UInt8),zgc u [c]=true->ykl g l u=.ok u
 | [],u,_=>rfl
 | x::l,u,h=>by
  rw[yqg,hg,h,Bool.not_true,Bool.and_false];exact ynw c g hg l u h
theorem ye0 (c:UInt8) (g:Sector->List UInt8->Except (List UInt8) (List UInt8)) (hg:∀ x u,g x u=bif ((x.Color == [c]) && (!(zgc u [c])))then .ok (u++[c])else .ok u) :
  ∀ (l:List Sector) (u:List UInt8),zgc u [c]=false->ykl g l u=.ok (bif l.any (fun x=>x.Color == [c])then u++[c]else u)
 | [],u,_=>rfl
 | x::l,u,h=>by
  rw[yqg,hg,h,Bool.not_false,Bool.and_true,List.any_cons]
  cases hx:(x.Color == [c])with
  | true=>
   simp only[cond_true,Bool.true_or];exact ynw c g hg l _ (ye4 u c)
  | false=>
   simp only[cond_false,Bool.false_or];exact ye0 c g hg l u h
theorem yq0 (c:List UInt8) (g:Sector->List UInt8->Except (Sum (List UInt8) (List UInt8)) (List UInt8)) (hg:∀ x u,g x u=bif (x.Color == c)then .error (.inr (u++c))else .ok u) :
  ∀ (l:List Sector) (u:List UInt8),ykl g l u=bif l.any (fun x=>x.Color == c)then .error (.inr (u++c))else .ok u
 | [],u=>rfl
 | x::l,u=>by
  rw[yqg,hg,List.any_cons]
  cases hx:(x.Color == c)with
  | true=>rfl
  | false=>
   simp only[cond_false,Bool.false_or];exact yq0 c g hg l u
def yje (a:List Sector) (s:List UInt8) (c:UInt8):List UInt8:=bif a.any (fun x=>x.Color == [c])then s++[c]else s
theorem yog (a:List Sector) (i:Nat) (s:List UInt8) (c:UInt8) (h4:i<4) (hc:(([87,82,71,89].take ((IntKind.wrap .i64 ((i:Int)+1)).toNat)).drop i)=[c]) (h:zgc s [c]=false) :
  y7m a i s=.ok (yje a s c):=by
 unfold y7m;rw[yxd (fun x u=>bif ((x.Color == [c]) && (!(zgc u [c])))then .ok (u++[c])else .ok u) a s (fun j u _=>by simp only[yit,hc])];rw[ye0 c _ (fun _ _=>rfl) a s h];rfl
theorem yxc (a:List Sector) (i:Nat) (s:List UInt8) (c:UInt8) (hc:([[87],[82],[71],[89]]:List (List UInt8)).getD i default=[c]):ydn a i s=.ok (yje a s c):=by
 unfold ydn;rw[yxd (fun x u=>bif (x.Color == [c])then .error (.inr (u++[c]))else .ok u) a s (fun j u _=>by simp only[y3r,hc])];rw[yq0 [c] _ (fun _ _=>rfl) a s];unfold yje;cases a.any (fun x=>x.Color == [c])<;>rfl
theorem ybd (a:List Sector) (s:List UInt8) (b c:UInt8) (h:b≠c):zgc (yje a s b) [c]=zgc s [c]:=by
 unfold yje
 cases a.any (fun x=>x.Color == [b])with
 | true=>exact yccb s b c h
 | false=>rfl
theorem yoj (a:List Sector):zfd a=zeb a:=by
 unfold zfd zeb;have n0:∀ c:UInt8,zgc [] [c]=false:=by intro c;simp[zgc,Go.Lib.indexByte]
 have l4:([87,82,71,89]:List Nat).length-0=4:=rfl;rw[l4];simp only[yh,Nat.sub_zero];rw[yog a 0 [] 87 (by omega) rfl (n0 _),yxc a 0 [] 87 rfl];simp only;rw[yog a (0+1) _ 82 (by omega) rfl (by rw[ybd _ _ _ _ (by decide)];exact n0 _),yxc a (0+1) _ 82 rfl];simp only;rw[yog a (0+1+1) _ 71 (by omega) rfl (by rw[ybd _ _ _ _ (by decide),ybd _ _ _ _ (by decide)];exact n0 _),yxc a (0+1+1) _ 71 rfl];simp only;rw[yog a (0+1+1+1) _ 89 (by omega) rfl (by rw[ybd _ _ _ _ (by decide),ybd _ _ _ _ (by decide),ybd _ _ _ _ (by decide)];exact n0 _),yxc a (0+1+1+1) _ 89 rfl]
def zmf (a0:Aid):Bool:=
 (bif (((!(zfb a0.Light)) || (!(zeh a0.Intensity))) || (!(zgb a0.Sectors)))then false else(bif ((a0.Sectors.length:Int) == 0)then((a0.Light.Colors.length:Int) == 1)else((zfd a0.Sectors) == a0.Light.Colors)))
namespace N67
theorem DD:DOk Tryz.prog (Go.Ab.DD [(131,dP D_zfb),(132,dP D_zgb),(139,dP D_zeh),(140,dP D_zfd)]):=ya y7o.e <| ya yaq.e <| ya yx6.e <| ya y35.e <| yf _
abbrev dn:=cj @D_zfb.eq_1 <| cj @D_zgb.eq_1 <| cj @D_zeh.eq_1 <| @D_zfd.eq_1
theorem den (a0:Aid) (hb0:bdAid a0):Den Tryz.prog 67 [.agg (eAid a0)] (.bool (zmf a0)):=by
 generalize hR:zmf a0=r;unfold zmf at hR;refine di Tryz.func67 Tryz.ntmps67 Tryz.results67 ?_;intro c hL hc hk;obtain⟨hL0,_⟩:=hL;have hw0:bwAid a0:=y3 a0 hL0;clear hL0;simp only[pars,Nat.zero_add];iterate 2 refine rS ?_
 refine AWP.cond rfl (fun hb => ?_) (fun hb => ?_)
 ·replace hR:=ct hR
  refine rS ?_;refine AWP.ret ?_;subst hR;exact es
 ·replace hR:=cf hR
  refine rS ?_;refine AWP.cond rfl (fun hb => ?_) (fun hb => ?_)
  ·replace hR:=ct hR
   refine rS ?_;refine AWP.ret ?_;subst hR;exact es
  ·replace hR:=cf hR
   refine rD 6 ?_;refine AWP.ret ?_;subst hR;exact es
end N67
def D_zmf : DF
 | [x0]=>some (.bool (zmf (rdG dAid x0)),false,[wG eAid dAid x0,bdAid (rdG dAid x0)])
 | _=>none
theorem y0x:OkD Tryz.prog 67 D_zmf:=by unfold D_zmf;exact dk N67.den
def zfc (a0:Aid):Bool:=
 ((((((zgd a0.Number) && (zjf a0.Name)) && (zyd a0.At)) && (znh a0.Height)) && (zed a0.Mark)) && ((zmf a0) || (zdh a0)))
namespace N64
theorem DD:DOk Tryz.prog (Go.Ab.DD [(123,dP D_zyd),(127,dP D_zed),(133,dP D_zjf),(134,dP D_znh),(135,dP D_zdh),(39,dP D_zgd),(67,dP D_zmf)]):=ya yep.e <| ya yzp.e <| ya yt5.e <| ya yf6.e <| ya yr3.e <| ya y5o.e <| ya y0x.e <| yf _
abbrev dn:=cj @D_zyd.eq_1 <| cj @D_zed.eq_1 <| cj @D_zjf.eq_1 <| cj @D_znh.eq_1 <| cj @D_zdh.eq_1 <| cj @D_zgd.eq_1 <| @D_zmf.eq_1
theorem den (a0:Aid) (hb0:bdAid a0):Den Tryz.prog 64 [.agg (eAid a0)] (.bool (zfc a0)):=by
 generalize hR:zfc a0=r;unfold zfc at hR;refine di Tryz.func64 Tryz.ntmps64 Tryz.results64 ?_;intro c hL hc hk;obtain⟨hL0,_⟩:=hL;have hw0:bwAid a0:=y3 a0 hL0;clear hL0;simp only[pars,Nat.zero_add];iterate 2 refine rS ?_
 refine AWP.ret ?_;subst hR;exact es
end N64
def D_zfc : DF
 | [x0]=>some (.bool (zfc (rdG dAid x0)),false,[wG eAid dAid x0,bdAid (rdG dAid x0)])
 | _=>none
theorem y1h:OkD Tryz.prog 64 D_zfc:=by unfold D_zfc;exact dk N64.den
def y4l (a0:(List Aid)) (i1:Nat) (s1:Unit):Except (Bool) (Unit):=
 (bif ((!(zfc (a0.getD i1 default))) || (decide (0<(i1:Int)) && decide (((a0.getD i1 default).Number)<=((a0.getD ((IntKind.wrap .i64 ((i1:Int)-1)).toNat) default).Number))))then .error false else .ok ())
def zob (a0:(List Aid)):Bool:=
 (match yh (y4l a0) (a0.length-0) 0 ()with|.error e=>e|.ok s1=>(zlb (a0.length:Int) 24))
namespace N84
theorem DD:DOk Tryz.prog (Go.Ab.DD [(64,dP D_zfc),(78,dP D_zlb)]):=ya y1h.e <| ya ymg.e <| yf _
abbrev dn:=cj @D_zfc.eq_1 <| @D_zlb.eq_1
theorem den (a0:(List Aid)) (hb0:a0.length<1099511627776) (hb1:∀ v∈a0,bdAid v):Den Tryz.prog 84 [encL 16 eAid a0] (.bool (zob a0)):=by
 generalize hR:zob a0=r;unfold zob at hR;refine di Tryz.func84 Tryz.ntmps84 Tryz.results84 ?_;intro c hL hc hk;obtain⟨hL0,_⟩:=hL;have hw0:a0.length<9223372036854775808:=Nat.lt_succ_of_le (yb hL0).1;have hw1:∀ v∈a0,bwAid v:=fun v hv=>y3 v ((yb hL0).2 v hv)
 clear hL0;simp only[pars,Nat.zero_add];iterate 2 refine rS ?_
 refine AWP.block ?_;generalize hz1:yh (y4l a0) (a0.length-0) 0 ()=z1 at hR;refine AWP.range (y4l a0) (fun i1 s1=>⟨[(0,encL 16 eAid a0),(5,encL 16 eAid a0),(6,.int .i64 (a0.length:Int)),(7,.int .i64 (i1:Int))],[]⟩) (fun i1 s1=>True) (a0.length) 0 () [] hz1 ot wt sm ?_;clear hz1;intro i1 s1 hi1 hW1 hz1;refine rS ?_;refine AWP.seq ?_;refine AWP.cond rfl (fun hb => ?_) (fun hb => ?_)
 ·have hlt1:i1<a0.length:=ot
  rw[yl hlt1]at hz1;simp only[y4l]at hz1;refine rS ?_;refine rD 18 ?_;refine AWP.cond rfl (fun hb => ?_) (fun hb => ?_)
  ·simp only[hb,cond_true]at hz1
   refine rS ?_;refine AWP.ret ?_;subst hz1;dsimp only at hR;subst hR;exact es
  ·simp only[hb,cond_false]at hz1
   refine rS ?_;exact⟨_,[],hlt1,wt,hz1,sm⟩
 ·obtain rfl:i1=a0.length:=ot
  rw[yk (Nat.le_refl _)]at hz1;subst hz1;dsimp only at hR;refine AWP.exit ?_;refine yd ?_;refine rS ?_;refine AWP.ret ?_;subst hR;exact es
end N84
def D_zob : DF
 | [x0]=>some (.bool (zob (rdL dAid x0)),false,[wL 16 eAid dAid x0,(rdL dAid x0).length<1099511627776,∀ v∈(rdL dAid x0),bdAid v])
 | _=>none
theorem ykk:OkD Tryz.prog 84 D_zob:=by unfold D_zob;exact dk N84.den
def zpb (a0:Aid):Bool:=
 (bif (((((!(zg a0.Number 1 9999)) || (!(zjc a0.Name))) || (!(zpd a0.At))) || (!(zg a0.Height 0 3000))) || (!(zjd a0.Mark)))then false else(bif (zyc a0.Light)then(((a0.Sectors.length:Int) == 0) && (a0.Intensity == 0))else(bif (((!(zmc a0.Light)) || (!(zg a0.Intensity 1 100000000))) || (!(zv a0.Sectors)))then false else(bif ((a0.Sectors.length:Int) == 0)then((a0.Light.Colors.length:Int) == 1)else((zeb a0.Sectors) == a0.Light.Colors)))))
namespace N51
theorem DD:DOk Tryz.prog (Go.Ab.DD [(105,dP D_zjc),(106,dP D_zpd),(107,dP D_zjd),(108,dP D_zyc),(109,dP D_zmc),(110,dP D_zv),(49,dP D_zg),(98,dP D_zeb)]):=ya y05.e <| ya y43.e <| ya y65.e <| ya yd4.e <| ya yf5.e <| ya y98.e <| ya y5e.e <| ya y7v.e <| yf _
abbrev dn:=cj @D_zjc.eq_1 <| cj @D_zpd.eq_1 <| cj @D_zjd.eq_1 <| cj @D_zyc.eq_1 <| cj @D_zmc.eq_1 <| cj @D_zv.eq_1 <| cj @D_zg.eq_1 <| @D_zeb.eq_1
abbrev ol:=@zg.eq_1
theorem den (a0:Aid) (hb0:bdAid a0):Den Tryz.prog 51 [.ep (eAid a0)] (.bool (zpb a0)):=by
 generalize hR:zpb a0=r;unfold zpb at hR;refine di Tryz.func51 Tryz.ntmps51 Tryz.results51 ?_;intro c hL hc hk;obtain⟨hL0,_⟩:=hL;have hw0:bwAid a0:=y3 a0 hL0;clear hL0;simp only[pars,Nat.zero_add];iterate 2 refine rS ?_
 refine AWP.cond rfl (fun hb => ?_) (fun hb => ?_)
 ·replace hR:=ct hR
  refine rS ?_;refine AWP.ret ?_;subst hR;exact es
 ·replace hR:=cf hR
  refine rS ?_;refine AWP.cond rfl (fun hb => ?_) (fun hb => ?_)
  ·replace hR:=ct hR
   refine rS ?_;refine AWP.ret ?_;subst hR;exact es
  ·replace hR:=cf hR
   refine rS ?_;refine AWP.cond rfl (fun hb => ?_) (fun hb => ?_)
   ·replace hR:=ct hR
    refine rS ?_;refine AWP.ret ?_;subst hR;exact es
   ·replace hR:=cf hR
    refine rS ?_;refine AWP.cond rfl (fun hb => ?_) (fun hb => ?_)
    ·replace hR:=ct hR
     refine rS ?_;refine AWP.ret ?_;subst hR;exact es
    ·replace hR:=cf hR
     refine rD 11 ?_;refine AWP.ret ?_;subst hR;exact es
end N51
def D_zpb : DF
 | [x0]=>some (.bool (zpb (rdP dAid x0)),false,[wP eAid dAid x0,bdAid (rdP dAid x0)])
 | _=>none
theorem y26:OkD Tryz.prog 51 D_zpb:=by unfold D_zpb;exact dk N51.den
def yex (a0:(List Aid)) (i1:Nat) (s1:Unit):Except (Bool) (Unit):=
 (bif ((!(zpb (a0.getD i1 default))) || (decide (0<(i1:Int)) && decide (((a0.getD i1 default).Number)<=((a0.getD ((IntKind.wrap .i64 ((i1:Int)-1)).toNat) default).Number))))then .error false else .ok ())
def zzh (a0:(List Aid)):Bool:=
 (match yh (yex a0) (a0.length-0) 0 ()with|.error e=>e|.ok s1=>decide ((a0.length:Int)<=24))
def zpg (a0:Aid):Bool:=(a0.Light.Kind != 0)
theorem yts (c:Character) (h:zyc c=true):zfb c=false:=by
 unfold zyc at h;simp only[Bool.and_eq_true,beq_iff_eq]at h;obtain⟨⟨⟨⟨h1,h2⟩,h3⟩,h4⟩,h5⟩:=h;cases c
 simp only at h1 h2 h3 h4 h5;rename_i k g l cs p
 have hg:g=[]:=List.length_eq_zero_iff.1 (by omega);subst h1 hg h3 h4 h5;decide
theorem ye6 (a:Aid):zdh a=((zyc a.Light && ((a.Sectors.length:Int) == 0)) && (a.Intensity == 0)):=by
 unfold zdh zxe zyc;rw[yle]
 have:decide (a.Light.Group=[])=((a.Light.Group.length:Int) == 0):=by
  cases a.Light.Group with
  | nil=>rfl
  | cons x l=>simp;omega
 rw[this]
theorem y0d (a:Aid) (hl:a.Light.Colors.length<9223372036854775808) (hs:a.Sectors.length<9223372036854775807):zfc a=zpb a:=by
 unfold zfc zpb;rw[ye6];unfold zmf;rw[yzb a.Sectors hs,yoj,yag,yy8];have e1:zgd a.Number=zg a.Number 1 9999:=rfl;have e2:zyd a.At=zpd a.At:=rfl;have e3:znh a.Height=zg a.Height 0 3000:=rfl;have e4:zeh a.Intensity=zg a.Intensity 1 100000000:=rfl;rw[e1,e2,e3,e4]
 cases hp:zyc a.Light with
 | true=>
  rw[yts _ hp];simp only[Bool.not_false,Bool.true_or,cond_true,Bool.true_and,Bool.false_or];cases zg a.Number 1 9999<;>cases zjc a.Name<;>cases zpd a.At<;>cases zg a.Height 0 3000<;>cases zjd a.Mark<;>rfl
 | false=>
  rw[yqk a.Light hl];simp only[Bool.false_and,Bool.or_false,cond_false];cases zg a.Number 1 9999<;>cases zjc a.Name<;>cases zpd a.At<;>cases zg a.Height 0 3000<;>cases zjd a.Mark<;>rfl
theorem ygq (l:List Aid) (h:∀ v∈l,v.Light.Colors.length<9223372036854775808/\v.Sectors.length<9223372036854775807):zob l=zzh l:=by
 unfold zob zzh
 rw[y6m (b:=y4l l) (b':=yex l) (l.length-0) 0 () (fun j u _ hj=>by
  have:=ykf (p:=fun v:Aid=>v.Light.Colors.length<9223372036854775808/\v.Sectors.length<9223372036854775807) h ⟨by decide,by decide⟩ j
  simp only[y4l,yex,y0d _ this.1 this.2])]
 rfl
def InR (s:List Int):Prop:=∀ v∈s,0<=v/\v<=100
theorem InR.app {s t:List Int} (h1:InR s) (h2:InR t):InR (s++t):=fun v hv=>(List.mem_append.1 hv).elim (h1 v) (h2 v)
theorem InR.one {x:Int} (h1:0<=x) (h2:x<=100):InR [x]:=fun v hv=>by rw[List.mem_singleton]at hv;subst hv;exact⟨h1,h2⟩
theorem InR.nil:InR []:=fun v hv=>by simp at hv
theorem y3z (k:Int):0<=zdf k/\zdf k<=100:=by
 unfold zdf;simp only[Bool.cond_eq_ite];repeat' split
 all_goals omega
theorem yev (k:Int):0<=zqc k/\zqc k<=20:=by
 unfold zqc;simp only[Bool.cond_eq_ite];repeat' split
 all_goals omega
theorem y06 (k:Int):0<=IntKind.wrap .i64 (zqc k+20)/\IntKind.wrap .i64 (zqc k+20)<=100:=by
 have:=yev k;rw[IntKind.wrap_i64];omega
theorem yr0 (c:Character) (h1:c.Group.length<=4) (h2:∀ v∈c.Group,1<=v/\v<=9):InR (zp c)/\(zp c).length<=80:=by
 have hf:=y3z c.Kind;have hg:=yev c.Kind;have hw:=y06 c.Kind;unfold zp
 cases hk:(c.Kind == 8)with
 | true=>
  simp only[cond_true];have hm:(zyb ((c.Letter.getD 0 0).toNat:Int)).length<=4:=yzs _
  have hmr:∀ j,0<=(zyb ((c.Letter.getD 0 0).toNat:Int)).getD j default/\(zyb ((c.Letter.getD 0 0).toNat:Int)).getD j default<=100:=by
   intro j;rw[ymh,List.getD_eq_getElem?_getD,List.getElem?_map]
   cases(ynd.getD (IntKind.wrap .u8 (((c.Letter.getD 0 0).toNat:Int)-65)).toNat default)[j]? with
   | none=>show(0:Int)<=0/\(0:Int)<=100;omega
   | some x=>simp only[Option.map_some,Option.getD_some];split<;>omega
  obtain⟨t,q1,q2,q3⟩:=yrb (b:=yqr c) (fun i s=>InR s/\s.length<=2 * i) (k:=(zyb ((c.Letter.getD 0 0).toNat:Int)).length-0) (i:=0) (s:=[]) ⟨InR.nil,by simp⟩ (fun j u _ _ h=>by
   unfold yqr
   cases decide (0<(j:Int))with
   | true=>exact⟨_,rfl,(h.1.app (InR.one (by omega) (by omega))).app (InR.one (hmr j).1 (hmr j).2),by simp only[List.length_append,List.length_singleton];omega⟩
   | false=>exact⟨_,rfl,h.1.app (InR.one (hmr j).1 (hmr j).2),by simp only[List.length_append,List.length_singleton];omega⟩)
  rw[q1];exact⟨q2,by simp only;omega⟩
 | false=>
  simp only[cond_false]
  have hend:∀ s:List Int,InR s->s.length<=72->InR (bif (c.Letter == [76])then s++[zqc c.Kind,20]else s)/\(bif (c.Letter == [76])then s++[zqc c.Kind,20]else s).length<=80:=by
   intro s h3 h4
   cases(c.Letter == [76])with
   | true=>exact⟨h3.app (fun v hv=>by simp only[List.mem_cons,List.not_mem_nil,or_false]at hv;rcases hv with h|h<;>subst h<;>omega),by simp only[cond_true,List.length_append,List.length_cons,List.length_nil];omega⟩
   | false=>exact⟨h3,by simp only[cond_false];omega⟩
  cases hz:((c.Group.length:Int) == 0)with
  | true=>
   simp only[cond_true]
   obtain⟨t,q1,q2,q3⟩:=yrb (b:=y9r c) (fun i s=>InR s/\s.length<=18 * i) (k:=1-0) (i:=0) (s:=[]) ⟨InR.nil,by simp⟩ (fun j u _ hj h=>by
    unfold y9r;have hj0:j=0:=by omega
    obtain⟨t,q1,q2,q3⟩:=yrb (b:=ymt c j u) (fun i s=>InR s/\s.length<=18 * j+2 * i) (k:=(([1]:List Int).getD j default).toNat-0) (i:=0) (s:=u) ⟨h.1,by omega⟩ (fun i w _ hi h=>by
     unfold ymt
     cases decide (0<(i:Int))with
     | true=>exact⟨_,rfl,(h.1.app (InR.one hg.1 (by omega))).app (InR.one hf.1 hf.2),by simp only[List.length_append,List.length_singleton];omega⟩
     | false=>
      cases decide (0<(j:Int))with
      | true=>exact⟨_,rfl,(h.1.app (InR.one hw.1 hw.2)).app (InR.one hf.1 hf.2),by simp only[List.length_append,List.length_singleton];omega⟩
      | false=>exact⟨_,rfl,h.1.app (InR.one hf.1 hf.2),by simp only[List.length_append,List.length_singleton];omega⟩)
    rw[q1];subst hj0
    exact⟨t,rfl,q2,by simp only[List.getD_cons_zero]at q3;omega⟩)
   rw[q1];exact hend t q2 (by omega)
  | false=>
   simp only[cond_false]
   obtain⟨t,q1,q2,q3⟩:=yrb (b:=yiq c) (fun i s=>InR s/\s.length<=18 * i) (k:=c.Group.length-0) (i:=0) (s:=[]) ⟨InR.nil,by simp⟩ (fun j u _ hj h=>by
    unfold yiq;have hgj:=ywk h2 j
    obtain⟨t,q1,q2,q3⟩:=yrb (b:=y8r c j u) (fun i s=>InR s/\s.length<=18 * j+2 * i) (k:=(c.Group.getD j default).toNat-0) (i:=0) (s:=u) ⟨h.1,by omega⟩ (fun i w _ hi h=>by
     unfold y8r
     cases decide (0<(i:Int))with
     | true=>exact⟨_,rfl,(h.1.app (InR.one hg.1 (by omega))).app (InR.one hf.1 hf.2),by simp only[List.length_append,List.length_singleton];omega⟩
     | false=>
      cases decide (0<(j:Int))with
      | true=>exact⟨_,rfl,(h.1.app (InR.one hw.1 hw.2)).app (InR.one hf.1 hf.2),by simp only[List.length_append,List.length_singleton];omega⟩
      | false=>exact⟨_,rfl,h.1.app (InR.one hf.1 hf.2),by simp only[List.length_append,List.length_singleton];omega⟩)
    rw[q1]
    exact⟨t,rfl,q2,by omega⟩)
   rw[q1];exact hend t q2 (by omega)
theorem yq3 (l:List Int) (h:InR l) (hl:l.length<=80):0<=zqe l/\zqe l<=8000:=by
 unfold zqe
 obtain⟨t,q1,q2,q3⟩:=yrb (b:=ylq l) (fun i s=>0<=s/\s<=100 * i) (k:=l.length-0) (i:=0) (s:=0) ⟨by omega,by omega⟩ (fun j u _ hj hI=>by
  have hx:0<=l.getD j default/\l.getD j default<=100:=by
   rw[List.getD_eq_getElem?_getD,List.getElem?_eq_getElem (by omega),Option.getD_some];exact h _ (List.getElem_mem _)
  refine⟨_,rfl,?_⟩
  rw[IntKind.wrap_i64];omega)
 rw[q1];exact⟨q2,by simp only;omega⟩
theorem y10 (c:Character) (h:zmb c=true) (hs:ztd c=false):0<znb c:=by
 obtain⟨g1,g2⟩:=y6e c h;obtain⟨t1,t2⟩:=yr0 c g1 g2;have t3:=yq3 _ t1 t2;have hg:=yev c.Kind;unfold znb;rw[<- yul,hs];simp only[cond_false]
 cases(c.Kind == 3)with
 | true=>simp
 | false=>
  simp only[cond_false]
  have hr:0<zog c/\zog c<=100:=by
   unfold zog;simp only[Bool.cond_eq_ite];repeat' split
   all_goals (try rw[IntKind.wrap_i64]);(try rw[IntKind.wrap_i64]);omega
  rw[IntKind.wrap_i64];omega
theorem yzc (a:Character) (h:zfb a=true):zmb a=true:=by
 unfold zfb at h
 cases hf:zmb a with
 | true=>rfl
 | false=>rw[hf]at h;simp at h
theorem yy5 (a:Character) (h:zfb a=true):a.Period<=600:=by
 unfold zfb at h
 cases h1:((!(zhc a.Colors)) || (!(zmb a)))with
 | true=>rw[h1]at h;cases h
 | false=>
  rw[h1]at h
  cases h2:ztd a with
  | true=>rw[h2]at h;simp at h;omega
  | false=>rw[h2]at h;simp[ze]at h;omega
theorem yzd (a:Character) (h:zfb a=true):a.Group.length<=4/\(∀ v∈a.Group,1<=v/\v<=9)/\a.Period<=600:=by
 have h1:=y6e a (yzc a h);exact⟨h1.1,h1.2,yy5 a h⟩
theorem yjt (a:Character) (h1:a.Group.length<=4) (h2:∀ v∈a.Group,1<=v/\v<=9):(zzd a).length<=200+a.Letter.length:=by
 unfold zzd;have hk:=y8w a.Kind
 obtain⟨t,q1,q2,q3⟩:=yrb (b:=yrn a) (fun i s=>s.length=i/\∀ v∈s,v.length<=20) (k:=a.Group.length-0) (i:=0) (s:=[]) ⟨rfl,by simp⟩ (fun j u _ _ h=>⟨_,rfl,by simp[h.1],fun v hv=>by
  rcases List.mem_append.1 hv with h9|h9
  ·exact h.2 v h9
  ·rw[List.mem_singleton]at h9;subst h9
   have:=ywk h2 j
   exact y2f _ (by omega) (by omega)⟩)
 rw[q1];have hj:=(yem t q3).1;simp only[Bool.cond_eq_ite];repeat' split
 all_goals ((try simp only[List.length_append,List.length_cons,List.length_nil]);omega)
theorem yhq (a:Character) (h:zfb a=true):(ztd a=true/\a.Period=0)\/(ztd a=false/\0<a.Period/\a.Period<=600):=by
 have hf:=yzc a h;unfold zfb at h
 cases h1:((!(zhc a.Colors)) || (!(zmb a)))with
 | true=>rw[h1]at h;cases h
 | false=>
  rw[h1]at h
  cases h2:ztd a with
  | true=>rw[h2]at h;left;simpa using h
  | false=>
   rw[h2,ymw a hf h2]at h;have:=y10 a hf h2;right
   simp[ze]at h
   exact⟨rfl,by omega,by omega⟩
theorem y0e (a:Character) (h:zfb a=true):0<=a.Period:=by
 rcases yhq a h with⟨_,h⟩|⟨_,h,_⟩<;>omega
theorem ypg (a:Character) (h:zmb a=true):1<=a.Kind/\a.Kind<=8:=by
 unfold zmb at h;simp only[Bool.cond_eq_ite]at h;repeat' split at h
 all_goals (try simp only[beq_iff_eq]at *)
 all_goals first|omega|(cases h;done)
theorem y0bb (a:Character) (hl:a.Colors.length<9223372036854775808) (h:zmc a=true):a.Group.length<=4/\(∀ v∈a.Group,1<=v/\v<=9)/\1<=a.Kind/\a.Kind<=8/\0<=a.Period/\a.Period<=600:=by
 rw[<- yqk a hl]at h;have h1:=yzd a h;have h2:=ypg a (yzc a h);exact⟨h1.1,h1.2.1,h2.1,h2.2,y0e a h,h1.2.2⟩
theorem ypu (n:Int) (h1 : -9223372036854775808<=n) (h2:n<=9223372036854775807):(zye n).length<=41:=by
 unfold zye;have h3:=yzn (n.tdiv 10);have ht:=yow n;have h4:=y2f (n.tmod 10) (by omega) (by omega);simp only[Bool.cond_eq_ite];split
 ·omega
 ·simp only[List.length_append,List.length_cons,List.length_nil];omega
theorem yk8 {p:Point} (h:zpd p=true):0<=p.X/\p.X<=200000/\0<=p.Y/\p.Y<=200000:=by
 simp[zpd,zg]at h;omega
theorem yfh {a:List Sector} (h:zv a=true):a.length<=12/\∀ i,i<a.length->zdc (a.getD i default)=true:=by
 unfold zv at h
 cases h12:decide (12<(a.length:Int))with
 | true=>rw[h12]at h;cases h
 | false=>
  rw[h12]at h;have h12:=of_decide_eq_false h12;refine⟨by omega,fun i hi => ?_⟩;rcases yxe (b:=yru a) (secQ a) (fun _ u=>u) false (k:=a.length-0) (i:=0) (s:=()) (fun j u _ _=>by cases u;rfl)with⟨_,e1⟩|⟨hq,_⟩
  ·rw[e1]at h;cases h
  ·exact((y4p a i (by omega)).1 (hq i (Nat.zero_le _) (by omega))).1
theorem yvu {c:List UInt8} (h:zcf c=true):c=[87]\/c=[82]\/c=[71]\/c=[89]:=by
 unfold zcf at h;simp only[Bool.or_eq_true,beq_iff_eq]at h;rcases h with((h|h)|h)|h
 ·exact .inl h
 ·exact .inr (.inl h)
 ·exact .inr (.inr (.inl h))
 ·exact .inr (.inr (.inr h))
theorem ycg {a:List Sector} (h:zv a=true):a.length<=12/\∀ i,0<=(a.getD i default).From/\(a.getD i default).From<=359/\0<=(a.getD i default).To/\(a.getD i default).To<=359/\(a.getD i default).Color.length<=1:=by
 obtain⟨h1,h2⟩:=yfh h;refine⟨h1,fun i => ?_⟩;by_cases hi:i<a.length
 ·have h3:=h2 i hi
  have hb:=yso h3;unfold zdc at h3;rw[Bool.and_eq_true]at h3;refine⟨hb.1.1,hb.1.2,hb.2.1,hb.2.2,?_⟩;rcases yvu h3.2 with h|h|h|h<;>rw[h]<;>decide
 ·rw[List.getD_eq_getElem?_getD,List.getElem?_eq_none (by omega)]
  decide
theorem yym {m:Mark} (h:zjd m=true):(m.Kind=0/\m.Colors=[]/\m.Shape=[]/\m.Topmark=[]) \/
  (zec m.Kind=true/\m.Colors=zvd m.Kind/\(m.Topmark=[]\/m.Topmark=zde m.Kind)/\m.Shape∈zcb m.Kind):=by
 rw[show zjd m=zid m from rfl]at h;unfold zid at h;by_cases hk:m.Kind=0
 ·left
  rw[show(m.Kind == 0)=true by simp[hk]]at h;simp only[cond_true,Bool.and_eq_true,beq_iff_eq]at h;exact⟨hk,h.2.1,h.2.2.1,h.2.2.2⟩
 ·right
  rw[show(m.Kind == 0)=false by simp[hk],cond_false]at h
  cases hc:(((!(zec m.Kind)) || (m.Colors != (zvd m.Kind))) || ((m.Topmark != []) && (m.Topmark != (zde m.Kind))))with
  | true=>rw[hc]at h;cases h
  | false=>
   rw[hc,cond_false]at h;have h:=(ykn m).symm.trans h;rw[List.any_eq_true]at h;simp only[Bool.or_eq_false_iff,Bool.not_eq_false',Bool.and_eq_false_iff,bne_eq_false_iff_eq]at hc;obtain⟨y,hy,he⟩:=h;exact⟨hc.1.1,hc.1.2,hc.2,by rw[<- eq_of_beq he];exact hy⟩
theorem ywp {m:Mark} (h:zjd m=true):0<=m.Kind/\m.Kind<=9/\m.Colors.length<=3/\m.Shape.length<=6/\m.Topmark.length<=5:=by
 rcases yym h with⟨h1,h2,h3,h4⟩|⟨h1,h2,h3,h4⟩
 ·rw[h1,h2,h3,h4];simp
 ·have hk:=h1
  unfold zec zg at hk;simp only[Bool.and_eq_true,decide_eq_true_eq]at hk;refine⟨by omega,by omega,?_,?_,?_⟩
  ·rw[h2];rcases ydh h1 with e|e|e|e|e|e|e|e|e<;>rw[e]<;>decide
  ·have hs:∀ y∈zcb m.Kind,y.length<=6:=by rcases ydh h1 with e|e|e|e|e|e|e|e|e<;>rw[e]<;>decide
   exact hs _ h4
  ·rcases h3 with e|e
   ·rw[e];decide
   ·rw[e];rcases ydh h1 with e|e|e|e|e|e|e|e|e<;>rw[e]<;>decide
theorem ys8:zv []=true:=by decide
theorem yke {a:Aid} (h:zpb a=true):1<=a.Number/\a.Number<=9999/\zjc a.Name=true/\zpd a.At=true/\0<=a.Height/\a.Height<=3000/\zjd a.Mark=true /\
  (zpg a=true->zmc a.Light=true)/\zv a.Sectors=true/\0<=a.Intensity/\a.Intensity<=100000000:=by
 unfold zpb at h
 cases hc:(((((!(zg a.Number 1 9999)) || (!(zjc a.Name))) || (!(zpd a.At))) || (!(zg a.Height 0 3000))) || (!(zjd a.Mark)))with
 | true=>rw[hc]at h;cases h
 | false=>
  rw[hc,cond_false]at h;simp only[Bool.or_eq_false_iff,Bool.not_eq_false']at hc;obtain⟨⟨⟨⟨c1,c2⟩,c3⟩,c4⟩,c5⟩:=hc;simp only[zg,Bool.and_eq_true,decide_eq_true_eq]at c1 c4
  have fin:(zpg a=true->zmc a.Light=true)/\zv a.Sectors=true/\0<=a.Intensity/\a.Intensity<=100000000:=by
   cases hp:zyc a.Light with
   | true=>
    rw[hp,cond_true,Bool.and_eq_true,beq_iff_eq,beq_iff_eq]at h;have hs:a.Sectors=[]:=List.length_eq_zero_iff.1 (by omega);refine⟨fun hl => ?_,by rw[hs];exact ys8,by omega,by omega⟩;unfold zyc at hp;simp only[Bool.and_eq_true,beq_iff_eq]at hp;unfold zpg at hl;rw[bne_iff_ne]at hl;exact absurd hp.1.1.1.1 hl
   | false=>
    rw[hp,cond_false]at h
    cases hd:(((!(zmc a.Light)) || (!(zg a.Intensity 1 100000000))) || (!(zv a.Sectors)))with
    | true=>rw[hd]at h;cases h
    | false=>
     simp only[Bool.or_eq_false_iff,Bool.not_eq_false',zg,Bool.and_eq_true,decide_eq_true_eq]at hd;exact⟨fun _=>hd.1.1,hd.2,by omega,by omega⟩
  exact⟨c1.1,c1.2,c2,c3,c4.1,c4.2,c5,fin⟩
theorem yhp {s:List UInt8} (h:zjc s=true):s.length<=10:=((yeh s).1 h).2.1
theorem yo8 {a:Aid} (h:zpb a=true) (hl:a.Light.Colors.length<9223372036854775808):zmf a=zpg a:=by
 have hr:=yke h;have hsl:=(ycg hr.2.2.2.2.2.2.2.2.1).1;unfold zpb at h
 cases hc:(((((!(zg a.Number 1 9999)) || (!(zjc a.Name))) || (!(zpd a.At))) || (!(zg a.Height 0 3000))) || (!(zjd a.Mark)))with
 | true=>rw[hc]at h;cases h
 | false=>
  rw[hc,cond_false]at h
  cases hp:zyc a.Light with
  | true=>
   have h1:=yts _ hp;unfold zmf zpg;rw[h1];unfold zyc at hp;simp only[Bool.and_eq_true,beq_iff_eq]at hp;rw[hp.1.1.1.1];rfl
  | false=>
   rw[hp,cond_false]at h
   cases hd:(((!(zmc a.Light)) || (!(zg a.Intensity 1 100000000))) || (!(zv a.Sectors)))with
   | true=>rw[hd]at h;cases h
   | false=>
    rw[hd,cond_false]at h;simp only[Bool.or_eq_false_iff,Bool.not_eq_false']at hd;have hk:=(y0bb a.Light hl hd.1.1).2.2.1;unfold zmf zpg;have e4:zeh a.Intensity=zg a.Intensity 1 100000000:=rfl;rw[yqk _ hl,hd.1.1,e4,hd.1.2,yzb _ (by omega),hd.2,yoj];simp only[Bool.not_true,Bool.or_self,cond_false];rw[h];symm
    rw[bne_iff_ne];omega
theorem y09 {p:Point} (h:(!zyd p)=false):0<=p.X/\p.X<=200000/\0<=p.Y/\p.Y<=200000:=by
 have h2:zyd p=true:=by simpa using h
 exact yk8 (p:=p) h2
theorem yh1 {m:Mark} (h:(!zed m)=false):0<=m.Kind/\m.Kind<=9/\m.Colors.length<=3/\m.Shape.length<=6/\m.Topmark.length<=5:=ywp (by rw[<- yag];simpa using h)
theorem yg4 {a:List Sector} (hl:a.length<1099511627776) (h:(!zgb a)=false):a.length<=12/\∀ i,0<=(a.getD i default).From/\(a.getD i default).From<=359/\0<=(a.getD i default).To/\(a.getD i default).To<=359/\(a.getD i default).Color.length<=1:=ycg (by rw[<- yzb a (by omega)];simpa using h)
theorem yyx {a:Aid} (hb:bdAid a) (h:(!zfc a)=false):zpb a=true:=by
 rw[<- y0d a (Nat.lt_of_lt_of_le hb.2.2.1.2.2 (by decide)) (Nat.lt_of_lt_of_le hb.2.2.2.1 (by decide))];simpa using h
theorem yf1 (k:Int):(zae k).length<=100:=yvv _ _ (by decide)
def zwd (a0:Character):(List UInt8):=
 (bif (!(zfb a0))then[]else(bif (a0.Period != 0)then(((zzd a0)++[32])++a0.Colors)++(([32]++(zye a0.Period))++[115])else((zzd a0)++[32])++a0.Colors))
namespace N68
theorem DD:DOk Tryz.prog (Go.Ab.DD [(131,dP D_zfb),(141,dP D_zzd),(142,dP D_zye)]):=ya y7o.e <| ya yz2.e <| ya y6x.e <| yf _
abbrev dn:=cj @D_zfb.eq_1 <| cj @D_zzd.eq_1 <| @D_zye.eq_1
theorem o0 {p:Prop} (h:p:=by(first|(have q9 := ‹(!zfb a0)=false›;have q8:zfb a0=true:=(by simpa using q9);have h9:=yzd a0 q8;have h8:=yjt a0 h9.1 h9.2.1;have h7:=y0e a0 q8;have h6:=ypu a0.Period (by omega) (by omega);first|(refine⟨hb0,h9.1,h9.2.1,?_,?_⟩<;>first|omega|(simp only[List.length_append,List.length_cons,List.length_nil];omega))|(and_intros<;>first|omega|(simp only[List.length_append,List.length_cons,List.length_nil];omega))));first|done|fail):p:=h
set_option maxHeartbeats 400000 in
set_option maxRecDepth 20000 in
theorem den (a0:Character) (hb0:bdCharacter a0):Den Tryz.prog 68 [.agg (yj a0)] (.str (zwd a0)):=by
 generalize hR:zwd a0=r;unfold zwd at hR;refine di Tryz.func68 Tryz.ntmps68 Tryz.results68 ?_;intro c hL hc hk;obtain⟨hL0,_⟩:=hL;have hw0:bwCharacter a0:=yv a0 hL0;clear hL0;simp only[pars,Nat.zero_add];have hbL:a0.Letter.length<1099511627776:=hb0.2.1;have hbC:a0.Colors.length<1099511627776:=hb0.2.2;iterate 2 refine rS ?_
 refine AWP.cond rfl (fun hb => ?_) (fun hb => ?_)
 ·replace hR:=ct hR
  refine rS ?_;refine AWP.ret ?_;subst hR;exact es
 ·replace hR:=cf hR
  refine rD 5 ?_;refine rS ?_;refine AWP.cond rfl (fun hb => ?_) (fun hb => ?_)
  ·replace hR:=ct hR
   iterate 2 refine rS ?_
   refine AWP.ret ?_;subst hR;exact es
  ·replace hR:=cf hR
   refine rS ?_;refine AWP.ret ?_;subst hR;exact es
end N68
def D_zwd : DF
 | [x0]=>some (.str (zwd (rdG yg x0)),false,[wG yj yg x0,bdCharacter (rdG yg x0)])
 | _=>none
theorem yxx:OkD Tryz.prog 68 D_zwd:=by unfold D_zwd;exact dk N68.den
def kt (k:Int):List UInt8:=([[],[70],[79,99],[73,115,111],[70,108],[76,70,108],[81],[86,81],[77,111]]:List (List UInt8)).getD k.toNat []
def grpT (g:List Int):List UInt8:=if g=[]then[]else 40::(Lib.join (g.map Lib.itoa) [43]++[41])
def ybk (c:Character):List UInt8:=
 if c.Kind=8 then kt 8++(40::(c.Letter++[41]))else kt c.Kind++(grpT c.Group++(if c.Letter=[]then[]else[43,76,70,108]))
def secT (n:Int):List UInt8:=if n.tmod 10=0 then Lib.itoa (n / 10)else Lib.itoa (n / 10)++(46::Lib.itoa (n % 10))
def perT (n:Int):List UInt8:=if n=0 then[]else 32::(secT n++[115])
def chrT (c:Character):List UInt8:=ybk c++(32::(c.Colors++perT c.Period))
theorem ytab (k:Int) (h:1<=k/\k<=8):zuc k=kt k:=by
 rcases(show k=1\/k=2\/k=3\/k=4\/k=5\/k=6\/k=7\/k=8 by omega)with h|h|h|h|h|h|h|h<;>subst h<;>rfl
theorem ygw (n:Int) (h1:0<=n) (h2:n<=600):zye n=secT n:=by
 unfold zye secT;have hd:n.tdiv 10=n / 10:=Int.tdiv_eq_ediv_of_nonneg h1;have hm:n.tmod 10=n % 10:=Int.tmod_eq_emod_of_nonneg h1;have hw:IntKind.wrap .i64 (n.tdiv 10)=n / 10:=by rw[IntKind.wrap_i64];omega
 rw[hw,hm];by_cases h:n % 10=0
 ·rw[h];rfl
 ·have:(n % 10 == 0)=false:=by rw[beq_eq_false_iff_ne];exact h
  rw[this,if_neg h];simp[yw6]
theorem yp1 (c:Character) (hk:1<=c.Kind/\c.Kind<=8):zzd c=ybk c:=by
 unfold zzd ybk;rw[ytab _ hk];by_cases h8:c.Kind=8
 ·rw[h8];simp
 ·have e8:(c.Kind == 8)=false:=by rw[beq_eq_false_iff_ne];exact h8
  rw[e8,if_neg h8];simp only[cond_false];have hl:=ylf (yrn c) (fun j=>[Lib.itoa (c.Group.getD j default)]) c.Group.length 0 [] (fun j s _ _=>rfl);rw[y0h c.Group default Lib.itoa,List.nil_append]at hl;simp only[Nat.sub_zero];rw[hl];unfold grpT;by_cases hg:c.Group=[]
  ·rw[hg]
   by_cases hL:c.Letter=[]
   ·rw[hL];simp
   ·have:(c.Letter != [])=true:=by simpa using hL
    rw[this,if_neg hL];simp
  ·have hpos:0<c.Group.length:=List.length_pos_iff.2 hg
   rw[if_neg hg,decide_eq_true (show 0<(c.Group.length:Int)by omega)];have ej:zub (c.Group.map Lib.itoa) [43]=Lib.join (c.Group.map Lib.itoa) [43]:=rfl;by_cases hL:c.Letter=[]
   ·rw[hL];simp[ej]
   ·have:(c.Letter != [])=true:=by simpa using hL
    rw[this,if_neg hL];simp[ej]
theorem yzl (c:Character) (h:zfb c=true):zwd c=chrT c:=by
 have hk:=ypg c (yzc c h);have hp:=y0e c h;have hp2:=(yzd c h).2.2;unfold zwd chrT perT;rw[h,yp1 c hk,ygw _ hp hp2];by_cases h0:c.Period=0
 ·rw[h0];simp
 ·have:(c.Period != 0)=true:=by rw[bne_iff_ne];exact h0
  rw[this,if_neg h0];simp
def joinC (c : UInt8) : List (List UInt8) -> List UInt8
 | []=>[]
 | [x]=>x
 | x::y::r=>x++c::joinC c (y::r)
theorem yqq {a:Int} (h1:0<=a) (h2:a<=99999):(32:UInt8)∉zhb a/\zhb a≠[]/\(zhb a).length<=1048576:=by
 obtain⟨y,m,d,_,_,_,_,_,_,_,_,e⟩:=yde h1 h2;obtain⟨p1,_⟩:=yyk (y:=y) (by omega);obtain⟨p3,_⟩:=y9d (m:=m) (by omega);obtain⟨p5,_⟩:=y9d (m:=d) (by omega);rw[e];refine⟨fun hm => ?_,by simp[D10,pad4],by simp[D10,pad4,pad2]⟩;unfold D10 at hm;simp only[List.mem_append,List.mem_cons]at hm;rcases hm with hm|hm|hm|hm|hm
 ·have:=p1 32 hm;simp at this
 ·simp at hm
 ·have:=p3 32 hm;simp at this
 ·simp at hm
 ·have:=p5 32 hm;simp at this
theorem y21 (n:Int):(32:UInt8)∉Lib.itoa n/\Lib.itoa n≠[]:=by
 obtain⟨d1,_,d3,_⟩:=yub n.natAbs;by_cases h:n<0
 ·rw[y3c h]
  refine⟨fun hm => ?_,by simp⟩;rcases List.mem_cons.1 hm with hm|hm
  ·simp at hm
  ·have:=d1 32 hm;simp at this
 ·rw[yqf h]
  exact⟨fun hm=>by have:=d1 32 hm;simp at this,d3⟩
theorem y7e {n:Int} (h:0<=n) (b:UInt8) (hb:b.toNat<48\/57<b.toNat):b∉Lib.itoa n:=by
 obtain⟨d1,_,_,_⟩:=yub n.natAbs;rw[yqf (by omega)];intro hm;have:=d1 b hm;omega
theorem yge {n:Int} (h1:0<=n) (h2:n<=1000000):yqc (Lib.itoa n)=(n,true):=by
 rcases y2j (Lib.itoa n)with⟨m,hm,he,hr⟩|⟨hn,_⟩
 ·rw[hr,ylw he]
 ·exact absurd rfl (hn n (by unfold E18;omega))
theorem yq2 (b : UInt8) (hb : b ≠ 43) : ∀ (xs : List (List UInt8)), (∀ x ∈ xs, b ∉ x) -> b ∉ Lib.join xs [43]
 | [],_=>by simp[Lib.join_nil]
 | x::r,h=>by
  rw[Lib.join_cons];intro hm;rcases List.mem_append.1 hm with hm|hm
  ·exact h x (by simp) hm
  ·unfold Lib.joinTail at hm
   rw[List.mem_flatten]at hm;obtain⟨l,hl,hbl⟩:=hm;obtain⟨y,hy,rfl⟩:=List.mem_map.1 hl;rcases List.mem_append.1 hbl with h9|h9
   ·rw[List.mem_singleton]at h9;exact hb h9
   ·exact h y (by simp[hy]) h9
theorem yjj (b : UInt8) : ∀ (x : List UInt8) (r : List (List UInt8)), b ∉ x -> (∀ y ∈ r, b ∉ y) -> ybb b (x ++ Lib.joinTail [b] r) = x :: r
 | x,[],hx,_=>by simp[Lib.joinTail,yvd b x hx]
 | x,y::r,hx,hr=>by
  have e:Lib.joinTail [b] (y::r)=b::(y++Lib.joinTail [b] r):=by simp[Lib.joinTail]
  rw[e,yjb b x _ hx,yjj b y r (hr y (by simp)) (fun z hz=>hr z (by simp[hz]))]
theorem ykt (g:List Int) (hg:g≠[]) (h2:∀ v∈g,1<=v/\v<=9):ybb 43 (Lib.join (g.map Lib.itoa) [43])=g.map Lib.itoa:=by
 cases g with
 | nil=>exact absurd rfl hg
 | cons x r=>
  rw[List.map_cons,Lib.join_cons];refine yjj 43 _ _ (y7e (by have:=h2 x (by simp);omega) 43 (by decide)) ?_;intro y hy;obtain⟨z,hz,rfl⟩:=List.mem_map.1 hy;exact y7e (by have:=h2 z (by simp[hz]);omega) 43 (by decide)
theorem ykbb (k:Int) (h:1<=k/\k<=8):(40:UInt8)∉kt k/\(32:UInt8)∉kt k:=by
 rcases(show k=1\/k=2\/k=3\/k=4\/k=5\/k=6\/k=7\/k=8 by omega)with h|h|h|h|h|h|h|h<;>subst h<;>decide
theorem yi5 (n:Int) (h1:0<n) (h2:n<=600):zze (secT n)=(n,true):=by
 have hm:n.tmod 10=n % 10:=Int.tmod_eq_emod_of_nonneg (by omega)
 have z0:Lib.itoa 0=[48]:=by
  rw[yqf (by omega)];first|rfl|decide|(rw[show(0:Int).natAbs=0 from rfl,Lib.decDigits];rfl)
 have e0:zj [48]=(0,true):=by
  have:=yge (n:=0) (by omega) (by omega);rw[z0]at this;exact this
 have e1:zj (Lib.itoa (n / 10))=(n / 10,true):=yge (by omega) (by omega);have hst:=ygw n (by omega) h2;have hcut:∀ s,zb s [46]=Lib.cut s [46]:=fun s=>rfl
 unfold zze;simp only[hcut];have hw:∀ m:Int,0<=m->m<=100000->IntKind.wrap .i64 m=m:=fun m _ _=>by rw[IntKind.wrap_i64];omega
 by_cases h:n.tmod 10=0
 ·have hs:secT n=Lib.itoa (n / 10):=by unfold secT;rw[if_pos h]
  rw[hs]at hst ⊢;rw[ysp _ 46 (y7e (by omega) 46 (by decide))];simp only[Bool.not_false,cond_true];rw[e0,e1];simp only;rw[hw (10 * (n / 10)) (by omega) (by omega),hw (10 * (n / 10)+0) (by omega) (by omega),show 10 * (n / 10)+0=n by omega,hst];have w1:ze (n / 10) 0 1200=true:=by unfold ze;rw[decide_eq_true (by omega),decide_eq_true (by omega)];rfl
  rw[w1];simp[ze]
 ·have hs:secT n=Lib.itoa (n / 10)++(46::Lib.itoa (n % 10)):=by unfold secT;rw[if_neg h]
  have e2:zj (Lib.itoa (n % 10))=(n % 10,true):=yge (by omega) (by omega);rw[hs]at hst ⊢;rw[y4f _ _ 46 (y7e (by omega) 46 (by decide))];simp only[Bool.not_true,cond_false];rw[e1,e2];simp only;rw[hw (10 * (n / 10)) (by omega) (by omega),hw (10 * (n / 10)+n % 10) (by omega) (by omega),show 10 * (n / 10)+n % 10=n by omega,hst];have w1:ze (n / 10) 0 1200=true:=by unfold ze;rw[decide_eq_true (by omega),decide_eq_true (by omega)];rfl
  have w2:ze (n % 10) 0 9=true:=by unfold ze;rw[decide_eq_true (by omega),decide_eq_true (by omega)];rfl
  rw[w1,w2];simp
end Go.Ab
