/- A part of a proof: walks of functions and lemmas of our own. No conditions. -/
import Derived.Test.YthadgghdkkapaaaGreatDoorNAv
import Derived.Test.YthadgghdkkapaaaGreatDoorNAq
import Derived.Test.YthadgghdkkapaaaGreatDoorNAp
import Derived.Test.YthadgghdkkapaaaGreatDoorNAr
import Derived.Test.YthadgghdkkapaaaGreatDoorNAs
import Derived.Test.YthadgghdkkapaaaGreatDoorNAl
import Derived.Test.YthadgghdkkapaaaGreatDoorNAi
import Derived.Test.YthadgghdkkapaaaGreatDoorNAu
import Derived.Test.YthadgghdkkapaaaGreatDoorNAn
import Derived.Test.YthadgghdkkapaaaGreatDoorNAo
set_option linter.unusedSectionVars false
set_option linter.unusedVariables false
set_option linter.unusedSimpArgs false
set_option maxHeartbeats 1000000
namespace Go.Ab
open Go Go.Proofs
theorem ypn (n:Notice) (h:aidL n.Aid):zkf n=zvb n:=by
 unfold zkf zvb zsf;rw[yqd _ h.1 h.2];simp only[yck];have e1:zjc n.Number=zf n.Number 1 9999:=rfl;have e2:zjc n.Target=zf n.Target 1 9999:=rfl;have e3:zib n.Day=zse n.Day:=rfl
 have e4:zg n.Kind 1 4=((((n.Kind == 1) || (n.Kind == 2)) || (n.Kind == 3)) || (n.Kind == 4)):=by
  unfold zg;apply Bool.eq_iff_iff.2;simp only[Bool.and_eq_true,Bool.or_eq_true,decide_eq_true_eq,beq_iff_eq];omega
 rw[e1,e2,e3,e4];cases zf n.Number 1 9999<;>cases zse n.Day<;>cases(n.Kind == 1)<;>cases(n.Kind == 2)<;>cases(n.Kind == 3)<;>cases(n.Kind == 4)<;>rfl
theorem ybf (l:List Notice) (t d:Int):zkc l t d=l.any (fun m=>((m.Kind == 4) && (m.Target == t)) && decide (m.Day<=d)):=by
 unfold zkc;rw[ybc (b:=y5n l t d) (fun j=>(((l.getD j default).Kind == 4) && ((l.getD j default).Target == t)) && decide ((l.getD j default).Day<=d)) true (fun j u _ _=>rfl)];simp only[Nat.sub_zero,Nat.zero_add];rw[y9c (fun m:Notice=>((m.Kind == 4) && (m.Target == t)) && decide (m.Day<=d)) l];cases l.any (fun m=>((m.Kind == 4) && (m.Target == t)) && decide (m.Day<=d))<;>rfl
theorem yuk (l:List Notice) (n:Notice):zje l n=l.any (fun m=>(m.Kind == 4) && (m.Target == n.Target)):=by
 unfold zje zdd;have ha:=y9c (fun m:Notice=>(m.Kind == 4) && (m.Target == n.Target)) l;rcases yyb (b:=yxl l n) (fun j=>((l.getD j default).Kind == 4) && ((l.getD j default).Target == n.Target)) (fun j=>(j:Int)) (k:=l.length-0) (i:=0) (s:=()) (fun j u _ _=>rfl)with⟨j,_,h2,h3,h4,h5⟩|⟨h1,h2⟩
 ·rw[h5]
  rw[<- ha,List.any_eq_true.2 ⟨j,by simpa using h2,h3⟩];simp
 ·rw[h2, <- ha]
  have:(List.range l.length).any (fun i=>(((l.getD i default).Kind == 4) && ((l.getD i default).Target == n.Target)))=false:=by
   rw[List.any_eq_false];intro i hi;rw[h1 i (Nat.zero_le _) (by simpa using hi)];simp
  rw[this];rfl
theorem yrl (l:List Notice) (n:Notice) (d:Int):zee l n d=zkc l n.Number d:=by
 rw[ybf];unfold zee zed;have ha:=y9c (fun m:Notice=>((m.Kind == 4) && (m.Target == n.Number)) && decide (m.Day<=d)) l;rcases yyb (b:=yqm l n d) (fun j=>(((l.getD j default).Kind == 4) && ((l.getD j default).Target == n.Number)) && decide ((l.getD j default).Day<=d)) (fun j=>(j:Int)) (k:=l.length-0) (i:=0) (s:=()) (fun j u _ _=>rfl)with⟨j,_,h2,h3,h4,h5⟩|⟨h1,h2⟩
 ·rw[h5]
  rw[<- ha,List.any_eq_true.2 ⟨j,by simpa using h2,h3⟩];simp
 ·rw[h2, <- ha]
  have:(List.range l.length).any (fun i=>((((l.getD i default).Kind == 4) && ((l.getD i default).Target == n.Number)) && decide ((l.getD i default).Day<=d)))=false:=by
   rw[List.any_eq_false];intro i hi;rw[h1 i (Nat.zero_le _) (by simpa using hi)];simp
  rw[this];rfl
theorem ypu (l:List Notice) (n:Notice) (hd:∀ m∈l,m.Day<=99999):((n.Kind == 4) && (!(zff n l))) = !(ztb l n):=by
 unfold ztb
 cases hk:(n.Kind == 4)with
 | false=>
  have:(n.Kind != 4)=true:=by simp only[bne,hk];rfl
  rw[this];rfl
 | true=>
  have:(n.Kind != 4)=false:=by simp only[bne,hk];rfl
  rw[this,cond_false,Bool.true_and];congr 1
  unfold zff;rw[yuk]
  have hc:l.any (fun m=>(m.Kind == 4) && (m.Target == n.Target))=zkc l n.Target 99999:=by
   rw[ybf];apply Bool.eq_iff_iff.2;rw[List.any_eq_true,List.any_eq_true];constructor
   ·rintro⟨x,hx,h⟩;exact⟨x,hx,by rw[h];simpa using hd x hx⟩
   ·rintro⟨x,hx,h⟩;exact⟨x,hx,by rw[Bool.and_eq_true]at h;exact h.1⟩
  rw[hc];rcases ynn l n with⟨j,h1,h2,h3,h4⟩|⟨h1,h2⟩
  ·rw[h4]
   rcases yyb (b:=yyj l n) (fun j=>(l.getD j default).Number == n.Target) (fun j=>((((l.getD j default).Kind) != 4) && (!(zkc l n.Target 99999)))) (k:=l.length-0) (i:=0) (s:=()) (fun j u _ _=>rfl)with⟨q,_,g2,g3,g4,g5⟩|⟨g1,_⟩
   ·have:q=j:=by
     rcases Nat.lt_trichotomy q j with h|h|h
     ·have:=h3 q h
      unfold zvd at this;rw[this]at g3;cases g3
     ·exact h
     ·have:=g4 j (Nat.zero_le _) h
      unfold zvd at h2;rw[this]at h2;cases h2
    subst this;rw[g5,decide_eq_false (by omega),Bool.false_or,Int.toNat_natCast];simp only[bne];cases((l.getD q default).Kind == 4)<;>rfl
   ·have:=g1 j (Nat.zero_le _) (by omega)
    unfold zvd at h2;rw[this]at h2;cases h2
  ·rw[h2]
   rcases yyb (b:=yyj l n) (fun j=>(l.getD j default).Number == n.Target) (fun j=>((((l.getD j default).Kind) != 4) && (!(zkc l n.Target 99999)))) (k:=l.length-0) (i:=0) (s:=()) (fun j u _ _=>rfl)with⟨q,_,g2,g3,g4,g5⟩|⟨_,g2⟩
   ·have:=h1 q (by omega)
    unfold zvd at this;rw[this]at g3;cases g3
   ·rw[g2];rfl
theorem yfr {α:Type} [Inhabited α] {l:List α} {j:Nat} (hj:j<l.length):l.getD j default∈l:=by
 rw[List.getD_eq_getElem?_getD,List.getElem?_eq_getElem hj];exact List.getElem_mem hj
theorem y3l:aidL (default:Notice).Aid:=⟨by decide,by decide⟩
theorem yns {n:Notice} (h:zvb n=true):n.Day<=99999:=by
 unfold zvb at h
 cases hd:zse n.Day with
 | false=>rw[hd]at h;simp at h
 | true=>
  unfold zse zf at hd;simp only[Bool.and_eq_true,decide_eq_true_eq]at hd;exact hd.2
theorem ytd (l:List Notice) (h:∀ n∈l,aidL n.Aid):zfb l=zcb l:=by
 unfold zfb zcb
 rw[yri (b:=y1i l) (b':=yte l) (fun j=>(l.getD j default).Day<=99999) (fun j hj=>by
  simp only[yte]at hj
  cases hc:zvb (l.getD j default)with
  | true=>exact yns hc
  | false=>rw[hc]at hj;simp at hj) (l.length-0) 0 (fun q hq=>absurd hq (Nat.not_lt_zero _)) (fun j _ hj hp=>by
   simp only[y1i,yte];have hb:aidL (l.getD j default).Aid:=y7d (p:=fun n:Notice=>aidL n.Aid) h y3l j
   rw[ypn _ hb,ypu (subL l 0 j) (l.getD j default) (fun m hm=>by
    rw[y2d l _ (by omega)]at hm;obtain⟨q,hq,rfl⟩:=List.getElem_of_mem hm;simp only[List.length_take]at hq;have:=hp q (by omega);rw[List.getD_eq_getElem?_getD,List.getElem?_eq_getElem (show q<l.length by omega)]at this;simp only[List.getElem_take]
    exact this)])]
 rfl
def inF (l:List Notice) (d:Int) (n:Notice):Bool:=((n.Kind != 4) && decide (n.Day<=d)) && !(zkc l n.Number d)
theorem y0j (l:List Notice) (d:Int):zk l d=l.filter (inF l d):=by
 unfold zk;rw[yug l (yen l d) (inF l d) (fun x=>x) (fun i s hi=>by simp only[yen,yrl];rfl)];simp
theorem yeu {l:List Notice} (h:zcb l=true):(∀ n∈l,zvb n=true)/\l.length<=32:=by
 unfold zcb at h;have h:=(y6e (b:=yte l) (fun i1=>(((!(zvb (l.getD i1 default))) || (decide (0<(i1:Int)) && (decide (((l.getD i1 default).Number)<=((l.getD ((IntKind.wrap .i64 ((i1:Int)-1)).toNat) default).Number)) || decide (((l.getD i1 default).Day)<((l.getD ((IntKind.wrap .i64 ((i1:Int)-1)).toNat) default).Day))))) || (!(ztb (subL l 0 (i1)) (l.getD i1 default))))) l.length _ (fun j u _=>rfl)).1 h;refine⟨fun n hn => ?_,by have:=of_decide_eq_true h.2;omega⟩;obtain⟨j,hj,rfl⟩:=List.getElem_of_mem hn;have:=h.1 j hj;rw[Bool.or_eq_false_iff,Bool.or_eq_false_iff]at this;have h3:=this.1.1;rw[List.getD_eq_getElem?_getD,List.getElem?_eq_getElem hj]at h3;simpa using h3
theorem ypp (a:Notice):zhe a=a:=by simp[zhe,yvi]
theorem ymf (l:List Notice):zod l=l:=by
 unfold zod;rw[ysk l (y3j l) (fun i s=>by simp only[y3j,ypp])]
theorem y8n {a:List Notice} (h:zcb a=true):a.length<=32:=by
 unfold zcb at h;split at h
 ·rename_i e he
  obtain⟨j,t,_,_,h3⟩:=yfc he;simp only[yte,Bool.cond_eq_ite]at h3;split at h3
  ·cases h3;cases h
  ·cases h3
 ·have:=of_decide_eq_true h;omega
theorem yhh {a:List Notice} (h:zfb a=true):a.length<=32:=by
 unfold zfb at h;split at h
 ·rename_i e he
  obtain⟨j,t,_,_,h3⟩:=yfc he;simp only[y1i,Bool.cond_eq_ite]at h3;split at h3
  ·cases h3;cases h
  ·cases h3
 ·unfold zkb at h;have:=of_decide_eq_true h;omega
def zzc (a0:(List Notice)) (a1:Notice):((List Notice)×Int):=
 (bif ((!(zcb a0)) || (!(zvb a1)))then([],1)else(bif (decide (0<(a0.length:Int)) && (decide (a1.Number<=((a0.getD ((IntKind.wrap .i64 ((a0.length:Int)-1)).toNat) default).Number)) || decide (a1.Day<((a0.getD ((IntKind.wrap .i64 ((a0.length:Int)-1)).toNat) default).Day))))then([],7)else(bif (!(ztb a0 a1))then([],3)else(bif ((a0.length:Int) == 32)then([],5)else((zod a0)++[zhe a1],0)))))
namespace N139
theorem DD:DOk Tryz.prog (Go.Ab.DD [(199,dP D_zcb),(200,dP D_zvb),(201,dP D_ztb),(202,dP D_zod),(203,dP D_zhe)]):=ya y4w.e <| ya yxp.e <| ya yoq.e <| ya yry.e <| ya ylq.e <| ye _
theorem dn:type_of% (And.intro @D_zcb.eq_1 <| And.intro @D_zvb.eq_1 <| And.intro @D_ztb.eq_1 <| And.intro @D_zod.eq_1 <| @D_zhe.eq_1):=by and_intros<;>intros<;>rfl
theorem ol:type_of% (@ymf):=@ymf
theorem gr {p:Prop} (h:p:=by(grind [y8n]);first|done|fail):p:=h
theorem o1 {p:Prop} (h:p:=by(first|(have h9:=hvl (by assumption);(try simp only[ymf]);first|omega|(constructor<;>omega)));first|done|fail):p:=h
theorem den (a0:(List Notice)) (a1:Notice) (hb0:a0.length<1099511627776) (hb1:∀ v∈a0,bdNotice v) (hb2:bdNotice a1):Den Tryz.prog 139 [encL 20 yf a0,.agg (yf a1)] (.tup [ownL 140 20 yuc ((zzc a0 a1).1),.int .i64 ((zzc a0 a1).2)]):=by
 generalize hR:zzc a0 a1=r;unfold zzc at hR;refine di Tryz.func139 Tryz.ntmps139 Tryz.results139 ?_;intro c hL hc hk;obtain⟨hL0,hL1,_⟩:=hL;have hw0:a0.length<9223372036854775808:=Nat.lt_succ_of_le (yb hL0).1;have hw1:∀ v∈a0,bwNotice v:=fun v hv=>yi v ((yb hL0).2 v hv)
 have hw2:bwNotice a1:=yi a1 hL1;clear hL0 hL1;simp only[pars,Nat.zero_add];have hvl:((!(zcb a0)) || (!(zvb a1)))=false->a0.length<=32:=fun h=>by rw[Bool.or_eq_false_iff]at h;exact y8n (by simpa using h.1)
 iterate 2 refine rS ?_
 refine AWP.cond rfl (fun hb => ?_) (fun hb => ?_)
 ·replace hR:=ct hR
  refine rS ?_;refine AWP.ret ?_;subst hR;exact es
 ·replace hR:=cf hR
  refine rS ?_;refine rD 24 ?_;refine AWP.cond rfl (fun hb => ?_) (fun hb => ?_)
  ·replace hR:=ct hR
   refine rS ?_;refine AWP.ret ?_;subst hR;exact es
  ·replace hR:=cf hR
   refine rS ?_;refine AWP.cond rfl (fun hb => ?_) (fun hb => ?_)
   ·replace hR:=ct hR
    refine rS ?_;refine AWP.ret ?_;subst hR;exact es
   ·replace hR:=cf hR
    refine rS ?_;refine AWP.cond rfl (fun hb => ?_) (fun hb => ?_)
    ·replace hR:=ct hR
     refine rS ?_;refine AWP.ret ?_;subst hR;exact es
    ·replace hR:=cf hR
     refine rS ?_;refine AWP.ret ?_;subst hR;exact es
end N139
def D_zzc : DF
 | [x0,x1]=>some (.tup [ownL 140 20 yuc ((zzc (rdL yc x0) (rdG yc x1)).1),.int .i64 ((zzc (rdL yc x0) (rdG yc x1)).2)],false,[wL 20 yf yc x0,wG yf yc x1,(rdL yc x0).length<1099511627776,∀ v∈(rdL yc x0),bdNotice v,bdNotice (rdG yc x1)])
 | _=>none
theorem ylw:OkD Tryz.prog 139 D_zzc:=by unfold D_zzc;exact dk N139.den
theorem y8i (l:List Notice) (n:Notice):(zzc l n).1=[]/\(zzc l n).2≠0\/zzc l n=(l++[n],0)/\zcb l=true/\zvb n=true/\(0<l.length->(l.getD (l.length-1) default).Number<n.Number/\(l.getD (l.length-1) default).Day<=n.Day)/\ztb l n=true/\(l.length:Int)≠32:=by
 unfold zzc
 cases hk:zcb l with
 | false=>left;exact⟨rfl,by simp⟩
 | true=>
  cases h1:zvb n with
  | false=>left;exact⟨rfl,by simp⟩
  | true=>
   simp only[Bool.not_true,Bool.or_false,cond_false,ymf,ypp]
   cases h2:(decide (0<(l.length:Int)) && (decide (n.Number<=((l.getD ((IntKind.wrap .i64 ((l.length:Int)-1)).toNat) default).Number)) || decide (n.Day<((l.getD ((IntKind.wrap .i64 ((l.length:Int)-1)).toNat) default).Day))))with
   | true=>left;exact⟨rfl,by simp⟩
   | false=>
    simp only[cond_false]
    cases h3:ztb l n with
    | false=>left;exact⟨rfl,by simp⟩
    | true=>
     simp only[Bool.not_true,cond_false]
     cases h4:((l.length:Int) == 32)with
     | true=>left;exact⟨rfl,by simp⟩
     | false=>
      right
      rw[beq_eq_false_iff_ne]at h4;refine⟨by first|rfl|trivial,by first|rfl|trivial,by first|rfl|trivial,fun h0 => ?_,by first|rfl|trivial,h4⟩;rw[decide_eq_true (by omega),Bool.true_and,Bool.or_eq_false_iff,decide_eq_false_iff_not,decide_eq_false_iff_not]at h2;by_cases hw:l.length<9223372036854775808
      ·have e:(IntKind.wrap .i64 ((l.length:Int)-1)).toNat=l.length-1:=by rw[IntKind.wrap_i64];omega
       rw[e]at h2;omega
      ·exfalso
       have:=(yeu hk).2;omega
theorem y01 (l:List Notice) (n:Notice) (hl:∀ v∈l,bdNotice v) (hn:bdNotice n):(∀ v∈(zzc l n).1,bdNotice v)/\(zzc l n).1.length<=l.length+1:=by
 rcases y8i l n with⟨h,_⟩|⟨h,_⟩
 ·rw[h];exact⟨fun v h=>absurd h (by simp),by simp⟩
 ·rw[h]
  refine⟨fun v hv => ?_,by simp⟩;rcases List.mem_append.1 hv with h|h
  ·exact hl v h
  ·rw[List.mem_singleton]at h;subst h;exact hn
def yjy (l:List Notice) (i1:Nat):Bool:=(((!(zvb (l.getD i1 default))) || (decide (0<(i1:Int)) && (decide (((l.getD i1 default).Number)<=((l.getD ((IntKind.wrap .i64 ((i1:Int)-1)).toNat) default).Number)) || decide (((l.getD i1 default).Day)<((l.getD ((IntKind.wrap .i64 ((i1:Int)-1)).toNat) default).Day))))) || (!(ztb (subL l 0 (i1)) (l.getD i1 default))))
theorem yem (l:List Notice):zcb l=true↔(∀ j,j<l.length->yjy l j=false)/\l.length<=32:=by
 unfold zcb;refine Iff.trans (y6e (b:=yte l) (yjy l) l.length _ (fun j u _=>rfl)) ?_;rw[decide_eq_true_eq];exact⟨fun h=>⟨h.1,by have:=h.2;omega⟩,fun h=>⟨h.1,by have:=h.2;omega⟩⟩
theorem ysr {l:List Notice} {n:Notice} (h:zcb l=true) (h1:zvb n=true) (h2:0<l.length->(l.getD (l.length-1) default).Number<n.Number/\(l.getD (l.length-1) default).Day<=n.Day) (h3:ztb l n=true) (h4:(l.length:Int)≠32):zcb (l++[n])=true:=by
 rw[yem]at h ⊢
 have hg:∀ k,k<l.length->(l++[n]).getD k default=l.getD k default:=fun k hk=>by
  rw[List.getD_eq_getElem?_getD,List.getElem?_append_left hk, <- List.getD_eq_getElem?_getD]
 refine⟨fun j hj => ?_,by simp;omega⟩;rw[List.length_append,List.length_singleton]at hj;by_cases hjl:j<l.length
 ·have hc:=h.1 j hjl
  unfold yjy at hc ⊢;rw[hg j hjl]
  have e:subL (l++[n]) 0 j=subL l 0 j:=by
   rw[y2d _ _ (by simp;omega),y2d _ _ (by omega),List.take_append_of_le_length (by omega)]
  rw[e];by_cases h0:0<j
  ·have hw:(IntKind.wrap .i64 ((j:Int)-1)).toNat=j-1:=by rw[IntKind.wrap_i64];omega
   rw[hw]at hc ⊢;rw[hg (j-1) (by omega)];exact hc
  ·have hj0:j=0:=by omega
   subst hj0;exact hc
 ·have hjl:j=l.length:=by omega
  subst hjl
  have hgn:(l++[n]).getD l.length default=n:=by
   rw[List.getD_eq_getElem?_getD,List.getElem?_append_right (Nat.le_refl _)];simp
  unfold yjy;rw[hgn]
  have e:subL (l++[n]) 0 l.length=l:=by
   rw[y2d _ _ (by simp),List.take_append_of_le_length (Nat.le_refl _),List.take_length]
  rw[e,h1,h3];by_cases h0:0<l.length
  ·have hw:(IntKind.wrap .i64 ((l.length:Int)-1)).toNat=l.length-1:=by rw[IntKind.wrap_i64];omega
   rw[hw,hg (l.length-1) (by omega)];obtain⟨q1,q2⟩:=h2 h0;rw[decide_eq_false (show ¬ n.Number<=(l.getD (l.length-1) default).Number by omega),decide_eq_false (show ¬ n.Day<(l.getD (l.length-1) default).Day by omega)];simp
  ·rw[decide_eq_false (show ¬ (0:Int)<(l.length:Int)by omega)]
   simp
theorem ytu:zcb []=true:=by rw[yem];exact⟨fun j hj=>absurd hj (Nat.not_lt_zero _),by decide⟩
def InR (s:List Int):Prop:=∀ v∈s,0<=v/\v<=100
theorem InR.app {s t:List Int} (h1:InR s) (h2:InR t):InR (s++t):=fun v hv=>(List.mem_append.1 hv).elim (h1 v) (h2 v)
theorem InR.one {x:Int} (h1:0<=x) (h2:x<=100):InR [x]:=fun v hv=>by rw[List.mem_singleton]at hv;subst hv;exact⟨h1,h2⟩
theorem InR.nil:InR []:=fun v hv=>by simp at hv
theorem yfu {a:List Sector} (h:zx a=true):a.length<=12/\∀ i,i<a.length->zwb (a.getD i default)=true:=by
 unfold zx at h
 cases h12:decide (12<(a.length:Int))with
 | true=>rw[h12]at h;cases h
 | false=>
  rw[h12]at h;have h12:=of_decide_eq_false h12;refine⟨by omega,fun i hi => ?_⟩;rcases ypd (b:=yzo a) (secQ a) (fun _ u=>u) false (k:=a.length-0) (i:=0) (s:=()) (fun j u _ _=>by cases u;rfl)with⟨_,e1⟩|⟨hq,_⟩
  ·rw[e1]at h;cases h
  ·exact((y0k a i (by omega)).1 (hq i (Nat.zero_le _) (by omega))).1
theorem yo0 {c:List UInt8} (h:zmd c=true):c=[87]\/c=[82]\/c=[71]\/c=[89]:=by
 unfold zmd at h;simp only[Bool.or_eq_true,beq_iff_eq]at h;rcases h with((h|h)|h)|h
 ·exact .inl h
 ·exact .inr (.inl h)
 ·exact .inr (.inr (.inl h))
 ·exact .inr (.inr (.inr h))
theorem yos {a:List Sector} (h:zx a=true):a.length<=12/\∀ i,0<=(a.getD i default).From/\(a.getD i default).From<=359/\0<=(a.getD i default).To/\(a.getD i default).To<=359/\(a.getD i default).Color.length<=1:=by
 obtain⟨h1,h2⟩:=yfu h;refine⟨h1,fun i => ?_⟩;by_cases hi:i<a.length
 ·have h3:=h2 i hi
  have hb:=yao h3;unfold zwb at h3;rw[Bool.and_eq_true]at h3;refine⟨hb.1.1,hb.1.2,hb.2.1,hb.2.2,?_⟩;rcases yo0 h3.2 with h|h|h|h<;>rw[h]<;>decide
 ·rw[List.getD_eq_getElem?_getD,List.getElem?_eq_none (by omega)]
  decide
theorem y0r {m:Mark} (h:znc m=true):(m.Kind=0/\m.Colors=[]/\m.Shape=[]/\m.Topmark=[]) \/
  (znb m.Kind=true/\m.Colors=zuc m.Kind/\(m.Topmark=[]\/m.Topmark=zvc m.Kind)/\m.Shape∈zv m.Kind):=by
 rw[show znc m=zwc m from rfl]at h;unfold zwc at h;by_cases hk:m.Kind=0
 ·left
  rw[show(m.Kind == 0)=true by simp[hk]]at h;simp only[cond_true,Bool.and_eq_true,beq_iff_eq]at h;exact⟨hk,h.2.1,h.2.2.1,h.2.2.2⟩
 ·right
  rw[show(m.Kind == 0)=false by simp[hk],cond_false]at h
  cases hc:(((!(znb m.Kind)) || (m.Colors != (zuc m.Kind))) || ((m.Topmark != []) && (m.Topmark != (zvc m.Kind))))with
  | true=>rw[hc]at h;cases h
  | false=>
   rw[hc,cond_false]at h;have h:=(yqj m).symm.trans h;rw[List.any_eq_true]at h;simp only[Bool.or_eq_false_iff,Bool.not_eq_false',Bool.and_eq_false_iff,bne_eq_false_iff_eq]at hc;obtain⟨y,hy,he⟩:=h;exact⟨hc.1.1,hc.1.2,hc.2,by rw[<- eq_of_beq he];exact hy⟩
theorem y1v {m:Mark} (h:znc m=true):0<=m.Kind/\m.Kind<=9/\m.Colors.length<=3/\m.Shape.length<=6/\m.Topmark.length<=5:=by
 rcases y0r h with⟨h1,h2,h3,h4⟩|⟨h1,h2,h3,h4⟩
 ·rw[h1,h2,h3,h4];simp
 ·have hk:=h1
  unfold znb zf at hk;simp only[Bool.and_eq_true,decide_eq_true_eq]at hk;refine⟨by omega,by omega,?_,?_,?_⟩
  ·rw[h2];rcases y3f h1 with e|e|e|e|e|e|e|e|e<;>rw[e]<;>decide
  ·have hs:∀ y∈zv m.Kind,y.length<=6:=by rcases y3f h1 with e|e|e|e|e|e|e|e|e<;>rw[e]<;>decide
   exact hs _ h4
  ·rcases h3 with e|e
   ·rw[e];decide
   ·rw[e];rcases y3f h1 with e|e|e|e|e|e|e|e|e<;>rw[e]<;>decide
theorem yb1:zx []=true:=by decide
theorem yd1 {a:Aid} (h:zeb a=true):1<=a.Number/\a.Number<=9999/\zxb a.Name=true/\znd a.At=true/\0<=a.Height/\a.Height<=3000/\znc a.Mark=true /\
  (zeg a=true->zdc a.Light=true)/\zx a.Sectors=true/\0<=a.Intensity/\a.Intensity<=100000000:=by
 unfold zeb at h
 cases hc:(((((!(zf a.Number 1 9999)) || (!(zxb a.Name))) || (!(znd a.At))) || (!(zf a.Height 0 3000))) || (!(znc a.Mark)))with
 | true=>rw[hc]at h;cases h
 | false=>
  rw[hc,cond_false]at h;simp only[Bool.or_eq_false_iff,Bool.not_eq_false']at hc;obtain⟨⟨⟨⟨c1,c2⟩,c3⟩,c4⟩,c5⟩:=hc;simp only[zf,Bool.and_eq_true,decide_eq_true_eq]at c1 c4
  have fin:(zeg a=true->zdc a.Light=true)/\zx a.Sectors=true/\0<=a.Intensity/\a.Intensity<=100000000:=by
   cases hp:zxc a.Light with
   | true=>
    rw[hp,cond_true,Bool.and_eq_true,beq_iff_eq,beq_iff_eq]at h;have hs:a.Sectors=[]:=List.length_eq_zero_iff.1 (by omega);refine⟨fun hl => ?_,by rw[hs];exact yb1,by omega,by omega⟩;unfold zxc at hp;simp only[Bool.and_eq_true,beq_iff_eq]at hp;unfold zeg at hl;rw[bne_iff_ne]at hl;exact absurd hp.1.1.1.1 hl
   | false=>
    rw[hp,cond_false]at h
    cases hd:(((!(zdc a.Light)) || (!(zf a.Intensity 1 100000000))) || (!(zx a.Sectors)))with
    | true=>rw[hd]at h;cases h
    | false=>
     simp only[Bool.or_eq_false_iff,Bool.not_eq_false',zf,Bool.and_eq_true,decide_eq_true_eq]at hd;exact⟨fun _=>hd.1.1,hd.2,by omega,by omega⟩
  exact⟨c1.1,c1.2,c2,c3,c4.1,c4.2,c5,fin⟩
theorem ysv {s:List UInt8} (h:zxb s=true):s.length<=10:=((yci s).1 h).2.1
theorem y7g {n:Int} {s:l00Src} {l:List (List UInt8)} (h:SrcOk n s) (hn:n<=2000000000) (hl:1<=l.length):(zo s l).1∈l:=by
 have hr:=yj (l.length:Int) h hn;have h2:=hr.2 (by omega);unfold zo;simp only;have hi:((za s (l.length:Int)).1).toNat<l.length:=by omega
 rw[List.getD_eq_getElem?_getD,List.getElem?_eq_getElem hi];exact List.getElem_mem hi
theorem yl0 {n:Int} {s:l00Src} (h:SrcOk n s) (hn:n<=2000000000):(zd s).1.length<=3:=by
 unfold zd;have:=y7g (l:=([[87],[87],[82],[71],[89],[87,82],[82,71],[87,82,71],[87,71]]:List (List UInt8))) h hn (by decide);simp only;generalize (zo s ([[87],[87],[82],[71],[89],[87,82],[82,71],[87,82,71],[87,71]]:List (List UInt8))).1=x at this;have hs:∀ y∈([[87],[87],[82],[71],[89],[87,82],[82,71],[87,82,71],[87,71]]:List (List UInt8)),y.length<=3:=by decide
 exact hs x this
theorem yr1 {n:Int} {s:l00Src} {l:List Int} (h:SrcOk n s) (hn:n<=2000000000) (hl:1<=l.length):(zb s l).1∈l:=by
 have hr:=yj (l.length:Int) h hn;have h2:=hr.2 (by omega);unfold zb;simp only;have hi:((za s (l.length:Int)).1).toNat<l.length:=by omega
 rw[List.getD_eq_getElem?_getD,List.getElem?_eq_getElem hi];exact List.getElem_mem hi
theorem am9 {n:Int} {s:l00Src} (h:SrcOk n s) (hn:n<=2000000000):0<=(zb s ([0,0,3,6,9]:List Int)).1/\(zb s ([0,0,3,6,9]:List Int)).1<=9:=by
 have:=yr1 (l:=([0,0,3,6,9]:List Int)) h hn (by decide);simp only[List.mem_cons,List.not_mem_nil,or_false]at this;omega
theorem let9 {n:Int} {s:l00Src} (h:SrcOk n s) (hn:n<=2000000000):65<=(UInt8.ofNat (IntKind.wrap .u8 (IntKind.wrap .i64 (65+(za s 26).1))).toNat).toNat/\(UInt8.ofNat (IntKind.wrap .u8 (IntKind.wrap .i64 (65+(za s 26).1))).toNat).toNat<=90:=by
 have hr:=yj 26 h hn;have hr2:=hr.2 (by omega);have hall:((List.range 26).all fun m=>decide (65<=(UInt8.ofNat (IntKind.wrap .u8 (IntKind.wrap .i64 (65+(m:Int)))).toNat).toNat/\(UInt8.ofNat (IntKind.wrap .u8 (IntKind.wrap .i64 (65+(m:Int)))).toNat).toNat<=90))=true:=by decide +kernel
 have:=of_decide_eq_true (List.all_eq_true.1 hall ((za s 26).1).toNat (List.mem_range.2 (by omega)));rwa [show(((za s 26).1).toNat:Int)=(za s 26).1 by omega]at this
theorem yso {l:List Int} {x:Int} (h:∀ v∈l,v<=9) (hx:x<=9):∀ v∈l++[x],v<=9:=fun v hv=>by
 rcases List.mem_append.1 hv with h1|h1
 ·exact h v h1
 ·rw[List.mem_singleton]at h1;subst h1;exact hx
theorem pk_b {n:Int} {s:l00Src} {k:Nat} (hd:decide (0<(k:Int))=true) (h:SrcOk n s) (hn:n<=2000000000):0<=(za s (k:Int)).1/\(za s (k:Int)).1<(k:Int)/\((za s (k:Int)).1).toNat<k:=by
 have hd:=of_decide_eq_true hd;have hr:=yj (k:Int) h hn;have:=hr.2 (by omega);omega
end Go.Ab
