/- A part of a proof: walks of functions and lemmas of our own. No conditions. -/
import Derived.Test.YthjljhdfdppkoaaGreatDoorNAs
import Derived.Test.YthjljhdfdppkoaaGreatDoorNAp
import Derived.Test.YthjljhdfdppkoaaGreatDoorNAo
import Derived.Test.YthjljhdfdppkoaaGreatDoorNAr
import Derived.Test.YthjljhdfdppkoaaGreatDoorNAl
import Derived.Test.YthjljhdfdppkoaaGreatDoorNAk
import Derived.Test.YthjljhdfdppkoaaGreatDoorNAi
import Derived.Test.YthjljhdfdppkoaaGreatDoorNAq
set_option linter.unusedSectionVars false
set_option linter.unusedVariables false
set_option linter.unusedSimpArgs false
set_option maxHeartbeats 1000000
namespace Go.Ab
open Go Go.Proofs
def CBd (r:Character×Bool):Prop:=r.1.Group.length<=1048577/\r.1.Letter.length<=1048577/\r.1.Colors.length<=0
theorem cbd0 (b:Bool):CBd ({ Kind:=0,Group:=[],Letter:=[],Colors:=[],Period:=0:Character },b):=⟨by simp,by simp,by simp⟩
theorem y67 (n : Nat) (hn : n <= 1048577) (b : Nat -> List Int -> Except (Character × Bool) (List Int)) (hb : ∀ i s, (∃ x, b i s = .ok (s ++ [x])) \/ ∃ e, b i s = .error e /\ CBd e) (f : List Int -> Character × Bool)
  (hf:∀ s,s.length<=1048577->CBd (f s)):CBd (match yh b (n-0) 0 ([]:List Int)with|.error e=>e|.ok s=>f s):=by
 cases h:yh b (n-0) 0 ([]:List Int)with
 | error e=>
  obtain⟨j,t,_,_,h3⟩:=ywc h;rcases hb j t with⟨x,hx⟩|⟨e',he,hc⟩
  ·rw[hx]at h3;cases h3
  ·rw[he]at h3;cases h3;exact hc
 | ok s=>
  have hk:=ylg (fun i s=>s.length<=i) h (by simp) (fun j u v _ _ hu hv=>by
   rcases hb j u with⟨x,hx⟩|⟨e',he,hc⟩
   ·rw[hx]at hv
    simp only[Except.ok.injEq]at hv;subst hv;simp only[List.length_append,List.length_singleton];omega
   ·rw[he]at hv;cases hv)
  exact hf s (by omega)
theorem ysu (a:List UInt8) (ha:a.length<=1048576):CBd (zl a):=by
  have c1:=ysr a [43,76,70,108];have c2:=y3f (zf a [43,76,70,108]).1 [40];have c3:=ysr (zb (zf a [43,76,70,108]).1 [40]).2.1 [41];have c4:=(y6q (zf (zb (zf a [43,76,70,108]).1 [40]).2.1 [41]).1 [43] (by omega)).1
  have hw:∀ (b:Int×Int->Except (Sum (Character×Bool) (Int×Int)) (Int×Int)) (n:Nat) (s:Int×Int) (f:Int×Int->Character×Bool),(∀ s,match b s with|.error (.inl e)=>False|_=>True)->(∀ s,CBd (f s))->CBd (default:Character×Bool) ->
      CBd (match yeb b n s with|.error (.inl e)=>e|.error (.inr s)=>f s|.ok _=>default):=by
    intro b n s f hb hf hd
    have h:=y9q (body:=b) (I:=fun _=>True) (Q:=fun r=>match r with|.inl e=>False|.inr _=>True) (fun s _=>by
      have:=hb s
      cases hbs:b s with
      | error r => rw [hbs] at this; cases r with
        | inl e=>exact this
        | inr t=>trivial
      | ok t=>trivial) n s trivial
    cases hl:yeb b n s with
    | error r=>
      rw[hl]at h
      cases r with
      | inl e=>exact h.elim
      | inr t=>exact hf t
    | ok t=>exact hd
  have hdef:CBd (default:Character×Bool):=⟨by show(0:Nat)<=_;omega,by show(0:Nat)<=_;omega,by show(0:Nat)<=_;omega⟩
  unfold zl
  cases(zf a [43,76,70,108]).2 with
  | true=>
    simp only[cond_true];refine hw _ _ _ _ (fun s => ?_) (fun s => ?_) hdef
    . unfold yfu
      cases decide (s.1<=8)with
      | false=>trivial
      | true=>
        simp only[cond_true]
        cases((zuc s.1) == ((zb ((zf a [43,76,70,108]).1) [40]).1))with
        | true=>trivial
        | false=>trivial
    . cases(!((zb ((zf a [43,76,70,108]).1) [40]).2.2))with
      | true=>exact⟨by simp,by simp,by simp⟩
      | false=>
        simp only[cond_false]
        cases(s.2 == 8)with
        | true=>exact⟨by simp,by simp only[cond_true];omega,by simp⟩
        | false=>
          simp only[cond_false];refine y67 _ c4 _ (fun i t => ?_) (fun t=>({ Kind:=s.2,Group:=t,Letter:=[76],Colors:=[],Period:=0:Character },_)) (fun t ht=>⟨ht,by simp,by simp⟩);unfold yuu
          cases(!((zj ((zd ((zf ((zb ((zf a [43,76,70,108]).1) [40]).2.1) [41]).1) [43]).getD i default)).2))with
          | true=>exact .inr ⟨_,rfl,cbd0 _⟩
          | false=>exact .inl ⟨_,rfl⟩
  | false=>
    simp only[cond_false];refine hw _ _ _ _ (fun s => ?_) (fun s => ?_) hdef
    . unfold yrl
      cases decide (s.1<=8)with
      | false=>trivial
      | true=>
        simp only[cond_true]
        cases((zuc s.1) == ((zb ((zf a [43,76,70,108]).1) [40]).1))with
        | true=>trivial
        | false=>trivial
    . cases(!((zb ((zf a [43,76,70,108]).1) [40]).2.2))with
      | true=>exact⟨by simp,by simp,by simp⟩
      | false=>
        simp only[cond_false]
        cases(s.2 == 8)with
        | true=>exact⟨by simp,by simp only[cond_true];omega,by simp⟩
        | false=>
          simp only[cond_false];refine y67 _ c4 _ (fun i t => ?_) (fun t=>({ Kind:=s.2,Group:=t,Letter:=[],Colors:=[],Period:=0:Character },_)) (fun t ht=>⟨ht,by simp,by simp⟩);unfold yhu
          cases(!((zj ((zd ((zf ((zb ((zf a [43,76,70,108]).1) [40]).2.1) [41]).1) [43]).getD i default)).2))with
          | true=>exact .inr ⟨_,rfl,cbd0 _⟩
          | false=>exact .inl ⟨_,rfl⟩
def ywr (a0:(List Aid)) (a1:Int) (s1:Int):Except (Sum ((Int×Bool)) (Int)) (Int):=
 (bif (decide (s1<(a0.length:Int)) && decide (((a0.getD ((s1).toNat) default).Number)<a1))then .ok (IntKind.wrap .i64 (s1+1))else .error (.inr s1))
def zab (a0:(List Aid)) (a1:Int):(Int×Bool):=
 (match yeb (ywr a0 a1) ((a0.length-((0:Int)).toNat)+1) 0 with|.error (.inl e)=>e|.error (.inr s1)=>(s1,(decide (s1<(a0.length:Int)) && (((a0.getD ((s1).toNat) default).Number) == a1)))|.ok _=>default)
namespace N210
theorem DD:DOk Tryz.prog (Go.Ab.DD []):=yf _
theorem den (a0:(List Aid)) (a1:Int)  : Den Tryz.prog 210 [encL 16 eAid a0,.int .i64 a1] (.tup [.int .i64 ((zab a0 a1).1),.bool ((zab a0 a1).2)]):=by
 generalize hR:zab a0 a1=r;unfold zab at hR;refine di Tryz.func210 Tryz.ntmps210 Tryz.results210 ?_;intro c hL hc hk;obtain⟨hL0,hL1,_⟩:=hL;have hw0:a0.length<9223372036854775808:=Nat.lt_succ_of_le (yb hL0).1;have hw1:∀ v∈a0,bwAid v:=fun v hv=>y3 v ((yb hL0).2 v hv)
 clear hL0 hL1;simp only[pars,Nat.zero_add];iterate 2 refine rS ?_
 refine AWP.seq ?_;refine AWP.block ?_;generalize hz1:yeb (ywr a0 a1) ((a0.length-((0:Int)).toNat)+1) 0=z1 at hR;refine AWP.whileW (ywr a0 a1) (fun s1=>⟨[(0,encL 16 eAid a0),(1,.int .i64 a1),(6,.int .i64 s1)],[]⟩) (fun s1=>0<=s1/\s1<=a0.length) (fun s1=>a0.length-(s1).toNat) ((a0.length-((0:Int)).toNat)+1) 0 [] hz1 m0 wt sm ?_;clear hz1;intro s1 k1 hW1 hm1 hz1;simp only[ywr]at hz1;refine rS ?_;refine AWP.cond rfl (fun hb => ?_) (fun hb => ?_)
 ·simp only[hb,cond_true]at hz1
  refine rS ?_;exact⟨_,[],ms,wt,hz1,sm⟩
 ·simp only[hb,cond_false]at hz1
  refine AWP.exit ?_;refine yd ?_;subst hz1;dsimp only at hR;refine AWP.seq ?_;refine AWP.regP mixed G_ok DD hc 15 [0,1,2,3,4,5,6,7,8,9,10,11,12,13] (.alt 14 [] [6,7,8,9,10,11,12,13] .leaf .stop) (by kernel_rfl) (by kernel_rfl) (by kernel_rfl) (fun K hK => ?_);simp only[ypi,runN,runP,yjc,nthO,ea,absV,ybc,cput,gv,sv,dn,reduceCtorEq,reduceIte,Nat.reduceBEq,Nat.reduceAdd,Nat.reduceEqDiff,Nat.reduceLT,Nat.reduceLeDiff,Nat.reduceMul,Nat.reduceSub,BEq.rfl,beq_self_eq_true,Int.reduceToNat];repeat' apply And.intro
  all_goals first|refine hK _ ?_|exact ot
  all_goals clear hK K
  refine AWP.ret ?_;subst hR;exact es
end N210
def D_zab : DF
 | [x0,x1]=>some (.tup [.int .i64 ((zab (rdL dAid x0) (rdI x1)).1),.bool ((zab (rdL dAid x0) (rdI x1)).2)],false,[wL 16 eAid dAid x0,wI .i64 x1])
 | _=>none
theorem ygo:OkD Tryz.prog 210 D_zab:=by unfold D_zab;exact dk N210.den
def upto (l:List Aid) (n:Int):Nat:=(l.takeWhile (fun x=>decide (x.Number<n))).length
theorem yqt (l:List Aid) (n:Int):upto l n<=l.length:=by unfold upto;exact(List.takeWhile_prefix _).length_le
theorem yzt {ρ : Type} (l : List Aid) (n : Int) (hl : l.length < 9223372036854775808) (b : Int -> Except (Sum ρ Int) Int)
  (hb:∀ s,b s=bif (decide (s<(l.length:Int)) && decide ((l.getD s.toNat default).Number<n))then .ok (IntKind.wrap .i64 (s+1))else .error (.inr s)) :
  ∀ (r p:List Aid) (k:Nat),l=p++r->r.length<k->yeb b k (p.length:Int)=.error (.inr ((p.length+upto r n:Nat):Int))
 | _,_,0,_,h=>absurd h (Nat.not_lt_zero _)
 | [],p,k+1,e,_=>by
  subst e;simp only[yeb,hb,List.append_nil,Int.lt_irrefl,decide_false,Bool.false_and,cond_false];simp[upto]
 | x::r,p,k+1,e,hk=>by
  have hg:l.getD ((p.length:Int)).toNat default=x:=by subst e;simp
  have hlt:decide ((p.length:Int)<(l.length:Int))=true:=by subst e;simp;omega
  simp only[yeb,hb,hg,hlt,Bool.true_and]
  cases hx:decide (x.Number<n)with
  | false=>simp[upto,List.takeWhile_cons,hx]
  | true=>
   have hw:IntKind.wrap .i64 ((p.length:Int)+1)=((p++[x]).length:Int):=by
    have:p.length<l.length:=by subst e;simp
    have e2:(p++[x]).length=p.length+1:=by simp
    rw[IntKind.wrap_i64,e2];omega
   simp only[cond_true,hw];rw[yzt l n hl b hb r (p++[x]) k (by simp[e]) (by simp at hk;omega)]
   have e3:(p++[x]).length+upto r n=p.length+upto (x::r) n:=by
    simp[upto,List.takeWhile_cons,hx];omega
   rw[e3]
theorem yz6 (l:List Aid) (n:Int) (hl:l.length<9223372036854775808):zab l n=((upto l n:Int),decide (upto l n<l.length) && ((l.getD (upto l n) default).Number == n)):=by
 unfold zab;have:=yzt l n hl (ywr l n) (fun s=>rfl) l [] (l.length-(0:Int).toNat+1) rfl (by simp);simp only[List.length_nil,Nat.zero_add]at this;have e0:((0:Nat):Int)=0:=rfl;simp only[e0]at this;rw[this];simp
theorem ydm (l:List Aid) (n:Int) (hl:l.length<9223372036854775808):0<=(zab l n).1/\(zab l n).1<=l.length/\((zab l n).2=true->(zab l n).1<l.length):=by
 rw[yz6 l n hl];have:=yqt l n;refine⟨by simp only;omega,by simp only;omega,fun h => ?_⟩;simp only[Bool.and_eq_true,decide_eq_true_eq]at h;simp only;omega
def zoh (a0:(List Int)):(List Int):=
 (List.replicate 0 (default:Int))++a0
namespace N147
theorem DD:DOk Tryz.prog (Go.Ab.DD []):=yf _
theorem den (a0:(List Int)) (hb0:a0.length<1099511627776):Den Tryz.prog 147 [encL 1 yx a0] (ownL 2 1 yx (zoh a0)):=by
 generalize hR:zoh a0=r;unfold zoh at hR;refine di Tryz.func147 Tryz.ntmps147 Tryz.results147 ?_;intro c hL hc hk;obtain⟨hL0,_⟩:=hL;have hw0:a0.length<9223372036854775808:=Nat.lt_succ_of_le (yb hL0).1;clear hL0;simp only[pars,Nat.zero_add];iterate 2 refine rS ?_
 refine AWP.ret ?_;subst hR;exact es
end N147
def D_zoh : DF
 | [x0]=>some (ownL 2 1 yx (zoh (rdL ynb x0)),false,[wL 1 yx ynb x0,(rdL ynb x0).length<1099511627776])
 | _=>none
theorem ya6:OkD Tryz.prog 147 D_zoh:=by unfold D_zoh;exact dk N147.den
def zph (a0:(List Sector)):(List Sector):=
 (List.replicate 0 (default:Sector))++a0
namespace N148
theorem DD:DOk Tryz.prog (Go.Ab.DD []):=yf _
theorem den (a0:(List Sector)) (hb0:a0.length<1099511627776) (hb1:∀ v∈a0,bdSector v):Den Tryz.prog 148 [encL 3 yr a0] (ownL 144 3 yr (zph a0)):=by
 generalize hR:zph a0=r;unfold zph at hR;refine di Tryz.func148 Tryz.ntmps148 Tryz.results148 ?_;intro c hL hc hk;obtain⟨hL0,_⟩:=hL;have hw0:a0.length<9223372036854775808:=Nat.lt_succ_of_le (yb hL0).1;have hw1:∀ v∈a0,bwSector v:=fun v hv=>y8 v ((yb hL0).2 v hv)
 clear hL0;simp only[pars,Nat.zero_add];iterate 2 refine rS ?_
 refine AWP.ret ?_;subst hR;exact es
end N148
def D_zph : DF
 | [x0]=>some (ownL 144 3 yr (zph (rdL yz x0)),false,[wL 3 yr yz x0,(rdL yz x0).length<1099511627776,∀ v∈(rdL yz x0),bdSector v])
 | _=>none
theorem yu5:OkD Tryz.prog 148 D_zph:=by unfold D_zph;exact dk N148.den
def zod (a0:Aid):Aid:=
 { Number:=a0.Number,Name:=a0.Name,At:=a0.At,Height:=a0.Height,Mark:=a0.Mark,Light:={ Kind:=a0.Light.Kind,Group:=(zoh a0.Light.Group),Letter:=a0.Light.Letter,Colors:=a0.Light.Colors,Period:=a0.Light.Period:Character },Sectors:=(zph a0.Sectors),Intensity:=a0.Intensity:Aid }
namespace N83
theorem DD:DOk Tryz.prog (Go.Ab.DD [(147,dP D_zoh),(148,dP D_zph)]):=ya ya6.e <| ya yu5.e <| yf _
abbrev dn:=cj @D_zoh.eq_1 <| @D_zph.eq_1
theorem den (a0:Aid) (hb0:bdAid a0):Den Tryz.prog 83 [.agg (eAid a0)] (.agg (y4b (zod a0))):=by
 generalize hR:zod a0=r;unfold zod at hR;refine di Tryz.func83 Tryz.ntmps83 Tryz.results83 ?_;intro c hL hc hk;obtain⟨hL0,_⟩:=hL;have hw0:bwAid a0:=y3 a0 hL0;clear hL0;simp only[pars,Nat.zero_add];refine rS ?_;refine AWP.seq ?_;refine AWP.regP mixed G_ok DD hc 9 [0,1,2,4,5] (.alt 3 [7,8] [4,5,7,8] (.alt 6 [] [7,8] .leaf .stop) .stop) (by kernel_rfl) (by kernel_rfl) (by kernel_rfl) (fun K hK => ?_);simp only[ypi,runN,runP,yjc,nthO,ea,absV,ybc,cput,gv,sv,dn,reduceCtorEq,reduceIte,Nat.reduceBEq,Nat.reduceAdd,Nat.reduceEqDiff,Nat.reduceLT,Nat.reduceLeDiff,Nat.reduceMul,Nat.reduceSub,BEq.rfl,beq_self_eq_true,Int.reduceToNat];repeat' apply And.intro
 all_goals first|refine hK _ ?_|exact ot
 all_goals clear hK K
 refine rS ?_;refine AWP.ret ?_;subst hR;exact es
end N83
def D_zod : DF
 | [x0]=>some (.agg (y4b (zod (rdG dAid x0))),false,[wG eAid dAid x0,bdAid (rdG dAid x0)])
 | _=>none
theorem ytk:OkD Tryz.prog 83 D_zod:=by unfold D_zod;exact dk N83.den
def y4m (a0:(List Aid)) (i1:Nat) (s1:List Aid):Except ((List Aid)) (List Aid):=
 .ok (s1++[zod (a0.getD i1 default)])
def zxb (a0:(List Aid)):(List Aid):=
 (match yh (y4m a0) (a0.length-0) 0 (List.replicate 0 (default:Aid))with|.error e=>e|.ok s1=>s1)
namespace N85
theorem DD:DOk Tryz.prog (Go.Ab.DD [(83,dP D_zod)]):=ya ytk.e <| yf _
abbrev dn:=@D_zod.eq_1
theorem den (a0:(List Aid)) (hb0:a0.length<1099511627776) (hb1:∀ v∈a0,bdAid v) (hp0:a0.length<=1073741824):Den Tryz.prog 85 [encL 16 eAid a0] (ownL 37 16 y4b (zxb a0)):=by
 generalize hR:zxb a0=r;unfold zxb at hR;refine di Tryz.func85 Tryz.ntmps85 Tryz.results85 ?_;intro c hL hc hk;obtain⟨hL0,_⟩:=hL;have hw0:a0.length<9223372036854775808:=Nat.lt_succ_of_le (yb hL0).1;have hw1:∀ v∈a0,bwAid v:=fun v hv=>y3 v ((yb hL0).2 v hv)
 clear hL0;simp only[pars,Nat.zero_add];iterate 3 refine rS ?_
 refine AWP.block ?_;generalize hz1:yh (y4m a0) (a0.length-0) 0 (List.replicate 0 (default:Aid))=z1 at hR;refine AWP.range (y4m a0) (fun i1 s1=>⟨[(3,.ref 0 16 0 s1.length),(10,encL 16 eAid a0),(11,.int .i64 (a0.length:Int)),(12,.int .i64 (i1:Int))],[.arr 37 16 s1.length (fun j=>y4b (s1.getD j default))]⟩) (fun i1 s1=>s1.length<=(List.replicate 0 (default:Aid)).length+1 * i1) (a0.length) 0 (List.replicate 0 (default:Aid)) [0] hz1 ot wt sm ?_;clear hz1;intro i1 s1 hi1 hW1 hz1;refine rS ?_;refine AWP.seq ?_;refine AWP.cond rfl (fun hb => ?_) (fun hb => ?_)
 ·have hlt1:i1<a0.length:=ot
  rw[yl hlt1]at hz1;simp only[y4m]at hz1;iterate 3 refine rS ?_
  exact⟨_,[5],hlt1,wt,hz1,sm⟩
 ·obtain rfl:i1=a0.length:=ot
  rw[yk (Nat.le_refl _)]at hz1;subst hz1;dsimp only at hR;refine AWP.exit ?_;refine yd ?_;refine rS ?_;refine AWP.ret ?_;subst hR;exact es
end N85
def D_zxb : DF
 | [x0]=>some (ownL 37 16 y4b (zxb (rdL dAid x0)),false,[wL 16 eAid dAid x0,(rdL dAid x0).length<1099511627776,∀ v∈(rdL dAid x0),bdAid v,(rdL dAid x0).length<=1073741824])
 | _=>none
theorem yok:OkD Tryz.prog 85 D_zxb:=by unfold D_zxb;exact dk N85.den
def y1m (a0:(List Sector)) (a1:(List Sector)) (i1:Nat) (s1:Unit):Except (Bool) (Unit):=
 (bif (!(((a0.getD i1 default).From) == ((a1.getD i1 default).From) && (((a0.getD i1 default).To) == ((a1.getD i1 default).To) && ((a0.getD i1 default).Color) == ((a1.getD i1 default).Color))))then .error false else .ok ())
def zbf (a0:(List Sector)) (a1:(List Sector)):Bool:=
 (bif ((a0.length:Int) != (a1.length:Int))then false else(match yh (y1m a0 a1) (a0.length-0) 0 ()with|.error e=>e|.ok s1=>true))
namespace N137
theorem DD:DOk Tryz.prog (Go.Ab.DD []):=yf _
theorem den (a0:(List Sector)) (a1:(List Sector))  : Den Tryz.prog 137 [encL 3 yr a0,encL 3 yr a1] (.bool (zbf a0 a1)):=by
 generalize hR:zbf a0 a1=r;unfold zbf at hR;refine di Tryz.func137 Tryz.ntmps137 Tryz.results137 ?_;intro c hL hc hk;obtain⟨hL0,hL1,_⟩:=hL;have hw0:a0.length<9223372036854775808:=Nat.lt_succ_of_le (yb hL0).1;have hw1:∀ v∈a0,bwSector v:=fun v hv=>y8 v ((yb hL0).2 v hv)
 have hw2:a1.length<9223372036854775808:=Nat.lt_succ_of_le (yb hL1).1;have hw3:∀ v∈a1,bwSector v:=fun v hv=>y8 v ((yb hL1).2 v hv)
 clear hL0 hL1;simp only[pars,Nat.zero_add];iterate 2 refine rS ?_
 refine AWP.cond rfl (fun hb => ?_) (fun hb => ?_)
 ·replace hR:=ct hR
  refine rS ?_;refine AWP.ret ?_;subst hR;exact es
 ·replace hR:=cf hR
  refine rS ?_;refine AWP.block ?_;generalize hz1:yh (y1m a0 a1) (a0.length-0) 0 ()=z1 at hR;refine AWP.range (y1m a0 a1) (fun i1 s1=>⟨[(0,encL 3 yr a0),(1,encL 3 yr a1),(12,.int .i64 (a0.length:Int)),(13,.int .i64 (i1:Int))],[]⟩) (fun i1 s1=>True) (a0.length) 0 () [] hz1 ot wt sm ?_;clear hz1;intro i1 s1 hi1 hW1 hz1;refine rS ?_;refine AWP.seq ?_;refine AWP.cond rfl (fun hb => ?_) (fun hb => ?_)
  ·have hlt1:i1<a0.length:=ot
   rw[yl hlt1]at hz1;simp only[y1m]at hz1;refine rS ?_;refine rD 8 ?_;refine AWP.cond rfl (fun hb => ?_) (fun hb => ?_)
   ·simp only[hb,cond_true]at hz1
    refine rS ?_;refine AWP.ret ?_;subst hz1;dsimp only at hR;subst hR;exact es
   ·simp only[hb,cond_false]at hz1
    refine rS ?_;exact⟨_,[],hlt1,wt,hz1,sm⟩
  ·obtain rfl:i1=a0.length:=ot
   rw[yk (Nat.le_refl _)]at hz1;subst hz1;dsimp only at hR;refine AWP.exit ?_;refine yd ?_;refine rS ?_;refine AWP.ret ?_;subst hR;exact es
end N137
def D_zbf : DF
 | [x0,x1]=>some (.bool (zbf (rdL yz x0) (rdL yz x1)),false,[wL 3 yr yz x0,wL 3 yr yz x1])
 | _=>none
theorem yn5:OkD Tryz.prog 137 D_zbf:=by unfold D_zbf;exact dk N137.den
def zmg (a0:Aid) (a1:Aid):Bool:=
 ((((((((a0.Number == a1.Number) && (a0.Name == a1.Name)) && (a0.At.X == a1.At.X && a0.At.Y == a1.At.Y)) && (a0.Height == a1.Height)) && (a0.Mark.Kind == a1.Mark.Kind && (a0.Mark.Colors == a1.Mark.Colors && (a0.Mark.Shape == a1.Mark.Shape && a0.Mark.Topmark == a1.Mark.Topmark)))) && (zxe a0.Light a1.Light)) && (zbf a0.Sectors a1.Sectors)) && (a0.Intensity == a1.Intensity))
namespace N65
theorem DD:DOk Tryz.prog (Go.Ab.DD [(136,dP D_zxe),(137,dP D_zbf)]):=ya y8v.e <| ya yn5.e <| yf _
abbrev dn:=cj @D_zxe.eq_1 <| @D_zbf.eq_1
set_option maxHeartbeats 4000000 in
set_option maxRecDepth 20000 in
theorem den (a0:Aid) (a1:Aid)  : Den Tryz.prog 65 [.agg (eAid a0),.agg (eAid a1)] (.bool (zmg a0 a1)):=by
 generalize hR:zmg a0 a1=r;unfold zmg at hR;refine di Tryz.func65 Tryz.ntmps65 Tryz.results65 ?_;intro c hL hc hk;obtain⟨hL0,hL1,_⟩:=hL;have hw0:bwAid a0:=y3 a0 hL0;have hw1:bwAid a1:=y3 a1 hL1;clear hL0 hL1;simp only[pars,Nat.zero_add];iterate 2 refine rS ?_
 refine AWP.ret ?_;subst hR;exact es
end N65
def D_zmg : DF
 | [x0,x1]=>some (.bool (zmg (rdG dAid x0) (rdG dAid x1)),false,[wG eAid dAid x0,wG eAid dAid x1])
 | _=>none
theorem yi3:OkD Tryz.prog 65 D_zmg:=by unfold D_zmg;exact dk N65.den
def zkf (a0:Notice) (a1:Notice):Bool:=
 (a0.Number == a1.Target)
namespace N80
theorem DD:DOk Tryz.prog (Go.Ab.DD []):=yf _
theorem den (a0:Notice) (a1:Notice)  : Den Tryz.prog 80 [.agg (ye a0),.ep (ye a1)] (.bool (zkf a0 a1)):=by
 generalize hR:zkf a0 a1=r;unfold zkf at hR;refine di Tryz.func80 Tryz.ntmps80 Tryz.results80 ?_;intro c hL hc hk;obtain⟨hL0,hL1,_⟩:=hL;have hw0:bwNotice a0:=yi a0 hL0;have hw1:bwNotice a1:=yi a1 hL1;clear hL0 hL1;simp only[pars,Nat.zero_add];iterate 2 refine rS ?_
 refine AWP.ret ?_;subst hR;exact es
end N80
def D_zkf : DF
 | [x0,x1]=>some (.bool (zkf (rdG yc x0) (rdP yc x1)),false,[wG ye yc x0,wP ye yc x1])
 | _=>none
theorem yg5:OkD Tryz.prog 80 D_zkf:=by unfold D_zkf;exact dk N80.den
def yvr (a0:(List Notice)) (a1:Notice) (i1:Nat) (s1:Unit):Except (Int) (Unit):=
 (bif (zkf (a0.getD i1 default) a1)then .error (i1:Int)else .ok ())
def zbc (a0:(List Notice)) (a1:Notice):Int:=
 (match yh (yvr a0 a1) (a0.length-0) 0 ()with|.error e=>e|.ok s1=>(-1))
namespace N_zbc
theorem DD:DOk Tryz.prog (Go.Ab.DD [(80,dP D_zkf)]):=ya yg5.e <| yf _
abbrev dn:=@D_zkf.eq_1
theorem den (a0:(List Notice)) (a1:Notice)  : Den Tryz.prog 79 [encL 20 ye a0,.fn 80 0 [.ep (ye a1)]] (.int .i64 (zbc a0 a1)):=by
 generalize hR:zbc a0 a1=r;unfold zbc at hR;refine di Tryz.func79 Tryz.ntmps79 Tryz.results79 ?_;intro c hL hc hk;obtain⟨hL0,hL1,_⟩:=hL;have hw0:a0.length<9223372036854775808:=Nat.lt_succ_of_le (yb hL0).1;have hw1:∀ v∈a0,bwNotice v:=fun v hv=>yi v ((yb hL0).2 v hv)
 have hw2:bwNotice a1:=yi a1 hL1.1;clear hL0 hL1;simp only[pars,Nat.zero_add];iterate 2 refine rS ?_
 refine AWP.block ?_;generalize hz1:yh (yvr a0 a1) (a0.length-0) 0 ()=z1 at hR;refine AWP.range (yvr a0 a1) (fun i1 s1=>⟨[(0,encL 20 ye a0),(1,.fn 80 0 [.ep (ye a1)]),(7,.int .i64 (a0.length:Int)),(8,.int .i64 (i1:Int))],[]⟩) (fun i1 s1=>True) (a0.length) 0 () [] hz1 ot wt sm ?_;clear hz1;intro i1 s1 hi1 hW1 hz1;refine rS ?_;refine AWP.seq ?_;refine AWP.cond rfl (fun hb => ?_) (fun hb => ?_)
 ·have hlt1:i1<a0.length:=ot
  rw[yl hlt1]at hz1;simp only[yvr]at hz1;iterate 2 refine rS ?_
  refine AWP.cond rfl (fun hb => ?_) (fun hb => ?_)
  ·simp only[hb,cond_true]at hz1
   refine rS ?_;refine AWP.ret ?_;subst hz1;dsimp only at hR;subst hR;exact es
  ·simp only[hb,cond_false]at hz1
   refine rS ?_;exact⟨_,[],hlt1,wt,hz1,sm⟩
 ·obtain rfl:i1=a0.length:=ot
  rw[yk (Nat.le_refl _)]at hz1;subst hz1;dsimp only at hR;refine AWP.exit ?_;refine yd ?_;refine rS ?_;refine AWP.ret ?_;subst hR;exact es
end N_zbc
def D_zbc : DF
 | [x0,(.fn f80_2 kf80_2 [y1])]=>some (.int .i64 (zbc (rdL yc x0) (rdP yc y1)),false,[wL 20 ye yc x0,y1=.ep (ye (rdP yc y1)),f80_2=80,kf80_2=0])
 | _=>none
theorem yp7:OkD Tryz.prog 79 D_zbc:=by
 intro xs r z ob h ho;unfold D_zbc at h;split at h
 ·simp only[Option.some.injEq,Prod.mk.injEq]at h
  obtain⟨rfl,rfl,rfl⟩:=h;obtain⟨h0,qy1,qf80_2,qkf80_2,_⟩:=ho;exact Den.sim (N_zbc.den _ _ ) (yp (y1d h0).1 <| yp (by subst qf80_2 qkf80_2;rw[<- qy1];exact yyd _) <| trivial) (yt (y1d h0).2 <| yt (by rw[qy1];rfl) <| rfl) rfl
 ·cases h
theorem yls (a0:List Notice) (a1:Notice):(∃ j,j<a0.length/\(zkf (a0.getD j default) a1)=true/\(∀ q,q<j->(zkf (a0.getD q default) a1)=false)/\zbc a0 a1=(j:Int))\/((∀ q,q<a0.length->(zkf (a0.getD q default) a1)=false)/\zbc a0 a1 = -1):=by
 unfold zbc;rcases yvb (b:=yvr a0 a1) (fun j=>zkf (a0.getD j default) a1) (fun j=>(j:Int)) (k:=a0.length-0) (i:=0) (s:=()) (fun j u _ _=>rfl)with⟨j,_,h2,h3,h4,h5⟩|⟨h1,h2⟩
 ·left
  rw[h5];exact⟨j,by omega,h3,fun q hq=>h4 q (Nat.zero_le _) hq,rfl⟩
 ·right
  rw[h2];exact⟨fun q hq=>h1 q (Nat.zero_le _) (by omega),rfl⟩
theorem y57 (a0:List Notice) (a1:Notice) : -1<=zbc a0 a1/\zbc a0 a1<a0.length:=by
 rcases yls a0 a1 with⟨j,h1,_,_,h2⟩|⟨_,h2⟩<;>omega
def zpc (a0:Notice):Bool:=
 ((a0.Kind == 1) || (a0.Kind == 2))
namespace N27
theorem DD:DOk Tryz.prog (Go.Ab.DD []):=yf _
theorem den (a0:Notice)  : Den Tryz.prog 27 [.agg (ye a0)] (.bool (zpc a0)):=by
 generalize hR:zpc a0=r;unfold zpc at hR;refine di Tryz.func27 Tryz.ntmps27 Tryz.results27 ?_;intro c hL hc hk;obtain⟨hL0,_⟩:=hL;have hw0:bwNotice a0:=yi a0 hL0;clear hL0;simp only[pars,Nat.zero_add];iterate 2 refine rS ?_
 refine AWP.ret ?_;subst hR;exact es
end N27
def D_zpc : DF
 | [x0]=>some (.bool (zpc (rdG yc x0)),false,[wG ye yc x0])
 | _=>none
theorem y7p:OkD Tryz.prog 27 D_zpc:=by unfold D_zpc;exact dk N27.den
def zxh (a0:Notice) (a1:Notice):Bool:=
 ((a0.Kind == 4) && (a0.Target == a1.Target))
namespace N82
theorem DD:DOk Tryz.prog (Go.Ab.DD []):=yf _
theorem den (a0:Notice) (a1:Notice)  : Den Tryz.prog 82 [.agg (ye a0),.ep (ye a1)] (.bool (zxh a0 a1)):=by
 generalize hR:zxh a0 a1=r;unfold zxh at hR;refine di Tryz.func82 Tryz.ntmps82 Tryz.results82 ?_;intro c hL hc hk;obtain⟨hL0,hL1,_⟩:=hL;have hw0:bwNotice a0:=yi a0 hL0;have hw1:bwNotice a1:=yi a1 hL1;clear hL0 hL1;simp only[pars,Nat.zero_add];iterate 2 refine rS ?_
 refine AWP.ret ?_;subst hR;exact es
end N82
def D_zxh : DF
 | [x0,x1]=>some (.bool (zxh (rdG yc x0) (rdP yc x1)),false,[wG ye yc x0,wP ye yc x1])
 | _=>none
theorem yv2:OkD Tryz.prog 82 D_zxh:=by unfold D_zxh;exact dk N82.den
def ybt (a0:(List Notice)) (a1:Notice) (i1:Nat) (s1:Unit):Except (Int) (Unit):=
 (bif (zxh (a0.getD i1 default) a1)then .error (i1:Int)else .ok ())
def zoe (a0:(List Notice)) (a1:Notice):Int:=
 (match yh (ybt a0 a1) (a0.length-0) 0 ()with|.error e=>e|.ok s1=>(-1))
namespace N_zoe
theorem DD:DOk Tryz.prog (Go.Ab.DD [(82,dP D_zxh)]):=ya yv2.e <| yf _
abbrev dn:=@D_zxh.eq_1
theorem den (a0:(List Notice)) (a1:Notice)  : Den Tryz.prog 79 [encL 20 ye a0,.fn 82 0 [.ep (ye a1)]] (.int .i64 (zoe a0 a1)):=by
 generalize hR:zoe a0 a1=r;unfold zoe at hR;refine di Tryz.func79 Tryz.ntmps79 Tryz.results79 ?_;intro c hL hc hk;obtain⟨hL0,hL1,_⟩:=hL;have hw0:a0.length<9223372036854775808:=Nat.lt_succ_of_le (yb hL0).1;have hw1:∀ v∈a0,bwNotice v:=fun v hv=>yi v ((yb hL0).2 v hv)
 have hw2:bwNotice a1:=yi a1 hL1.1;clear hL0 hL1;simp only[pars,Nat.zero_add];iterate 2 refine rS ?_
 refine AWP.block ?_;generalize hz1:yh (ybt a0 a1) (a0.length-0) 0 ()=z1 at hR;refine AWP.range (ybt a0 a1) (fun i1 s1=>⟨[(0,encL 20 ye a0),(1,.fn 82 0 [.ep (ye a1)]),(7,.int .i64 (a0.length:Int)),(8,.int .i64 (i1:Int))],[]⟩) (fun i1 s1=>True) (a0.length) 0 () [] hz1 ot wt sm ?_;clear hz1;intro i1 s1 hi1 hW1 hz1;refine rS ?_;refine AWP.seq ?_;refine AWP.cond rfl (fun hb => ?_) (fun hb => ?_)
 ·have hlt1:i1<a0.length:=ot
  rw[yl hlt1]at hz1;simp only[ybt]at hz1;iterate 2 refine rS ?_
  refine AWP.cond rfl (fun hb => ?_) (fun hb => ?_)
  ·simp only[hb,cond_true]at hz1
   refine rS ?_;refine AWP.ret ?_;subst hz1;dsimp only at hR;subst hR;exact es
  ·simp only[hb,cond_false]at hz1
   refine rS ?_;exact⟨_,[],hlt1,wt,hz1,sm⟩
 ·obtain rfl:i1=a0.length:=ot
  rw[yk (Nat.le_refl _)]at hz1;subst hz1;dsimp only at hR;refine AWP.exit ?_;refine yd ?_;refine rS ?_;refine AWP.ret ?_;subst hR;exact es
end N_zoe
def D_zoe : DF
 | [x0,(.fn f82_2 kf82_2 [y1])]=>some (.int .i64 (zoe (rdL yc x0) (rdP yc y1)),false,[wL 20 ye yc x0,y1=.ep (ye (rdP yc y1)),f82_2=82,kf82_2=0])
 | _=>none
theorem yn6:OkD Tryz.prog 79 D_zoe:=by
 intro xs r z ob h ho;unfold D_zoe at h;split at h
 ·simp only[Option.some.injEq,Prod.mk.injEq]at h
  obtain⟨rfl,rfl,rfl⟩:=h;obtain⟨h0,qy1,qf82_2,qkf82_2,_⟩:=ho;exact Den.sim (N_zoe.den _ _ ) (yp (y1d h0).1 <| yp (by subst qf82_2 qkf82_2;rw[<- qy1];exact yyd _) <| trivial) (yt (y1d h0).2 <| yt (by rw[qy1];rfl) <| rfl) rfl
 ·cases h
def zfg (a0:(List Notice)) (a1:Notice):Bool:=
 decide (0<=(zoe a0 a1))
namespace N_zfg
theorem DD:DOk Tryz.prog (Go.Ab.DD [(79,dP D_zoe)]):=ya yn6.e <| yf _
abbrev dn:=@D_zoe.eq_1
theorem den (a0:(List Notice)) (a1:Notice)  : Den Tryz.prog 81 [encL 20 ye a0,.fn 82 0 [.ep (ye a1)]] (.bool (zfg a0 a1)):=by
 generalize hR:zfg a0 a1=r;unfold zfg at hR;refine di Tryz.func81 Tryz.ntmps81 Tryz.results81 ?_;intro c hL hc hk;obtain⟨hL0,hL1,_⟩:=hL;have hw0:a0.length<9223372036854775808:=Nat.lt_succ_of_le (yb hL0).1;have hw1:∀ v∈a0,bwNotice v:=fun v hv=>yi v ((yb hL0).2 v hv)
 have hw2:bwNotice a1:=yi a1 hL1.1;clear hL0 hL1;simp only[pars,Nat.zero_add];iterate 2 refine rS ?_
 refine AWP.ret ?_;subst hR;exact es
end N_zfg
def D_zfg : DF
 | [x0,(.fn f82_2 kf82_2 [y1])]=>some (.bool (zfg (rdL yc x0) (rdP yc y1)),false,[wL 20 ye yc x0,y1=.ep (ye (rdP yc y1)),f82_2=82,kf82_2=0])
 | _=>none
theorem y76:OkD Tryz.prog 81 D_zfg:=by
 intro xs r z ob h ho;unfold D_zfg at h;split at h
 ·simp only[Option.some.injEq,Prod.mk.injEq]at h
  obtain⟨rfl,rfl,rfl⟩:=h;obtain⟨h0,qy1,qf82_2,qkf82_2,_⟩:=ho;exact Den.sim (N_zfg.den _ _ ) (yp (y1d h0).1 <| yp (by subst qf82_2 qkf82_2;rw[<- qy1];exact yyd _) <| trivial) (yt (y1d h0).2 <| yt (by rw[qy1];rfl) <| rfl) rfl
 ·cases h
def zrf (a0:Notice) (a1:(List Notice)):Bool:=
 (bif (decide ((zbc a1 a0)<0) || (((a1.getD (((zbc a1 a0)).toNat) default).Kind) == 4))then false else(!(zfg a1 a0)))
namespace N36
theorem DD:DOk Tryz.prog (Go.Ab.DD [(79,dP D_zbc),(81,dP D_zfg)]):=ya yp7.e <| ya y76.e <| yf _
abbrev dn:=cj @D_zbc.eq_1 <| @D_zfg.eq_1
theorem gr {p:Prop} (h:p:=by(grind [y57]);first|done|fail):p:=h
theorem o0 {p:Prop} (h:p:=by(first|(intro h;simp at h;omega));first|done|fail):p:=h
theorem den (a0:Notice) (a1:(List Notice))  : Den Tryz.prog 36 [.agg (ye a0),encL 20 ye a1] (.bool (zrf a0 a1)):=by
 generalize hR:zrf a0 a1=r;unfold zrf at hR;refine di Tryz.func36 Tryz.ntmps36 Tryz.results36 ?_;intro c hL hc hk;obtain⟨hL0,hL1,_⟩:=hL;have hw0:bwNotice a0:=yi a0 hL0;have hw1:a1.length<9223372036854775808:=Nat.lt_succ_of_le (yb hL1).1;have hw2:∀ v∈a1,bwNotice v:=fun v hv=>yi v ((yb hL1).2 v hv)
 clear hL0 hL1;simp only[pars,Nat.zero_add];have hix:=y57 a1 a0;iterate 3 refine rS ?_
 refine AWP.cond rfl (fun hb => ?_) (fun hb => ?_)
 ·replace hR:=ct hR
  refine rS ?_;refine AWP.ret ?_;subst hR;exact es
 ·replace hR:=cf hR
  refine rS ?_;refine AWP.ret ?_;subst hR;exact es
end N36
def D_zrf : DF
 | [x0,x1]=>some (.bool (zrf (rdG yc x0) (rdL yc x1)),false,[wG ye yc x0,wL 20 ye yc x1])
 | _=>none
theorem yiv:OkD Tryz.prog 36 D_zrf:=by unfold D_zrf;exact dk N36.den
def zyh (a0:Notice) (a1:Notice) (a2:Int):Bool:=
 (((a0.Kind == 4) && (a0.Target == a1.Number)) && decide (a0.Day<=a2))
namespace N87
theorem DD:DOk Tryz.prog (Go.Ab.DD []):=yf _
theorem den (a0:Notice) (a1:Notice) (a2:Int)  : Den Tryz.prog 87 [.agg (ye a0),.ep (ye a1),.ep (yx a2)] (.bool (zyh a0 a1 a2)):=by
 generalize hR:zyh a0 a1 a2=r;unfold zyh at hR;refine di Tryz.func87 Tryz.ntmps87 Tryz.results87 ?_;intro c hL hc hk;obtain⟨hL0,hL1,hL2,_⟩:=hL;have hw0:bwNotice a0:=yi a0 hL0;have hw1:bwNotice a1:=yi a1 hL1;clear hL0 hL1 hL2;simp only[pars,Nat.zero_add];iterate 2 refine rS ?_
 refine AWP.ret ?_;subst hR;exact es
end N87
def D_zyh : DF
 | [x0,x1,x2]=>some (.bool (zyh (rdG yc x0) (rdP yc x1) (rdP ynb x2)),false,[wG ye yc x0,wP ye yc x1,wP yx ynb x2])
 | _=>none
theorem yt2:OkD Tryz.prog 87 D_zyh:=by unfold D_zyh;exact dk N87.den
def y2s (a0:(List Notice)) (a1:Notice) (a2:Int) (i1:Nat) (s1:Unit):Except (Int) (Unit):=
 (bif (zyh (a0.getD i1 default) a1 a2)then .error (i1:Int)else .ok ())
def zpe (a0:(List Notice)) (a1:Notice) (a2:Int):Int:=
 (match yh (y2s a0 a1 a2) (a0.length-0) 0 ()with|.error e=>e|.ok s1=>(-1))
namespace N_zpe
theorem DD:DOk Tryz.prog (Go.Ab.DD [(87,dP D_zyh)]):=ya yt2.e <| yf _
abbrev dn:=@D_zyh.eq_1
theorem den (a0:(List Notice)) (a1:Notice) (a2:Int)  : Den Tryz.prog 79 [encL 20 ye a0,.fn 87 0 [.ep (ye a1),.ep (yx a2)]] (.int .i64 (zpe a0 a1 a2)):=by
 generalize hR:zpe a0 a1 a2=r;unfold zpe at hR;refine di Tryz.func79 Tryz.ntmps79 Tryz.results79 ?_;intro c hL hc hk;obtain⟨hL0,hL1,_⟩:=hL;have hw0:a0.length<9223372036854775808:=Nat.lt_succ_of_le (yb hL0).1;have hw1:∀ v∈a0,bwNotice v:=fun v hv=>yi v ((yb hL0).2 v hv)
 have hw2:bwNotice a1:=yi a1 hL1.1;clear hL0 hL1;simp only[pars,Nat.zero_add];iterate 2 refine rS ?_
 refine AWP.block ?_;generalize hz1:yh (y2s a0 a1 a2) (a0.length-0) 0 ()=z1 at hR;refine AWP.range (y2s a0 a1 a2) (fun i1 s1=>⟨[(0,encL 20 ye a0),(1,.fn 87 0 [.ep (ye a1),.ep (yx a2)]),(7,.int .i64 (a0.length:Int)),(8,.int .i64 (i1:Int))],[]⟩) (fun i1 s1=>True) (a0.length) 0 () [] hz1 ot wt sm ?_;clear hz1;intro i1 s1 hi1 hW1 hz1;refine rS ?_;refine AWP.seq ?_;refine AWP.cond rfl (fun hb => ?_) (fun hb => ?_)
 ·have hlt1:i1<a0.length:=ot
  rw[yl hlt1]at hz1;simp only[y2s]at hz1;iterate 2 refine rS ?_
  refine AWP.cond rfl (fun hb => ?_) (fun hb => ?_)
  ·simp only[hb,cond_true]at hz1
   refine rS ?_;refine AWP.ret ?_;subst hz1;dsimp only at hR;subst hR;exact es
  ·simp only[hb,cond_false]at hz1
   refine rS ?_;exact⟨_,[],hlt1,wt,hz1,sm⟩
 ·obtain rfl:i1=a0.length:=ot
  rw[yk (Nat.le_refl _)]at hz1;subst hz1;dsimp only at hR;refine AWP.exit ?_;refine yd ?_;refine rS ?_;refine AWP.ret ?_;subst hR;exact es
end N_zpe
def D_zpe : DF
 | [x0,(.fn f87_3 kf87_3 [y1,y2])]=>some (.int .i64 (zpe (rdL yc x0) (rdP yc y1) (rdP ynb y2)),false,[wL 20 ye yc x0,y1=.ep (ye (rdP yc y1)),y2=.ep (yx (rdP ynb y2)),f87_3=87,kf87_3=0])
 | _=>none
theorem yl7:OkD Tryz.prog 79 D_zpe:=by
 intro xs r z ob h ho;unfold D_zpe at h;split at h
 ·simp only[Option.some.injEq,Prod.mk.injEq]at h
  obtain⟨rfl,rfl,rfl⟩:=h;obtain⟨h0,qy1,qy2,qf87_3,qkf87_3,_⟩:=ho;exact Den.sim (N_zpe.den _ _ _ ) (yp (y1d h0).1 <| yp (by subst qf87_3 qkf87_3;rw[<- qy1, <- qy2];exact yyd _) <| trivial) (yt (y1d h0).2 <| yt (by rw[qy1,qy2];rfl) <| rfl) rfl
 ·cases h
def zzf (a0:(List Notice)) (a1:Notice) (a2:Int):Bool:=
 decide (0<=(zpe a0 a1 a2))
namespace N_zzf
theorem DD:DOk Tryz.prog (Go.Ab.DD [(79,dP D_zpe)]):=ya yl7.e <| yf _
abbrev dn:=@D_zpe.eq_1
theorem den (a0:(List Notice)) (a1:Notice) (a2:Int)  : Den Tryz.prog 81 [encL 20 ye a0,.fn 87 0 [.ep (ye a1),.ep (yx a2)]] (.bool (zzf a0 a1 a2)):=by
 generalize hR:zzf a0 a1 a2=r;unfold zzf at hR;refine di Tryz.func81 Tryz.ntmps81 Tryz.results81 ?_;intro c hL hc hk;obtain⟨hL0,hL1,_⟩:=hL;have hw0:a0.length<9223372036854775808:=Nat.lt_succ_of_le (yb hL0).1;have hw1:∀ v∈a0,bwNotice v:=fun v hv=>yi v ((yb hL0).2 v hv)
 have hw2:bwNotice a1:=yi a1 hL1.1;clear hL0 hL1;simp only[pars,Nat.zero_add];iterate 2 refine rS ?_
 refine AWP.ret ?_;subst hR;exact es
end N_zzf
def D_zzf : DF
 | [x0,(.fn f87_3 kf87_3 [y1,y2])]=>some (.bool (zzf (rdL yc x0) (rdP yc y1) (rdP ynb y2)),false,[wL 20 ye yc x0,y1=.ep (ye (rdP yc y1)),y2=.ep (yx (rdP ynb y2)),f87_3=87,kf87_3=0])
 | _=>none
theorem yr7:OkD Tryz.prog 81 D_zzf:=by
 intro xs r z ob h ho;unfold D_zzf at h;split at h
 ·simp only[Option.some.injEq,Prod.mk.injEq]at h
  obtain⟨rfl,rfl,rfl⟩:=h;obtain⟨h0,qy1,qy2,qf87_3,qkf87_3,_⟩:=ho;exact Den.sim (N_zzf.den _ _ _ ) (yp (y1d h0).1 <| yp (by subst qf87_3 qkf87_3;rw[<- qy1, <- qy2];exact yyd _) <| trivial) (yt (y1d h0).2 <| yt (by rw[qy1,qy2];rfl) <| rfl) rfl
 ·cases h
def ybr (a0:(List Notice)) (a1:Int) (i1:Nat) (s1:List Notice):Except ((List Notice)) (List Notice):=
 (bif (((((a0.getD i1 default).Kind) != 4) && decide (((a0.getD i1 default).Day)<=a1)) && (!(zzf a0 (a0.getD i1 default) a1)))then .ok (s1++[(a0.getD i1 default)])else .ok s1)
def zq (a0:(List Notice)) (a1:Int):(List Notice):=
 (match yh (ybr a0 a1) (a0.length-0) 0 ([]:List Notice)with|.error e=>e|.ok s1=>s1)
namespace N43
theorem DD:DOk Tryz.prog (Go.Ab.DD [(81,dP D_zzf)]):=ya yr7.e <| yf _
abbrev dn:=@D_zzf.eq_1
theorem o2 {p:Prop} (h:p:=by(first|(and_intros<;>first|rfl|decide|(rw[IntKind.wrap_i64];omega)|(simp only[List.length_append,List.length_singleton];(first|done|fail))|(intro j hj;by_cases hji:j<s1.length;(focus(simp only[ypn hji,ykr hji,cond_true];first|(first|done|fail)|rfl|(and_intros<;>rfl)));(simp only[ynn hji hj,yst hji,cond_false];first|(first|done|fail)|rfl|(and_intros<;>rfl)))));first|done|fail):p:=h
set_option maxHeartbeats 2000000 in
set_option maxRecDepth 20000 in
theorem den (a0:(List Notice)) (a1:Int) (hb0:a0.length<1099511627776) (hb1:∀ v∈a0,bdNotice v) (hp0:a0.length<=1073741824):Den Tryz.prog 43 [encL 20 ye a0,.int .i64 a1] (ownL 39 20 ye (zq a0 a1)):=by
 generalize hR:zq a0 a1=r;unfold zq at hR;refine di Tryz.func43 Tryz.ntmps43 Tryz.results43 ?_;intro c hL hc hk;obtain⟨hL0,hL1,_⟩:=hL;have hw0:a0.length<9223372036854775808:=Nat.lt_succ_of_le (yb hL0).1;have hw1:∀ v∈a0,bwNotice v:=fun v hv=>yi v ((yb hL0).2 v hv)
 clear hL0 hL1;simp only[pars,Nat.zero_add];iterate 3 refine rS ?_
 refine AWP.block ?_;generalize hz1:yh (ybr a0 a1) (a0.length-0) 0 ([]:List Notice)=z1 at hR;refine AWP.range (ybr a0 a1) (fun i1 s1=>⟨[(0,encL 20 ye a0),(3,.ptr 0 0),(5,.ref 1 20 0 s1.length),(10,encL 20 ye a0),(11,.int .i64 (a0.length:Int)),(12,.int .i64 (i1:Int))],[.box [.int .i64 a1],.arr 39 20 s1.length (fun j=>ye (s1.getD j default))]⟩) (fun i1 s1=>s1.length<=([]:List Notice).length+1 * i1) (a0.length) 0 ([]:List Notice) [0,1] hz1 ot wt sm ?_;clear hz1;intro i1 s1 hi1 hW1 hz1;refine rS ?_;refine AWP.seq ?_;refine AWP.cond rfl (fun hb => ?_) (fun hb => ?_)
 ·have hlt1:i1<a0.length:=ot
  rw[yl hlt1]at hz1;simp only[ybr]at hz1;iterate 3 refine rS ?_
  refine AWP.cond rfl (fun hb => ?_) (fun hb => ?_)
  ·simp only[hb,cond_true]at hz1
   iterate 2 refine rS ?_
   exact⟨_,[0,4],hlt1,wt,hz1,sm⟩
  ·simp only[hb,cond_false]at hz1
   refine rS ?_;exact⟨_,[0,1],hlt1,wt,hz1,sm⟩
 ·obtain rfl:i1=a0.length:=ot
  rw[yk (Nat.le_refl _)]at hz1;subst hz1;dsimp only at hR;refine AWP.exit ?_;refine yd ?_;refine rS ?_;refine AWP.ret ?_;subst hR;exact es
end N43
def D_zq : DF
 | [x0,x1]=>some (ownL 39 20 ye (zq (rdL yc x0) (rdI x1)),false,[wL 20 ye yc x0,wI .i64 x1,(rdL yc x0).length<1099511627776,∀ v∈(rdL yc x0),bdNotice v,(rdL yc x0).length<=1073741824])
 | _=>none
theorem y41:OkD Tryz.prog 43 D_zq:=by unfold D_zq;exact dk N43.den
def zcc (a0:Int):(List UInt8):=
 (zvb a0 [[],[110,101,119],[99,104,97,110,103,101],[100,114,111,112],[99,97,110,99,101,108]])
namespace N26
theorem DD:DOk Tryz.prog (Go.Ab.DD [(58,dP D_zvb)]):=ya yhg.e <| yf _
abbrev dn:=@D_zvb.eq_1
theorem lx {p:Prop} (h:p:=by(exact lxx);first|done|fail):p:=h
theorem den (a0:Int)  : Den Tryz.prog 26 [.int .i64 a0] (.str (zcc a0)):=by
 generalize hR:zcc a0=r;unfold zcc at hR;refine di Tryz.func26 Tryz.ntmps26 Tryz.results26 ?_;intro c hL hc hk;clear hL;simp only[pars,Nat.zero_add];iterate 2 refine rS ?_
 refine AWP.ret ?_;subst hR;exact es
end N26
def D_zcc : DF
 | [x0]=>some (.str (zcc (rdI x0)),false,[wI .i64 x0])
 | _=>none
theorem ykx:OkD Tryz.prog 26 D_zcc:=by unfold D_zcc;exact dk N26.den
def yjn (a0:(List Notice)) (i1:Nat) (s1:List Notice):Except ((List Notice)) (List Notice):=
 .ok (s1++[{ Number:=(a0.getD i1 default).Number,Day:=(a0.getD i1 default).Day,Kind:=(a0.getD i1 default).Kind,Target:=(a0.getD i1 default).Target,Aid:=zod ((a0.getD i1 default).Aid):Notice }])
def zwc (a0:(List Notice)):(List Notice):=
 (match yh (yjn a0) (a0.length-0) 0 (List.replicate 0 (default:Notice))with|.error e=>e|.ok s1=>s1)
namespace N37
theorem DD:DOk Tryz.prog (Go.Ab.DD [(83,dP D_zod)]):=ya ytk.e <| yf _
abbrev dn:=@D_zod.eq_1
theorem den (a0:(List Notice)) (hb0:a0.length<1099511627776) (hb1:∀ v∈a0,bdNotice v) (hp0:a0.length<=1073741824):Den Tryz.prog 37 [encL 20 ye a0] (ownL 39 20 y7b (zwc a0)):=by
 generalize hR:zwc a0=r;unfold zwc at hR;refine di Tryz.func37 Tryz.ntmps37 Tryz.results37 ?_;intro c hL hc hk;obtain⟨hL0,_⟩:=hL;have hw0:a0.length<9223372036854775808:=Nat.lt_succ_of_le (yb hL0).1;have hw1:∀ v∈a0,bwNotice v:=fun v hv=>yi v ((yb hL0).2 v hv)
 clear hL0;simp only[pars,Nat.zero_add];iterate 3 refine rS ?_
 refine AWP.block ?_;generalize hz1:yh (yjn a0) (a0.length-0) 0 (List.replicate 0 (default:Notice))=z1 at hR;refine AWP.range (yjn a0) (fun i1 s1=>⟨[(3,.ref 0 20 0 s1.length),(10,encL 20 ye a0),(11,.int .i64 (a0.length:Int)),(12,.int .i64 (i1:Int))],[.arr 39 20 s1.length (fun j=>y7b (s1.getD j default))]⟩) (fun i1 s1=>s1.length<=(List.replicate 0 (default:Notice)).length+1 * i1) (a0.length) 0 (List.replicate 0 (default:Notice)) [0] hz1 ot wt sm ?_;clear hz1;intro i1 s1 hi1 hW1 hz1;refine rS ?_;refine AWP.seq ?_;refine AWP.cond rfl (fun hb => ?_) (fun hb => ?_)
 ·have hlt1:i1<a0.length:=ot
  rw[yl hlt1]at hz1;simp only[yjn]at hz1;iterate 4 refine rS ?_
  exact⟨_,[5],hlt1,wt,hz1,sm⟩
 ·obtain rfl:i1=a0.length:=ot
  rw[yk (Nat.le_refl _)]at hz1;subst hz1;dsimp only at hR;refine AWP.exit ?_;refine yd ?_;refine rS ?_;refine AWP.ret ?_;subst hR;exact es
end N37
def D_zwc : DF
 | [x0]=>some (ownL 39 20 y7b (zwc (rdL yc x0)),false,[wL 20 ye yc x0,(rdL yc x0).length<1099511627776,∀ v∈(rdL yc x0),bdNotice v,(rdL yc x0).length<=1073741824])
 | _=>none
theorem yq6:OkD Tryz.prog 37 D_zwc:=by unfold D_zwc;exact dk N37.den
theorem ynl (P:Notice->Prop) (a:List Notice) (d:Int) (hP:∀ v∈a,P v):(zq a d).length<=a.length/\∀ v∈zq a d,P v:=by
 unfold zq
 obtain⟨t,h1,h2⟩:=yrb (b:=ybr a d) (fun j s=>s.length<=j/\∀ v∈s,P v) (k:=a.length-0) (i:=0) (s:=[]) ⟨by simp,fun v hv=>by simp at hv⟩ (by
  intro j u _ hj h;simp only[ybr]
  cases(((((a.getD j default).Kind) != 4) && decide (((a.getD j default).Day)<=d)) && (!(zzf a (a.getD j default) d)))with
  | true=>
   refine⟨_,rfl,by simp;exact h.1,fun v hv => ?_⟩;rcases List.mem_append.1 hv with hv|hv
   ·exact h.2 v hv
   ·have:v=a.getD j default:=by simpa using hv
    subst this;rw[List.getD_eq_getElem?_getD,List.getElem?_eq_getElem (show j<a.length by omega)];exact hP _ (List.getElem_mem (by omega))
  | false=>exact⟨_,rfl,by omega,h.2⟩)
 rw[h1];simpa using h2
theorem yef (a:List Notice) (d:Int):(zq a d).length<=a.length:=(ynl (fun _=>True) a d (fun _ _=>trivial)).1
def zud (a0:(List Notice)):(List Notice):=
 (List.replicate 0 (default:Notice))++a0
namespace N38
theorem DD:DOk Tryz.prog (Go.Ab.DD []):=yf _
theorem o3 {p:Prop} (h:p:=by(first|(have hb0:∀ i:Nat,Nat.blt i 0=false:=fun i=>by cases i<;>rfl);simp only[hb0,cond_false,List.replicate_zero,List.nil_append];refine⟨Nat.le_refl _,.inr fun i hi => ?_,trivial,fun i hi => ?_⟩;(focus(simp[yob,yxb]));(focus(exact y6 _)));first|done|fail):p:=h
theorem den (a0:(List Notice)) (hb0:a0.length<1099511627776) (hb1:∀ v∈a0,bdNotice v) (hp0:a0.length<=1073741824):Den Tryz.prog 38 [encL 20 ye a0] (ownL 39 20 ye (zud a0)):=by
 generalize hR:zud a0=r;unfold zud at hR;refine di Tryz.func38 Tryz.ntmps38 Tryz.results38 ?_;intro c hL hc hk;obtain⟨hL0,_⟩:=hL;have hw0:a0.length<9223372036854775808:=Nat.lt_succ_of_le (yb hL0).1;have hw1:∀ v∈a0,bwNotice v:=fun v hv=>yi v ((yb hL0).2 v hv)
 clear hL0;simp only[pars,Nat.zero_add];iterate 2 refine rS ?_
 refine AWP.ret ?_;subst hR;exact es
end N38
def D_zud : DF
 | [x0]=>some (ownL 39 20 ye (zud (rdL yc x0)),false,[wL 20 ye yc x0,(rdL yc x0).length<1099511627776,∀ v∈(rdL yc x0),bdNotice v,(rdL yc x0).length<=1073741824])
 | _=>none
theorem yb6:OkD Tryz.prog 38 D_zud:=by unfold D_zud;exact dk N38.den
theorem yyg (l:List Notice):zud l=l:=by simp[zud]
end Go.Ab
