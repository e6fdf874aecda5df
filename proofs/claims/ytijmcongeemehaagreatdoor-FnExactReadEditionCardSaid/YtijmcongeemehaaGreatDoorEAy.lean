/- A part of a proof: walks of functions and lemmas of our own. No conditions. -/
import Derived.Test.YtijmcongeemehaaGreatDoorEAx
import Derived.Test.YtijmcongeemehaaGreatDoorEAu
import Derived.Test.YtijmcongeemehaaGreatDoorEAo
import Derived.Test.YtijmcongeemehaaGreatDoorEAr
import Derived.Test.YtijmcongeemehaaGreatDoorEAl
import Derived.Test.YtijmcongeemehaaGreatDoorEAi
import Derived.Test.YtijmcongeemehaaGreatDoorEAp
import Derived.Test.YtijmcongeemehaaGreatDoorEAv
import Derived.Test.YtijmcongeemehaaGreatDoorEAs
import Derived.Test.YtijmcongeemehaaGreatDoorEAk
set_option linter.unusedSectionVars false
set_option linter.unusedVariables false
set_option linter.unusedSimpArgs false
set_option maxHeartbeats 1000000
namespace Go.Ab
open Go Go.Proofs
theorem yd3 (g:List Int):zpd g=zkd g:=Bool.eq_iff_iff.2 ((y9l g).trans (yzf g).symm)
theorem y1o (a:List UInt8):(zrb a != [])=decide (a.length=1/\65<=(a.getD 0 0).toNat/\(a.getD 0 0).toNat<=90):=by
 rw[y2j];by_cases h:a.length=1/\65<=(a.getD 0 0).toNat/\(a.getD 0 0).toNat<=90
 ·rw[if_pos h,decide_eq_true h]
  have hlt:(a.getD 0 0).toNat-65<yhd.length:=by show _<26;omega
  rw[List.getD_eq_getElem?_getD,List.getElem?_eq_getElem hlt,Option.getD_some];have:=(yli _ (List.getElem_mem hlt)).1;rw[bne_iff_ne];intro h2;rw[h2]at this;simp at this
 ·rw[if_neg h,decide_eq_false h];rfl
theorem yf1 (L:List UInt8) (g:List Int) :
  (bif (L == [])then(((g.length:Int) == 0) || (((g.length:Int) == 1) && (ze (g.getD 0 default) 2 9)))else((L == [76]) && (znc g [6]))) =
  (bif (L == [76])then(((g.length:Int) == 1) && ((g.getD 0 default) == 6))else(((L == []) && decide ((g.length:Int)<=1)) && (zkd g))):=by
 by_cases h1:L=[]
 ·subst h1
  simp only[show(([]:List UInt8) == [])=true from rfl,show(([]:List UInt8) == [76])=false from rfl,cond_true,cond_false,Bool.true_and];apply Bool.eq_iff_iff.2;rw[Bool.and_eq_true,yzf,decide_eq_true_eq]
  match g with
  | []=>simp[yqw]
  | [x]=>
   have e:((([x]:List Int).length:Int) == 0)=false:=rfl;have e2:((([x]:List Int).length:Int) == 1)=true:=rfl;rw[e,e2];simp only[Bool.false_or,Bool.true_and,ze,Bool.and_eq_true,decide_eq_true_eq,List.getD_cons_zero,yqw,List.length_singleton,List.mem_singleton,forall_eq,List.sum_cons,List.sum_nil,ne_eq,List.cons.injEq,and_true];omega
  | x::y::t=>
   have e:(((x::y::t).length:Int) == 0)=false:=by rw[beq_eq_false_iff_ne];simp only[List.length_cons];omega
   have e2:(((x::y::t).length:Int) == 1)=false:=by rw[beq_eq_false_iff_ne];simp only[List.length_cons];omega
   rw[e,e2];simp only[Bool.false_and,Bool.or_self,Bool.false_eq_true,false_iff,List.length_cons];omega
 ·have e1:(L == [])=false:=by simpa using h1
  rw[e1];by_cases h2:L=[76]
  ·subst h2
   simp only[BEq.rfl,cond_true,cond_false,Bool.true_and,ytf];apply Bool.eq_iff_iff.2;rw[Bool.and_eq_true,decide_eq_true_eq,beq_iff_eq,beq_iff_eq];constructor
   ·intro h;subst h;simp
   ·rintro⟨h3,h4⟩
    obtain⟨x,rfl⟩:=List.length_eq_one_iff.1 (show g.length=1 by omega);simp only[List.getD_cons_zero]at h4;rw[h4]
  ·have e2:(L == [76])=false:=by simpa using h2
   rw[e2];simp
theorem y42 (c:Character) (hl:c.Colors.length<9223372036854775808):zte c=(zvb c.Colors && zgb c):=by
 unfold zte zgb zmg zi;rw[ymp _ hl, <- yf1,yd3,y1o]
 cases zhc c.Colors with
 | false=>simp
 | true=>
  simp only[Bool.not_true,Bool.or_false,Bool.true_and];rcases(show c.Kind=1\/c.Kind=2\/c.Kind=3\/c.Kind=4\/c.Kind=5\/c.Kind=6\/c.Kind=7\/c.Kind=8\/(c.Kind<1\/8<c.Kind)by omega)with h|h|h|h|h|h|h|h|h
  ·rw[h];rfl
  ·rw[h];rfl
  ·rw[h];rfl
  ·rw[h];rfl
  ·rw[h];rfl
  ·rw[h];rfl
  ·rw[h];rfl
  ·rw[h]
   show((((((c.Group.length:Int) == 0) && ((c.Letter.length:Int) == 1)) && decide (65<=((c.Letter.getD 0 0).toNat:Int))) && decide (((c.Letter.getD 0 0).toNat:Int)<=90)))=(decide (c.Letter.length=1/\65<=(c.Letter.getD 0 0).toNat/\(c.Letter.getD 0 0).toNat<=90) && ((c.Group.length:Int) == 0))
   apply Bool.eq_iff_iff.2;simp only[Bool.and_eq_true,beq_iff_eq,decide_eq_true_eq];omega
  ·have e0:(decide (1<=c.Kind) && decide (c.Kind<=8))=false:=by
    rw[Bool.and_eq_false_iff,decide_eq_false_iff_not,decide_eq_false_iff_not];omega
   have e:∀ n:Int,1<=n->n<=8->(c.Kind == n)=false:=fun n h1 h2=>by rw[beq_eq_false_iff_ne];omega
   rw[e0,e 1 (by omega) (by omega),e 2 (by omega) (by omega),e 3 (by omega) (by omega),e 4 (by omega) (by omega),e 5 (by omega) (by omega),e 6 (by omega) (by omega),e 7 (by omega) (by omega),e 8 (by omega) (by omega)];rfl
theorem y87 (l:List Int):zqe l=zzd l:=rfl
theorem ytk (c:Character):zcd c=zef c:=rfl
theorem yvq (c:Character) (h:zgb c=true) (h8:c.Kind≠8):(c.Letter != [])=(c.Letter == [76]):=by
 unfold zgb at h;simp only[Bool.cond_eq_ite]at h;have e8:(c.Kind == 8)=false:=by rw[beq_eq_false_iff_ne];exact h8
 repeat' split at h
 all_goals first
  | (rename_i q;rw[e8]at q;cases q;done)
  | (cases h;done)
  | (simp only[Bool.and_eq_true,beq_iff_eq]at h;rw[h.2];rfl)
  | (simp only[Bool.and_eq_true,beq_iff_eq]at h;rw[h.1];rfl)
  | (rename_i q;simp only[beq_iff_eq]at q;rw[q];rfl)
theorem y1y (k:Int) (h:k=2\/k=4\/k=5\/k=6\/k=7\/k=8):(zw k).1=zfe k/\(zw k).2.1=zbc k:=by
 rcases h with h|h|h|h|h|h<;>subst h<;>exact⟨rfl,rfl⟩
theorem yo3 (c:Character) (h:zgb c=true) (hk:c.Kind=2\/c.Kind=4\/c.Kind=5\/c.Kind=6\/c.Kind=7\/c.Kind=8):zv c=zq c:=by
 obtain⟨r1,r2⟩:=y1y c.Kind hk;by_cases h8:c.Kind=8
 ·have hs:(zrb c.Letter != [])=true:=by
   unfold zgb at h;rw[h8]at h;have h:(((zrb c.Letter) != []) && ((c.Group.length:Int) == 0))=true:=h;rw[Bool.and_eq_true]at h;exact h.1
  rw[y1o,decide_eq_true_eq]at hs;have e1:=y2j c.Letter;rw[if_pos hs]at e1;have e2:=y3g ((c.Letter.getD 0 0).toNat:Int);rw[yql _ (by omega) (by omega),show((((c.Letter.getD 0 0).toNat:Int)-65).toNat)=(c.Letter.getD 0 0).toNat-65 by omega]at e2;have hd:(default:List UInt8)=[]:=rfl;rw[hd]at e2
  have hall:∀ x∈yhd.getD ((c.Letter.getD 0 0).toNat-65) [],x=45\/x=46:=by
   have hlt:(c.Letter.getD 0 0).toNat-65<yhd.length:=by show _<26;omega
   rw[List.getD_eq_getElem?_getD,List.getElem?_eq_getElem hlt,Option.getD_some];exact(yli _ (List.getElem_mem hlt)).2.2
  generalize yhd.getD ((c.Letter.getD 0 0).toNat-65) []=code at *
  have hb:yd (yyw c) code.length 0 []=yd (yjq c) code.length 0 []:=yhx _ _ _ (fun j u _ hj=>by
   unfold yyw yjq;rw[e1,e2,r1,r2,h8]
   have hg:(code.map (fun c=>if c=46 then(5:Int)else 15)).getD j default=if code.getD j 0=46 then 5 else 15:=by
    rw[List.getD_eq_getElem?_getD,List.getD_eq_getElem?_getD,List.getElem?_map,List.getElem?_eq_getElem (by omega)];rfl
   rw[hg];have hm:=hall (code.getD j 0) (by rw[List.getD_eq_getElem?_getD,List.getElem?_eq_getElem (by omega),Option.getD_some];exact List.getElem_mem _);generalize code.getD j 0=x at hm
   rcases hm with hm|hm<;>subst hm<;>rfl)
  unfold zv zq;rw[h8,e1,e2];simp only[List.length_map,Nat.sub_zero];rw[hb];rfl
 ·have e8:(c.Kind == 8)=false:=by rw[beq_eq_false_iff_ne];exact h8
  unfold zv zq;rw[e8,yvq c h h8,r2]
  have b3:y8w c=yiq c:=by
   funext i s j t
   unfold y8w yiq;rw[r1,r2]
  have b5:ysx c=y8p c:=by
   funext i s j t
   unfold ysx y8p;rw[r1,r2]
  have b2:yjx c=yoq c:=by
   funext i s
   unfold yjx yoq;rw[b3];all_goals rfl
  have b4:ykx c=yar c:=by
   funext i s
   unfold ykx yar;rw[b5];all_goals rfl
  rw[b2,b4];rfl
theorem yrv (c:Character) (h:zgb c=true) (hs:zcd c=false):zhg c=zmf c:=by
 unfold zhg zmf;rw[hs, <- ytk,hs];simp only[cond_false];by_cases h3:c.Kind=3
 ·rw[h3];rfl
 ·have e3:(c.Kind == 3)=false:=by rw[beq_eq_false_iff_ne];exact h3
  rw[e3];simp only[cond_false]
  have hk:c.Kind=2\/c.Kind=4\/c.Kind=5\/c.Kind=6\/c.Kind=7\/c.Kind=8:=by
   unfold zgb at h;unfold zcd at hs;simp only[Bool.cond_eq_ite]at h;simp only[Bool.or_eq_false_iff,beq_eq_false_iff_ne]at hs;repeat' split at h
   all_goals (try simp only[beq_iff_eq]at *)
   all_goals first|omega|(cases h;done)
  rw[yo3 c h hk,y87];have hg:=(y8d c h).1
  have hone:c.Kind=6\/c.Kind=7\/c.Kind=8->c.Group.length<=1:=by
   intro hq;unfold zgb at h;simp only[Bool.cond_eq_ite]at h;repeat' split at h
   all_goals (try simp only[Bool.and_eq_true,Bool.or_eq_true,beq_iff_eq,ytf,decide_eq_true_eq]at *)
   all_goals first|omega|(rcases h with h|h<;>omega)|(rw[h.2];simp)
  have e1:∀ n:Int,IntKind.wrap .i64 n=n\/True:=fun _=>.inr trivial
  unfold zkf;rcases hk with hk|hk|hk|hk|hk|hk
  ·rw[hk]
   cases decide (1<(c.Group.length:Int))<;>rfl
  ·rw[hk]
   cases decide (1<(c.Group.length:Int))<;>rfl
  ·rw[hk]
   cases decide (1<(c.Group.length:Int))<;>rfl
  ·have:=hone (by omega)
   rw[hk,decide_eq_false (show ¬ 1<(c.Group.length:Int)by omega)];rfl
  ·have:=hone (by omega)
   rw[hk,decide_eq_false (show ¬ 1<(c.Group.length:Int)by omega)];rfl
  ·have:=hone (by omega)
   rw[hk,decide_eq_false (show ¬ 1<(c.Group.length:Int)by omega)];rfl
theorem ycg (c:Character) (hl:c.Colors.length<9223372036854775808):zz c=zsb c:=by
 unfold zz zsb;rw[y42 c hl, <- ytk]
 cases h1:zvb c.Colors with
 | false=>rfl
 | true=>
  cases h2:zgb c with
  | false=>rfl
  | true=>
   cases h3:zcd c with
   | true=>rfl
   | false=>
    rw[yrv c h2 h3];simp only[Bool.not_true,Bool.or_self,Bool.and_self,cond_false,ze,zi]
    cases h4:(c.Kind == 3)with
    | false=>
     have:(c.Kind != 3)=true:=by rw[bne,h4];rfl
     rw[this];simp
    | true=>
     have:(c.Kind != 3)=false:=by rw[bne,h4];rfl
     rw[this];simp only[Bool.false_or,Bool.true_and]
     cases h5:(c.Period.tmod 2 == 0)with
     | true=>
      have:(c.Period.tmod 2 != 0)=false:=by rw[bne,h5];rfl
      rw[this];simp
     | false=>
      have:(c.Period.tmod 2 != 0)=true:=by rw[bne,h5];rfl
      rw[this];simp
theorem yfx (c:List UInt8):zbg c=zlf c:=by
 unfold zbg zlf
 match c with
 | []=>rfl
 | [b]=>
  simp only[List.length_singleton,zub,List.getD_cons_zero,Go.Lib.indexByte];by_cases h1:b=87
  ·subst h1;rfl
  by_cases h2:b=82
  ·subst h2;rfl
  by_cases h3:b=71
  ·subst h3;rfl
  by_cases h4:b=89
  ·subst h4;rfl
  have e:∀ x:UInt8,b≠x->([b] == [x])=false:=by intro x h;simp[h]
  rw[e _ h1,e _ h2,e _ h3,e _ h4];have n1:¬ (87:UInt8)=b:=fun h=>h1 h.symm
  have n2:¬ (82:UInt8)=b:=fun h=>h2 h.symm
  have n3:¬ (71:UInt8)=b:=fun h=>h3 h.symm
  have n4:¬ (89:UInt8)=b:=fun h=>h4 h.symm
  simp[n1,n2,n3,n4]
 | a::b::t=>
  have e:∀ x:UInt8,((a::b::t) == [x])=false:=by intro x;simp
  rw[e,e,e,e];have:(((a::b::t).length:Int) == 1)=false:=by simp;omega
  rw[this];rfl
theorem yzx (s:Sector):zcg s=zyc s:=by
 unfold zcg zyc zfg;rw[yfx];rfl
theorem yg6 (a:Int):a.tmod 360=if 0<=a then a % 360 else -((-a) % 360):=by
 split
 ·rw[Int.tmod_eq_emod_of_nonneg (by omega)]
 ·have e:a = -(-a):=by omega
  rw[e,Int.neg_tmod,Int.tmod_eq_emod_of_nonneg (by omega)];simp
theorem yqr (a:Int):zye a 360=a % 360:=by
 unfold zye;rw[yg6 a]
 have e:IntKind.wrap .i64 ((if 0<=a then a % 360 else -((-a) % 360))+360)=(if 0<=a then a % 360 else -((-a) % 360))+360:=by
  rw[IntKind.wrap_i64];split<;>omega
 rw[e,yg6];split<;>split<;>omega
def brg (n:Int):Prop:=0<=n/\n<=359
theorem w64 {x:Int} (h1 : -9223372036854775808<=x) (h2:x<=9223372036854775807):IntKind.wrap .i64 x=x:=by rw[IntKind.wrap_i64];omega
def y0d (s:Sector):Int:=(s.To-s.From-1) % 360+1
theorem yzu (s:Sector) (h1:brg s.From) (h2:brg s.To):zwd s=y0d s:=by
 obtain⟨a1,a2⟩:=h1;obtain⟨b1,b2⟩:=h2;unfold zwd y0d;rw[w64 (x:=s.To-s.From) (by omega) (by omega),w64 (x:=s.To-s.From-1) (by omega) (by omega),yqr,w64 (by omega) (by omega)]
theorem yk4 (s:Sector) (h1:brg s.From) (h2:brg s.To):zgg s=y0d s:=by
 obtain⟨a1,a2⟩:=h1;obtain⟨b1,b2⟩:=h2;unfold zgg y0d;rw[w64 (x:=s.To-s.From) (by omega) (by omega),w64 (x:=s.To-s.From+360) (by omega) (by omega),yg6,if_pos (by omega)]
 cases hb:((s.To-s.From+360) % 360 == 0)with
 | true=>have:=eq_of_beq hb;simp only[cond_true];omega
 | false=>
  have:(s.To-s.From+360) % 360≠0:=by intro h;rw[h]at hb;exact absurd hb (by decide)
  simp only[cond_false];omega
theorem yzv (s:Sector) (b:Int) (h1:brg s.From) (h2:brg s.To) (h3:brg b):zif s b=decide ((b-s.From) % 360<y0d s):=by
 unfold zif;obtain⟨a1,a2⟩:=h1;obtain⟨c1,c2⟩:=h3;rw[w64 (x:=b-s.From) (by omega) (by omega),yqr,yzu s ⟨a1,a2⟩ h2]
theorem yyk (s:Sector):1<=y0d s/\y0d s<=360:=by unfold y0d;omega
def itR {σ : Type} (g : Nat -> σ -> σ) : Nat -> Nat -> σ -> σ
 | 0,_,s=>s
 | k+1,i,s=>itR g k (i+1) (g i s)
theorem y8h {σ : Type} (g : Nat -> σ -> σ) : ∀ (k i : Nat) (s : σ), itR g (k + 1) i s = g (i + k) (itR g k i s)
 | 0,i,s=>rfl
 | k+1,i,s=>by
  have:=y8h g k (i+1) (g i s);rw[show itR g (k+1+1) i s=itR g (k+1) (i+1) (g i s)from rfl,this,show i+1+k=i+(k+1)by omega];rfl
theorem y5f {ρ σ:Type} {b:Nat->σ->Except ρ σ} (p:Nat->Bool) (g:Nat->σ->σ) (r:ρ):∀ {k i:Nat} {s:σ},(∀ j u,i<=j->j<i+k->b j u=bif p j then .error r else .ok (g j u)) ->
  ((∃ j,i<=j/\j<i+k/\p j=true)/\yd b k i s=.error r)\/((∀ j,i<=j->j<i+k->p j=false)/\yd b k i s=.ok (itR g k i s))
 | 0,i,s,_=>.inr ⟨fun j h1 h2=>by omega,rfl⟩
 | k+1,i,s,hb=>by
  simp only[yd,hb i s (Nat.le_refl _) (by omega)]
  cases hp:p i with
  | true=>exact .inl ⟨⟨i,Nat.le_refl _,by omega,hp⟩,rfl⟩
  | false=>
   simp only[cond_false];rcases y5f p g r (k:=k) (i:=i+1) (s:=g i s) (fun j u h1 h2=>hb j u (by omega) (by omega))with⟨⟨j,h1,h2,h3⟩,h4⟩|⟨h1,h2⟩
   ·exact .inl ⟨⟨j,by omega,by omega,h3⟩,h4⟩
   ·refine .inr ⟨fun j h3 h4 => ?_,h2⟩
    by_cases hji:j=i
    ·subst hji;exact hp
    ·exact h1 j (by omega) (by omega)
theorem y7m {ρ:Type} {b:Int->Except (Sum ρ Int) Int} (q:Nat->Bool) (r:ρ) (n:Nat) (hb:∀ j:Nat,j<=n->b (j:Int)=bif decide (j<n)then(bif q j then .error (.inl r)else .ok ((j+1:Nat):Int))else .error (.inr (j:Int))) :
  ∀ (m i k:Nat),i+m=n->m<k->((∃ j,i<=j/\j<n/\q j=true)/\y5 b k (i:Int)=.error (.inl r))\/((∀ j,i<=j->j<n->q j=false)/\y5 b k (i:Int)=.error (.inr (n:Int)))
 | _,_,0,_,h=>absurd h (Nat.not_lt_zero _)
 | 0,i,k+1,e,_=>by
  have:i=n:=by omega
  subst this;right
  refine⟨fun j h1 h2=>by omega,?_⟩;simp only[y5,hb i (Nat.le_refl _),Nat.lt_irrefl,decide_false,cond_false]
 | m+1,i,k+1,e,hk=>by
  simp only[y5,hb i (by omega),show i<n by omega,decide_true,cond_true]
  cases hq:q i with
  | true=>exact .inl ⟨⟨i,Nat.le_refl _,by omega,hq⟩,rfl⟩
  | false=>
   simp only[cond_false];rcases y7m q r n hb m (i+1) k (by omega) (by omega)with⟨⟨j,h1,h2,h3⟩,h4⟩|⟨h1,h2⟩
   ·exact .inl ⟨⟨j,by omega,h2,h3⟩,h4⟩
   ·refine .inr ⟨fun j h3 h4 => ?_,h2⟩
    by_cases hji:j=i
    ·subst hji;exact hq
    ·exact h1 j (by omega) h4
def secQ (a:List Sector) (i:Nat):Bool:=(!(zyc (a.getD i default))) || (decide (0<(i:Int)) && decide (((a.getD i default).From)<=((a.getD ((IntKind.wrap .i64 ((i:Int)-1)).toNat) default).From)))
theorem yuv (a:List Sector) (i:Nat) (hi:i<9223372036854775807):secQ a i=false↔zyc (a.getD i default)=true/\(0<i->(a.getD (i-1) default).From<(a.getD i default).From):=by
 unfold secQ;rw[Bool.or_eq_false_iff,Bool.not_eq_false'];constructor
 ·rintro⟨h1,h2⟩
  refine⟨h1,fun h => ?_⟩;rw[yhp h (by omega)]at h2;simp only[Bool.and_eq_false_iff,decide_eq_false_iff_not]at h2;omega
 ·rintro⟨h1,h2⟩
  refine⟨h1,?_⟩;by_cases h:0<i
  ·rw[yhp h (by omega)]
   have:=h2 h;simp only[Bool.and_eq_false_iff,decide_eq_false_iff_not];omega
  ·simp only[Bool.and_eq_false_iff,decide_eq_false_iff_not];omega
theorem yus {s:Sector} (h:zyc s=true):brg s.From/\brg s.To:=by
 unfold zyc zfg zi at h;simp only[Bool.and_eq_true,decide_eq_true_eq]at h;exact⟨⟨h.1.1.1,h.1.1.2⟩,h.1.2.1,h.1.2.2⟩
theorem y4y (a : List Sector) (n : Nat) : ∀ k, k <= 1000 -> 0 <= itR (fun i (s : Int) => s + y0d (a.getD i default)) k 0 0 /\ itR (fun i (s : Int) => s + y0d (a.getD i default)) k 0 0 <= 360 * k
 | 0,_=>by simp[itR]
 | k+1,h=>by
  have:=y4y a n k (by omega);rw[y8h];have:=yyk (a.getD (0+k) default);simp only[Nat.zero_add]at *;omega
theorem yob (a:List Sector) (hl:a.length<9223372036854775807):zab a=zu a:=by
 have sp1:=y5f (b:=ypw a) (secQ a) (fun _ u=>u) false (k:=a.length-0) (i:=0) (s:=()) (fun j u _ _=>by cases u;rfl);let hasK (i:Nat):Bool:=(List.range a.length).any fun k=>((k:Int) != (i:Int)) && zif (a.getD i default) ((a.getD k default).From)
 have im1:=y5f (b:=yhh a) (fun i=>secQ a i || hasK i) (fun i (s:Int)=>IntKind.wrap .i64 (s+zwd (a.getD i default))) false (k:=a.length-0) (i:=0) (s:=0) (fun j u _ _=>by
  simp only[yhh,yzx];rw[show((!zyc (a.getD j default)) || (decide (0<(j:Int)) && decide (((a.getD j default).From)<=((a.getD ((IntKind.wrap .i64 ((j:Int)-1)).toNat) default).From))))=secQ a j from rfl]
  cases hq:secQ a j with
  | true=>rfl
  | false=>
   simp only[cond_false,Bool.false_or];rw[y8c (b:=ylj a j u) (fun k=>((k:Int) != (j:Int)) && zif (a.getD j default) ((a.getD k default).From)) false (fun k v _ _=>rfl)];simp only[Nat.sub_zero,Nat.zero_add];show(match (bif hasK j then Except.error false else Except.ok ())with|.error e=>Except.error e|.ok s2=>Except.ok (IntKind.wrap .i64 (u+zwd (a.getD j default))))=bif hasK j then Except.error false else Except.ok (IntKind.wrap .i64 (u+zwd (a.getD j default)))
   cases hasK j<;>rfl)
 unfold zab zu;rcases sp1 with⟨⟨j,_,hj,hq⟩,e1⟩|⟨hq,e1⟩
 ·rcases im1 with⟨_,e2⟩|⟨hn,_⟩
  ·rw[e1,e2]
   cases decide (12<(a.length:Int))<;>rfl
  ·have:=hn j (Nat.zero_le _) hj
   simp only[hq,Bool.true_or]at this;cases this
 ·have hq':∀ i,i<a.length->zyc (a.getD i default)=true/\(0<i->(a.getD (i-1) default).From<(a.getD i default).From):=fun i hi=>(yuv a i (by omega)).1 (hq i (Nat.zero_le _) (by omega))
  have hb:∀ i,i<a.length->brg (a.getD i default).From/\brg (a.getD i default).To:=fun i hi=>yus (hq' i hi).1
  have hs:∀ i,i+1<a.length->(a.getD i default).From<(a.getD (i+1) default).From:=fun i hi=>by have:=(hq' (i+1) hi).2 (by omega);simpa using this
  rw[e1];simp only;have apart:=yvw (f:=fun i=>(a.getD i default).From) (arc:=fun i=>y0d (a.getD i default)) (n:=a.length) (fun i hi=>(hb i hi).1) hs
  -- the reference's second loop
  let q2 (j:Nat):Bool:=decide (1<a.length) && decide ((((a.getD ((j+1) % a.length) default).From-(a.getD j default).From+360) % 360)<y0d (a.getD j default))
  have sp2:=y7m (b:=yet a ()) q2 false (if 1<a.length then a.length else 0) (fun j hj=>by
   simp only[yet];by_cases hn:1<a.length
   ·rw[if_pos hn]at hj ⊢
    have d1:decide ((1:Int)<(a.length:Int))=true:=by simp;omega
    rw[d1,Bool.and_true];by_cases hjl:j<a.length
    ·have d2:decide ((j:Int)<(a.length:Int))=true:=by simp;omega
     rw[d2,decide_eq_true hjl];simp only[cond_true];have w1:IntKind.wrap .i64 ((j:Int)+1)=((j+1:Nat):Int):=by rw[IntKind.wrap_i64];omega
     have t1:((IntKind.wrap .i64 ((j:Int)+1)).tmod (a.length:Int)).toNat=(j+1) % a.length:=by
      rw[w1,Int.tmod_eq_emod_of_nonneg (by omega),show((j+1:Nat):Int) % (a.length:Int)=(((j+1) % a.length:Nat):Int)from rfl,Int.toNat_natCast]
     rw[t1,Int.toNat_natCast,yk4 _ (hb j hjl).1 (hb j hjl).2,w1];have hm:(j+1) % a.length<a.length:=Nat.mod_lt _ (by omega);have b1:=(hb _ hm).1;have b2:=(hb j hjl).1;obtain⟨c1,c2⟩:=b1;obtain⟨c3,c4⟩:=b2;rw[w64 (x:=(a.getD ((j+1) % a.length) default).From-(a.getD j default).From) (by omega) (by omega),w64 (x:=(a.getD ((j+1) % a.length) default).From-(a.getD j default).From+360) (by omega) (by omega),Int.tmod_eq_emod_of_nonneg (by omega)];show _=bif q2 j then _ else _
     rw[show q2 j=decide ((((a.getD ((j+1) % a.length) default).From-(a.getD j default).From+360) % 360)<y0d (a.getD j default))from by show(decide (1<a.length) && _)=_;rw[decide_eq_true hn,Bool.true_and]]
    ·have d2:decide ((j:Int)<(a.length:Int))=false:=by simp;omega
     rw[d2,decide_eq_false hjl];rfl
   ·rw[if_neg hn]at hj ⊢
    have d1:decide ((1:Int)<(a.length:Int))=false:=by simp;omega
    have d3:decide (j<0)=false:=by simp
    rw[d1,Bool.and_false,d3]
    rfl) (if 1<a.length then a.length else 0) 0 (a.length-(0:Int).toNat+1) (by omega) (by simp;split<;>omega)
  have e0:((0:Nat):Int)=0:=rfl;rw[e0]at sp2
  -- what the program's loop says
  have hask:∀ i,i<a.length->(hasK i=false↔∀ k,k<a.length->k≠i->y0d (a.getD i default)<=((a.getD k default).From-(a.getD i default).From) % 360):=by
   intro i hi;show((List.range a.length).any _)=false↔_;rw[List.any_eq_false];constructor
   ·intro h k hk hki
    have:=h k (List.mem_range.2 hk);rw[yzv _ _ (hb i hi).1 (hb i hi).2 (hb k hk).1]at this;simp only[Bool.and_eq_true,bne_iff_ne,decide_eq_true_eq,not_and]at this;have:=this (by omega);omega
   ·intro h k hk
    have hk:=List.mem_range.1 hk;rw[yzv _ _ (hb i hi).1 (hb i hi).2 (hb k hk).1];simp only[Bool.and_eq_true,bne_iff_ne,decide_eq_true_eq,not_and];intro hki;have:=h k hk (by omega);omega
  rcases im1 with⟨⟨i,_,hi,hc⟩,e2⟩|⟨hn,e2⟩
  · -- two sectors meet
   rw[e2];simp only;have hi:i<a.length:=by omega
   rw[hq i (Nat.zero_le _) (by omega),Bool.false_or]at hc
   have hne:¬ ∀ k,k<a.length->k≠i->y0d (a.getD i default)<=((a.getD k default).From-(a.getD i default).From) % 360:=fun h=>by
    rw[(hask i hi).2 h]at hc;cases hc
   have hno:¬ (1<a.length->∀ i,i<a.length->y0d (a.getD i default)<=((a.getD ((i+1) % a.length) default).From-(a.getD i default).From+360) % 360):=fun h=>hne (fun k hk hki=>apart.2 h i hi k hk hki)
   cases decide (12<(a.length:Int))with
   | true=>rfl
   | false=>
    simp only[cond_false];rcases sp2 with⟨_,e3⟩|⟨h3,_⟩
    ·rw[e3]
    ·exfalso
     apply hno;intro hn1 j hj;have:=h3 j (Nat.zero_le _) (by rw[if_pos hn1];exact hj)
     have:decide ((((a.getD ((j+1) % a.length) default).From-(a.getD j default).From+360) % 360)<y0d (a.getD j default))=false:=by
      have h4:(decide (1<a.length) && _)=false:=this;rwa [decide_eq_true hn1,Bool.true_and]at h4
     have:=of_decide_eq_false this;omega
  ·rw[e2]
   simp only[zac]
   have hall:∀ i,i<a.length->∀ k,k<a.length->k≠i->y0d (a.getD i default)<=((a.getD k default).From-(a.getD i default).From) % 360:=fun i hi=>(hask i hi).1 (by
    have:=hn i (Nat.zero_le _) (by omega);rw[Bool.or_eq_false_iff]at this
    exact this.2)
   have hcons:=apart.1 hall
   have e3:y5 (yet a ()) (a.length-(0:Int).toNat+1) 0=.error (.inr ((if 1<a.length then a.length else 0:Nat):Int)):=by
    rcases sp2 with⟨⟨j,_,hj,h4⟩,_⟩|⟨_,e3⟩
    ·exfalso
     have h4:(decide (1<a.length) && decide ((((a.getD ((j+1) % a.length) default).From-(a.getD j default).From+360) % 360)<y0d (a.getD j default)))=true:=h4;rw[Bool.and_eq_true]at h4;have g1:=of_decide_eq_true h4.1;have g2:=of_decide_eq_true h4.2;rw[if_pos g1]at hj;have:=hcons g1 j hj;omega
    ·exact e3
   rw[e3];simp only
   cases h12:decide (12<(a.length:Int))with
   | true=>
    have:=of_decide_eq_true h12;rw[decide_eq_false (show ¬ (a.length:Int)<=12 by omega),Bool.false_and];rfl
   | false=>
    have h12:=of_decide_eq_false h12;rw[decide_eq_true (show(a.length:Int)<=12 by omega),Bool.true_and];simp only[cond_false]
    have hit:∀ k,k<=a.length->itR (fun i (s:Int)=>IntKind.wrap .i64 (s+zwd (a.getD i default))) k 0 0=itR (fun i (s:Int)=>s+y0d (a.getD i default)) k 0 0:=by
     intro k
     induction k with
     | zero=>intro _;rfl
     | succ k ih=>
      intro hk;rw[y8h,y8h,ih (by omega)];simp only[Nat.zero_add];have r1:=y4y a 0 k (by omega);rw[yzu _ (hb k (by omega)).1 (hb k (by omega)).2];have r2:=yyk (a.getD k default);exact w64 (by omega) (by omega)
    have hle:=yp0 (f:=fun i=>(a.getD i default).From) (arc:=fun i=>y0d (a.getD i default)) (S:=fun k=>itR (fun i (s:Int)=>s+y0d (a.getD i default)) k 0 0) (n:=a.length) (fun i hi=>(hb i hi).1) hs (fun i _=>yyk _) hcons rfl (fun i _=>by
     show itR _ (i+1) 0 0=_;rw[y8h]
     simp only[Nat.zero_add])
    rw[hit _ (by omega)];exact decide_eq_true (by simpa using hle)
theorem y37 (s:List UInt8) (c:UInt8) : -1<=Go.Lib.indexByte s c/\(0<=Go.Lib.indexByte s c↔c∈s):=by
 induction s with
 | nil=>simp[Go.Lib.indexByte]
 | cons b l ih=>
  obtain⟨i1,i2⟩:=ih;by_cases hb:b=c
  ·subst hb;simp[Go.Lib.indexByte]
  ·have hb2:¬ c=b:=fun h=>hb h.symm
   have e1:(b == c)=false:=by simpa using hb
   by_cases hm:c∈l
   ·have h0:=i2.2 hm
    have e2:(Go.Lib.indexByte l c == -1)=false:=by rw[beq_eq_false_iff_ne];omega
    have e3:Go.Lib.indexByte (b::l) c=Go.Lib.indexByte l c+1:=by simp only[Go.Lib.indexByte,e1,e2,Bool.false_eq_true,if_false]
    rw[e3];exact⟨by omega,fun _=>List.mem_cons_of_mem _ hm,fun _=>by omega⟩
   ·have h0:¬ 0<=Go.Lib.indexByte l c:=fun h=>hm (i2.1 h)
    have e0:Go.Lib.indexByte l c = -1:=by omega
    have e3:Go.Lib.indexByte (b::l) c = -1:=by simp only[Go.Lib.indexByte,e1,e0,Bool.false_eq_true,if_false];rfl
    rw[e3];refine⟨by omega,fun h=>by omega,fun h => ?_⟩;rcases List.mem_cons.1 h with h|h
    ·exact absurd h hb2
    ·exact absurd h hm
theorem y2s (s:List UInt8) (c:UInt8):zub s [c]=decide (c∈s):=by
 unfold zub;rw[List.getD_cons_zero];exact decide_eq_decide.2 (y37 s c).2
theorem yi3 (s:List UInt8) (c:UInt8):zub (s++[c]) [c]=true:=by
 rw[y2s];simp
theorem yc9 (s:List UInt8) (b c:UInt8) (h:b≠c):zub (s++[b]) [c]=zub s [c]:=by
 rw[y2s,y2s];have:¬ c=b:=fun e=>h e.symm
 simp[this]
theorem y7u (c:UInt8) (g:Sector->List UInt8->Except (List UInt8) (List UInt8)) (hg:∀ x u,g x u=bif ((x.Color == [c]) && (!(zub u [c])))then .ok (u++[c])else .ok u) :
  ∀ (l:List Sector) (u:List UInt8),zub u [c]=true->yik g l u=.ok u
 | [],u,_=>rfl
 | x::l,u,h=>by
  rw[yhg,hg,h,Bool.not_true,Bool.and_false];exact y7u c g hg l u h
theorem ykz (c:UInt8) (g:Sector->List UInt8->Except (List UInt8) (List UInt8)) (hg:∀ x u,g x u=bif ((x.Color == [c]) && (!(zub u [c])))then .ok (u++[c])else .ok u) :
  ∀ (l:List Sector) (u:List UInt8),zub u [c]=false->yik g l u=.ok (bif l.any (fun x=>x.Color == [c])then u++[c]else u)
 | [],u,_=>rfl
 | x::l,u,h=>by
  rw[yhg,hg,h,Bool.not_false,Bool.and_true,List.any_cons]
  cases hx:(x.Color == [c])with
  | true=>
   simp only[cond_true,Bool.true_or];exact y7u c g hg l _ (yi3 u c)
  | false=>
   simp only[cond_false,Bool.false_or];exact ykz c g hg l u h
theorem ybz (c:List UInt8) (g:Sector->List UInt8->Except (Sum (List UInt8) (List UInt8)) (List UInt8)) (hg:∀ x u,g x u=bif (x.Color == c)then .error (.inr (u++c))else .ok u) :
  ∀ (l:List Sector) (u:List UInt8),yik g l u=bif l.any (fun x=>x.Color == c)then .error (.inr (u++c))else .ok u
 | [],u=>rfl
 | x::l,u=>by
  rw[yhg,hg,List.any_cons]
  cases hx:(x.Color == c)with
  | true=>rfl
  | false=>
   simp only[cond_false,Bool.false_or];exact ybz c g hg l u
def y0k (a:List Sector) (s:List UInt8) (c:UInt8):List UInt8:=bif a.any (fun x=>x.Color == [c])then s++[c]else s
theorem y4f (a:List Sector) (i:Nat) (s:List UInt8) (c:UInt8) (h4:i<4) (hc:(([87,82,71,89].take ((IntKind.wrap .i64 ((i:Int)+1)).toNat)).drop i)=[c]) (h:zub s [c]=false) :
  y4m a i s=.ok (y0k a s c):=by
 unfold y4m;rw[yud (fun x u=>bif ((x.Color == [c]) && (!(zub u [c])))then .ok (u++[c])else .ok u) a s (fun j u _=>by simp only[yip,hc])];rw[ykz c _ (fun _ _=>rfl) a s h];rfl
theorem ybg (a:List Sector) (i:Nat) (s:List UInt8) (c:UInt8) (hc:([[87],[82],[71],[89]]:List (List UInt8)).getD i default=[c]):yin a i s=.ok (y0k a s c):=by
 unfold yin;rw[yud (fun x u=>bif (x.Color == [c])then .error (.inr (u++[c]))else .ok u) a s (fun j u _=>by simp only[y7q,hc])];rw[ybz [c] _ (fun _ _=>rfl) a s];unfold y0k;cases a.any (fun x=>x.Color == [c])<;>rfl
theorem yxc (a:List Sector) (s:List UInt8) (b c:UInt8) (h:b≠c):zub (y0k a s b) [c]=zub s [c]:=by
 unfold y0k
 cases a.any (fun x=>x.Color == [b])with
 | true=>exact yc9 s b c h
 | false=>rfl
theorem ydj (a:List Sector):zoc a=zqc a:=by
 unfold zoc zqc;have n0:∀ c:UInt8,zub [] [c]=false:=by intro c;simp[zub,Go.Lib.indexByte]
 have l4:([87,82,71,89]:List Nat).length-0=4:=rfl;rw[l4];simp only[yd,Nat.sub_zero];rw[y4f a 0 [] 87 (by omega) rfl (n0 _),ybg a 0 [] 87 rfl];simp only;rw[y4f a (0+1) _ 82 (by omega) rfl (by rw[yxc _ _ _ _ (by decide)];exact n0 _),ybg a (0+1) _ 82 rfl];simp only;rw[y4f a (0+1+1) _ 71 (by omega) rfl (by rw[yxc _ _ _ _ (by decide),yxc _ _ _ _ (by decide)];exact n0 _),ybg a (0+1+1) _ 71 rfl];simp only;rw[y4f a (0+1+1+1) _ 89 (by omega) rfl (by rw[yxc _ _ _ _ (by decide),yxc _ _ _ _ (by decide),yxc _ _ _ _ (by decide)];exact n0 _),ybg a (0+1+1+1) _ 89 rfl]
theorem yuz (l:List (List UInt8)) (x:List UInt8):zhf l x=l.any (fun y=>y == x):=by
 unfold zhf zpe;rcases yyg (b:=ysr l x) (fun j=>x == l.getD j default) (fun j=>(j:Int)) (k:=l.length-0) (i:=0) (s:=()) (fun j u _ _=>rfl)with⟨j,_,h2,h3,h4,h5⟩|⟨h1,h2⟩
 ·rw[h5]
  simp only;rw[decide_eq_true (show(0:Int)<=(j:Int)by omega)];symm
  rw[List.any_eq_true];have hj:j<l.length:=by omega
  have h3:(x == l.getD j default)=true:=h3;have h3:=eq_of_beq h3;refine⟨l.getD j default,?_,by rw[<- h3];simp⟩;rw[List.getD_eq_getElem?_getD,List.getElem?_eq_getElem hj];exact List.getElem_mem hj
 ·rw[h2]
  simp only;rw[decide_eq_false (show ¬ (0:Int) <= -1 by omega)];symm
  rw[List.any_eq_false];intro y hy;obtain⟨i,hi,rfl⟩:=List.getElem_of_mem hy;have:(x == l.getD i default)=false:=h1 i (Nat.zero_le _) (by omega);rw[List.getD_eq_getElem?_getD,List.getElem?_eq_getElem hi,Option.getD_some]at this;intro h;rw[eq_of_beq h]at this;simp at this
theorem y0g {k:Int} (h:zcc k=true):k=1\/k=2\/k=3\/k=4\/k=5\/k=6\/k=7\/k=8\/k=9:=by
 unfold zcc zi at h;simp only[Bool.and_eq_true,decide_eq_true_eq]at h;omega
theorem yao {k:Int} (h:zcc k=true):zwf k=zue k:=by
 rcases y0g h with rfl|rfl|rfl|rfl|rfl|rfl|rfl|rfl|rfl<;>rfl
theorem yww {k:Int} (h:zcc k=true):zxf k=zaf k:=by
 rcases y0g h with rfl|rfl|rfl|rfl|rfl|rfl|rfl|rfl|rfl<;>rfl
theorem y7n {k:Int} (h:zcc k=true):zbe k=zqb k:=by
 rcases y0g h with rfl|rfl|rfl|rfl|rfl|rfl|rfl|rfl|rfl<;>decide
theorem ypm (m:Mark):(match yd (yzl m) (((zqb m.Kind).length)-0) 0 ()with|.error e=>e|.ok s1=>false)=(zqb m.Kind).any (fun y=>y == m.Shape):=by
 rcases yyg (b:=yzl m) (fun j=>(zqb m.Kind).getD j default == m.Shape) (fun _=>true) (k:=(zqb m.Kind).length-0) (i:=0) (s:=()) (fun j u _ _=>rfl)with⟨j,_,h2,h3,h4,h5⟩|⟨h1,h2⟩
 ·rw[h5]
  simp only;symm
  rw[List.any_eq_true];have hj:j<(zqb m.Kind).length:=by omega
  refine⟨(zqb m.Kind).getD j default,?_,h3⟩;rw[List.getD_eq_getElem?_getD,List.getElem?_eq_getElem hj];exact List.getElem_mem hj
 ·rw[h2]
  simp only;symm
  rw[List.any_eq_false];intro y hy;obtain⟨i,hi,rfl⟩:=List.getElem_of_mem hy;have:((zqb m.Kind).getD i default == m.Shape)=false:=h1 i (Nat.zero_le _) (by omega);rw[List.getD_eq_getElem?_getD,List.getElem?_eq_getElem hi,Option.getD_some]at this;rw[this];decide
theorem yg9 (m:Mark):zvc m=(bif (m.Kind == 0)then(m.Kind == 0 && (m.Colors == [] && (m.Shape == [] && m.Topmark == [])))else(bif (((!(zcc m.Kind)) || (m.Colors != (zue m.Kind))) || ((m.Topmark != []) && (m.Topmark != (zaf m.Kind))))then false else(zqb m.Kind).any (fun y=>y == m.Shape))):=by
 unfold zvc;have hk:zvf m.Kind=zcc m.Kind:=rfl;rw[hk]
 cases h0:(m.Kind == 0)with
 | true=>
  have e:=eq_of_beq h0;have hn:zcc m.Kind=false:=by rw[e];rfl
  simp only[Bool.true_and,cond_true,hn,Bool.false_and];cases(m.Colors == [] && (m.Shape == [] && m.Topmark == []))<;>rfl
 | false=>
  simp only[Bool.false_and,cond_false]
  cases h1:zcc m.Kind with
  | false=>rfl
  | true=>
   rw[yao h1,yww h1,y7n h1,yuz];simp only[Bool.true_and,Bool.not_true,Bool.false_or,bne];cases(m.Colors == zue m.Kind)<;>cases(m.Topmark == [])<;>cases(m.Topmark == zaf m.Kind)<;>simp
theorem yae (m:Mark):zvc m=zed m:=by
 rw[yg9];unfold zed zcb;have hs:=ypm m;generalize yd (yzl m) ((zqb m.Kind).length-0) 0 ()=z at hs ⊢
 cases z with
 | error e=>simp only at hs ⊢;rw[hs]
 | ok u=>simp only at hs ⊢;rw[hs]
def zoe (a0:Aid):Bool:=
 (bif (((!(zz a0.Light)) || (!(zeg a0.Intensity))) || (!(zab a0.Sectors)))then false else(bif ((a0.Sectors.length:Int) == 0)then((a0.Light.Colors.length:Int) == 1)else((zoc a0.Sectors) == a0.Light.Colors)))
namespace N60
theorem DD:DOk Tryz.prog (Go.Ab.DD [(137,dP D_zz),(138,dP D_zeg),(139,dP D_zab),(140,dP D_zoc)]):=ya yzs.e <| ya yn1.e <| ya y5o.e <| ya yo4.e <| ye _
theorem dn:type_of% (And.intro @D_zz.eq_1 <| And.intro @D_zeg.eq_1 <| And.intro @D_zab.eq_1 <| @D_zoc.eq_1):=by and_intros<;>intros<;>rfl
theorem den (a0:Aid) (hb0:bdAid a0):Den Tryz.prog 60 [.agg (eAid a0)] (.bool (zoe a0)):=by
 generalize hR:zoe a0=r;unfold zoe at hR;refine di Tryz.func60 Tryz.ntmps60 Tryz.results60 ?_;intro c hL hc hk;obtain⟨hL0,_⟩:=hL;have hw0:bwAid a0:=ytc a0 hL0;clear hL0;simp only[pars,Nat.zero_add];iterate 2 refine rS ?_
 refine AWP.cond rfl (fun hb => ?_) (fun hb => ?_)
 ·replace hR:=ct hR
  refine rS ?_;refine AWP.ret ?_;subst hR;exact es
 ·replace hR:=cf hR
  refine rS ?_;refine AWP.cond rfl (fun hb => ?_) (fun hb => ?_)
  ·replace hR:=ct hR
   refine rS ?_;refine AWP.ret ?_;subst hR;exact es
  ·replace hR:=cf hR
   refine rD 6 ?_;refine AWP.ret ?_;subst hR;exact es
end N60
def D_zoe : DF
 | [x0]=>some (.bool (zoe (rdG dAid x0)),false,[wG eAid dAid x0,bdAid (rdG dAid x0)])
 | _=>none
theorem yev:OkD Tryz.prog 60 D_zoe:=by unfold D_zoe;exact dk N60.den
def zyf (a0:Aid):Bool:=
 ((((((zke a0.Number) && (zje a0.Name)) && (zhd a0.At)) && (zkg a0.Height)) && (zvc a0.Mark)) && ((zoe a0) || (zdg a0)))
namespace N59
theorem DD:DOk Tryz.prog (Go.Ab.DD [(107,dP D_zke),(132,dP D_zje),(133,dP D_zhd),(134,dP D_zkg),(135,dP D_zvc),(136,dP D_zdg),(60,dP D_zoe)]):=ya ykw.e <| ya ys2.e <| ya ywn.e <| ya yg4.e <| ya yxo.e <| ya ye1.e <| ya yev.e <| ye _
theorem dn:type_of% (And.intro @D_zke.eq_1 <| And.intro @D_zje.eq_1 <| And.intro @D_zhd.eq_1 <| And.intro @D_zkg.eq_1 <| And.intro @D_zvc.eq_1 <| And.intro @D_zdg.eq_1 <| @D_zoe.eq_1):=by and_intros<;>intros<;>rfl
theorem den (a0:Aid) (hb0:bdAid a0):Den Tryz.prog 59 [.agg (eAid a0)] (.bool (zyf a0)):=by
 generalize hR:zyf a0=r;unfold zyf at hR;refine di Tryz.func59 Tryz.ntmps59 Tryz.results59 ?_;intro c hL hc hk;obtain⟨hL0,_⟩:=hL;have hw0:bwAid a0:=ytc a0 hL0;clear hL0;simp only[pars,Nat.zero_add];iterate 2 refine rS ?_
 refine AWP.ret ?_;subst hR;exact es
end N59
def D_zyf : DF
 | [x0]=>some (.bool (zyf (rdG dAid x0)),false,[wG eAid dAid x0,bdAid (rdG dAid x0)])
 | _=>none
theorem y91:OkD Tryz.prog 59 D_zyf:=by unfold D_zyf;exact dk N59.den
def zjc (a0:Aid):Bool:=
 (bif (((((!(zi a0.Number 1 9999)) || (!(zpc a0.Name))) || (!(zic a0.At))) || (!(zi a0.Height 0 3000))) || (!(zed a0.Mark)))then false else(bif (zrd a0.Light)then(((a0.Sectors.length:Int) == 0) && (a0.Intensity == 0))else(bif (((!(zsb a0.Light)) || (!(zi a0.Intensity 1 100000000))) || (!(zu a0.Sectors)))then false else(bif ((a0.Sectors.length:Int) == 0)then((a0.Light.Colors.length:Int) == 1)else((zqc a0.Sectors) == a0.Light.Colors)))))
namespace N53
theorem DD:DOk Tryz.prog (Go.Ab.DD [(118,dP D_zpc),(119,dP D_zic),(120,dP D_zed),(121,dP D_zrd),(122,dP D_zsb),(123,dP D_zu),(124,dP D_zqc),(95,dP D_zi)]):=ya yt4.e <| ya y5u.e <| ya yt2.e <| ya y11.e <| ya y0v.e <| ya yfy.e <| ya yr1.e <| ya yce.e <| ye _
theorem dn:type_of% (And.intro @D_zpc.eq_1 <| And.intro @D_zic.eq_1 <| And.intro @D_zed.eq_1 <| And.intro @D_zrd.eq_1 <| And.intro @D_zsb.eq_1 <| And.intro @D_zu.eq_1 <| And.intro @D_zqc.eq_1 <| @D_zi.eq_1):=by and_intros<;>intros<;>rfl
theorem ol:type_of% (@zi.eq_1):=@zi.eq_1
theorem den (a0:Aid) (hb0:bdAid a0):Den Tryz.prog 53 [.ep (eAid a0)] (.bool (zjc a0)):=by
 generalize hR:zjc a0=r;unfold zjc at hR;refine di Tryz.func53 Tryz.ntmps53 Tryz.results53 ?_;intro c hL hc hk;obtain⟨hL0,_⟩:=hL;have hw0:bwAid a0:=ytc a0 hL0;clear hL0;simp only[pars,Nat.zero_add];iterate 2 refine rS ?_
 refine AWP.cond rfl (fun hb => ?_) (fun hb => ?_)
 ·replace hR:=ct hR
  refine rS ?_;refine AWP.ret ?_;subst hR;exact es
 ·replace hR:=cf hR
  refine rS ?_;refine AWP.cond rfl (fun hb => ?_) (fun hb => ?_)
  ·replace hR:=ct hR
   refine rS ?_;refine AWP.ret ?_;subst hR;exact es
  ·replace hR:=cf hR
   refine rS ?_;refine AWP.cond rfl (fun hb => ?_) (fun hb => ?_)
   ·replace hR:=ct hR
    refine rS ?_;refine AWP.ret ?_;subst hR;exact es
   ·replace hR:=cf hR
    refine rS ?_;refine AWP.cond rfl (fun hb => ?_) (fun hb => ?_)
    ·replace hR:=ct hR
     refine rS ?_;refine AWP.ret ?_;subst hR;exact es
    ·replace hR:=cf hR
     refine rD 11 ?_;refine AWP.ret ?_;subst hR;exact es
end N53
def D_zjc : DF
 | [x0]=>some (.bool (zjc (rdP dAid x0)),false,[wP eAid dAid x0,bdAid (rdP dAid x0)])
 | _=>none
theorem yk1:OkD Tryz.prog 53 D_zjc:=by unfold D_zjc;exact dk N53.den
theorem y1p (c:Character) (h:zrd c=true):zz c=false:=by
 unfold zrd at h;simp only[Bool.and_eq_true,beq_iff_eq]at h;obtain⟨⟨⟨⟨h1,h2⟩,h3⟩,h4⟩,h5⟩:=h;cases c
 simp only at h1 h2 h3 h4 h5;rename_i k g l cs p
 have hg:g=[]:=List.length_eq_zero_iff.1 (by omega);subst h1 hg h3 h4 h5;decide
theorem yz1 (a:Aid):zdg a=((zrd a.Light && ((a.Sectors.length:Int) == 0)) && (a.Intensity == 0)):=by
 unfold zdg zlg zrd;rw[yim]
 have:decide (a.Light.Group=[])=((a.Light.Group.length:Int) == 0):=by
  cases a.Light.Group with
  | nil=>rfl
  | cons x l=>simp;omega
 rw[this]
theorem ybh (a:Aid) (hl:a.Light.Colors.length<9223372036854775808) (hs:a.Sectors.length<9223372036854775807):zyf a=zjc a:=by
 unfold zyf zjc;rw[yz1];unfold zoe;rw[yob a.Sectors hs,ydj,yae,yl7];have e1:zke a.Number=zi a.Number 1 9999:=rfl;have e2:zhd a.At=zic a.At:=rfl;have e3:zkg a.Height=zi a.Height 0 3000:=rfl;have e4:zeg a.Intensity=zi a.Intensity 1 100000000:=rfl;rw[e1,e2,e3,e4]
 cases hp:zrd a.Light with
 | true=>
  rw[y1p _ hp];simp only[Bool.not_false,Bool.true_or,cond_true,Bool.true_and,Bool.false_or];cases zi a.Number 1 9999<;>cases zpc a.Name<;>cases zic a.At<;>cases zi a.Height 0 3000<;>cases zed a.Mark<;>rfl
 | false=>
  rw[ycg a.Light hl];simp only[Bool.false_and,Bool.or_false,cond_false];cases zi a.Number 1 9999<;>cases zpc a.Name<;>cases zic a.At<;>cases zi a.Height 0 3000<;>cases zed a.Mark<;>rfl
end Go.Ab
