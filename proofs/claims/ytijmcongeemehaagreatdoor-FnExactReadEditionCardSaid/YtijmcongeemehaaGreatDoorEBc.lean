/- A part of a proof: walks of functions and lemmas of our own. No conditions. -/
import Derived.Test.YtijmcongeemehaaGreatDoorEBa
import Derived.Test.YtijmcongeemehaaGreatDoorEBb
import Derived.Test.YtijmcongeemehaaGreatDoorEAt
import Derived.Test.YtijmcongeemehaaGreatDoorEAo
import Derived.Test.YtijmcongeemehaaGreatDoorEAr
import Derived.Test.YtijmcongeemehaaGreatDoorEAx
import Derived.Test.YtijmcongeemehaaGreatDoorEAv
import Derived.Test.YtijmcongeemehaaGreatDoorEAw
import Derived.Test.YtijmcongeemehaaGreatDoorEAy
import Derived.Test.YtijmcongeemehaaGreatDoorEAp
import Derived.Test.YtijmcongeemehaaGreatDoorEAu
import Derived.Test.YtijmcongeemehaaGreatDoorEAq
import Derived.Test.YtijmcongeemehaaGreatDoorEAl
import Derived.Test.YtijmcongeemehaaGreatDoorEAz
import Derived.Test.YtijmcongeemehaaGreatDoorEAk
set_option linter.unusedSectionVars false
set_option linter.unusedVariables false
set_option linter.unusedSimpArgs false
set_option maxHeartbeats 1000000
namespace Go.Ab
open Go Go.Proofs
theorem yt9 {p:Point} (h:zic p=true):zof p=zsg p/\(zsg p).length<=13:=by
 have hr:=y7y h;unfold zof zsg;rw[show zhd p=zic p from rfl,h,y0f _ (by omega) (by omega),y0f _ (by omega) (by omega)];refine⟨rfl,?_⟩;have h1:=ywh p.X 5 (by omega) (by show p.X<(1000000:Int);omega);have h2:=ywh p.Y 5 (by omega) (by show p.Y<(1000000:Int);omega);simp only[List.length_append,List.length_cons,List.length_nil];omega
theorem yx7 (a b c d:List UInt8) (s:List UInt8):Lib.join [a,b,c,d] s=a++(s++(b++(s++(c++(s++d))))):=by
 simp[Lib.join_cons,Lib.joinTail]
theorem yyy {k:Int} (h:0<=k/\k<=9):zdd k=zkb.getD k.toNat default:=ym2 _ _ (by omega) (by show k<10;omega)
theorem y38 (m:Mark):zae m=zrg m:=by
 unfold zae zrg zfd;rw[yae,show zed m=zcb m from rfl]
 cases h:zcb m with
 | false=>rfl
 | true=>
  simp only[Bool.not_true,cond_false];by_cases hk:m.Kind=0
  ·rw[show(m.Kind == 0)=true by simp[hk],cond_true,cond_true];rfl
  ·rw[show(m.Kind == 0)=false by simp[hk],cond_false,cond_false]
   have hr:=yni (m:=m) h;rw[yyy ⟨hr.1,hr.2.1⟩];have e:∀ a b c d:List UInt8,znb [a,b,c,d] [32]=a++([32]++(b++([32]++(c++([32]++d))))):=fun a b c d=>yx7 a b c d [32]
   rw[e,e];simp only[List.append_assoc]
theorem ya8 (m:Mark):(zrg m).length<=40:=by
 unfold zrg zfd
 cases h:zcb m with
 | false=>simp
 | true=>
  have hr:=yni (m:=m) h;simp only[Bool.not_true,cond_false]
  have hn:(zkb.getD m.Kind.toNat default).length<=7:=by
   rcases(show m.Kind=0\/m.Kind=1\/m.Kind=2\/m.Kind=3\/m.Kind=4\/m.Kind=5\/m.Kind=6\/m.Kind=7\/m.Kind=8\/m.Kind=9 by omega)with e|e|e|e|e|e|e|e|e|e<;>rw[e]<;>decide
  simp only[Bool.cond_eq_ite];repeat' split
  all_goals (try simp only[List.length_append,List.length_cons,List.length_nil])
  all_goals omega
def scT (s:Sector):List UInt8:=Lib.itoa s.From++(45::(Lib.itoa s.To++s.Color))
def scsT (a:List Sector):List UInt8:=if a=[]then[45]else Lib.join (a.map scT) [44]
theorem yxs {a:List Sector} (h:zu a=true):zrc a=scsT a:=by
 have hr:=y7g h;unfold zrc scsT;rw[yob a (by omega),h];simp only[Bool.not_true,cond_false];by_cases ha:a=[]
 ·rw[ha];rfl
 ·have hp:0<a.length:=List.length_pos_iff.2 ha
  rw[if_neg ha,show((a.length:Int) == 0)=false by rw[beq_eq_false_iff_ne];omega,cond_false]
  have hl:=ybd (ytm a) (fun j=>[scT (a.getD j default)]) a.length 0 [] (fun j s _ _=>by
   unfold ytm scT
   simp[yq3])
  rw[ysf a default scT,List.nil_append]at hl;rw[Nat.sub_zero,hl];rfl
theorem yui {a:List Sector} (h:zu a=true):zag a=scsT a:=by
 have hr:=y7g h;unfold zag scsT;by_cases ha:a=[]
 ·rw[ha];rfl
 ·have hp:0<a.length:=List.length_pos_iff.2 ha
  rw[if_neg ha,show((a.length:Int) == 0)=false by rw[beq_eq_false_iff_ne];omega,cond_false]
  have hl:=ybd (ya0 a) (fun j=>(if j=0 then[]else[44])++scT (a.getD j default)) a.length 0 [] (fun j s _ _=>by
   have h9:=hr.2 j;unfold ya0 scT;rw[y0f _ (by omega) (by omega),y0f _ (by omega) (by omega)];by_cases hj:j=0
   ·subst hj;simp
   ·rw[decide_eq_true (show(0:Int)<(j:Int)by omega),if_neg hj];simp)
  rw[Nat.sub_zero,hl,List.nil_append];simp only
  cases a with
  | nil=>exact absurd rfl ha
  | cons x r=>
   rw[List.length_cons,List.range'_succ,List.flatMap_cons,List.map_cons,Lib.join_cons, <- y0w 44 default scT x r]
   have:(List.range' (0+1) r.length).flatMap (fun j=>(if j=0 then[]else[44])++scT ((x::r).getD j default))=(List.range' 1 r.length).flatMap (fun j=>(44:UInt8)::scT ((x::r).getD j default)):=by
    rw[List.flatMap_def,List.flatMap_def];congr 1
    apply List.map_congr_left;intro j hj;rw[List.mem_range'_1]at hj;rw[if_neg (by omega)];rfl
   rw[this];simp
theorem y94 {a:List Sector} (h:zu a=true):(scsT a).length<=120:=by
 have hr:=y7g h;unfold scsT;split
 ·simp
 ·have h1:=ysh [44] (a.map scT) 8 (fun x hx=>by
   obtain⟨s,hs,rfl⟩:=List.mem_map.1 hx;obtain⟨i,hi,e⟩:=List.getElem_of_mem hs;have h9:=hr.2 i;have hg:a.getD i default=s:=by rw[List.getD_eq_getElem?_getD,List.getElem?_eq_getElem hi,e];rfl
   rw[hg]at h9;have h1:=ywh s.From 2 (by omega) (by show s.From<(1000:Int);omega);have h2:=ywh s.To 2 (by omega) (by show s.To<(1000:Int);omega);unfold scT;simp only[List.length_append,List.length_cons]
   omega)
  rw[List.length_map]at h1;simp only[List.length_singleton]at h1;have:a.length * (8+1)<=12 * 9:=Nat.mul_le_mul hr.1 (by omega);omega
theorem yme {ρ σ : Type} {b : Nat -> σ -> Except ρ σ} {e0 : ρ} (h : ∀ j s e, b j s = .error e -> e = e0) : ∀ (n i : Nat) (s : σ) (e : ρ), yd b n i s = .error e -> e = e0
 | 0,i,s,e,he=>by simp[yd]at he
 | n+1,i,s,e,he=>by
  simp only[yd]at he
  cases hb:b i s with
  | error e'=>
   rw[hb]at he;have he:e'=e:=by simpa using he
   rw[<- he];exact h _ _ _ hb
  | ok s'=>rw[hb]at he;exact yme h n (i+1) s' e he
theorem yjn {c:Character} (h:zz c=true):c.Colors.length<=3:=by
 unfold zz at h
 cases h1:((!(zvb c.Colors)) || (!(zgb c)))with
 | true=>rw[h1]at h;cases h
 | false=>
  rw[Bool.or_eq_false_iff]at h1;have h2:zvb c.Colors=true:=by simpa using h1.1
  unfold zvb at h2
  have he:=yme (b:=y6h c.Colors) (e0:=false) (fun j s e h=>by
   unfold y6h at h;rw[Bool.cond_eq_ite]at h;split at h
   ·simpa using h.symm
   ·cases h) (c.Colors.length-0) 0 (-1)
  generalize yd (y6h c.Colors) (c.Colors.length-0) 0 (-1)=z at h2 he
  cases z with
  | error e=>have:=he e rfl;subst this;cases h2
  | ok s=>simp[ze]at h2;omega
theorem yx8 {c:Character} (h:zz c=true):(chrT c).length<=40:=by
 have hf:=y9b c h;have hv:=yad c h;have hk:=y2d c hf;have hp:=yrd c h;have hc:=yjn h
 have hK:(kt c.Kind).length<=3:=by
  rcases(show c.Kind=1\/c.Kind=2\/c.Kind=3\/c.Kind=4\/c.Kind=5\/c.Kind=6\/c.Kind=7\/c.Kind=8 by omega)with e|e|e|e|e|e|e|e<;>rw[e]<;>decide
 have hg:(grpT c.Group).length<=10:=by
  unfold grpT;split
  ·simp
  ·have h1:=ysh [43] (c.Group.map Lib.itoa) 1 (fun x hx=>by
    obtain⟨s,hs,rfl⟩:=List.mem_map.1 hx;have:=hv.2.1 s hs
    exact ywh s 0 (by omega) (by show s<(10:Int);omega))
   rw[List.length_map,List.length_singleton]at h1;simp only[List.length_append,List.length_cons,List.length_nil];omega
 have hs:(perT c.Period).length<=8:=by
  unfold perT secT;split
  ·simp
  ·have h1:=ywh (c.Period / 10) 1 (by omega) (by show c.Period / 10<(100:Int);omega)
   have h2:=ywh (c.Period % 10) 0 (by omega) (by show c.Period % 10<(10:Int);omega);split<;>simp only[List.length_append,List.length_cons,List.length_nil]<;>omega
 have hh:(yde c).length<=17:=by
  unfold yde;split
  ·rename_i h8
   have h9:=yom c hf h8;have:(kt 8).length=2:=rfl;simp only[List.length_append,List.length_cons,List.length_nil];omega
  ·split<;>simp only[List.length_append,List.length_cons,List.length_nil]<;>omega
 unfold chrT;simp only[List.length_append,List.length_cons];omega
theorem ya7 {c:Character} (h:zsb c=true) (hl:c.Colors.length<9223372036854775808):zzc c=zib c/\(zib c).length<=40:=by
 rw[<- ycg c hl]at h;rw[y2l c h,yhl c h];exact⟨rfl,yx8 h⟩
theorem yl6 {a:Aid} (h:zjc a=true) (hl:a.Light.Colors.length<9223372036854775808) :
  (zl a.Number=zj a.Number/\(zj a.Number).length<=4)/\(zof a.At=zsg a.At/\(zsg a.At).length<=13)/\(zl a.Height=zj a.Height/\(zj a.Height).length<=4) /\
  (zae a.Mark=zrg a.Mark/\(zrg a.Mark).length<=40)/\(zng a=true->zzc a.Light=zib a.Light/\(zib a.Light).length<=40) /\
  (zrc a.Sectors=zag a.Sectors/\(zag a.Sectors).length<=120)/\(zl a.Intensity=zj a.Intensity/\(zj a.Intensity).length<=9)/\a.Name.length<=10:=by
 obtain⟨n1,n2,nm,at1,h1,h2,mk,lt,sx,i1,i2⟩:=ywf h
 have dq:∀ (n:Int) (k:Nat),0<=n->n<=100000000->n<((10 ^ (k+1):Nat):Int)->zl n=zj n/\(zj n).length<=k+1:=fun n k a b c=>by
  rw[y0f n (by omega) (by omega)];exact⟨rfl,ywh n k a c⟩
 refine⟨dq _ 3 (by omega) (by omega) (by show _<(10000:Int);omega),yt9 at1,dq _ 3 (by omega) (by omega) (by show _<(10000:Int);omega),⟨y38 _,ya8 _⟩,fun hq=>ya7 (lt hq) hl,⟨by rw[yxs sx,yui sx],by rw[yui sx];exact y94 sx⟩,dq _ 8 (by omega) (by omega) (by show _<(1000000000:Int);omega),y70 nm⟩
theorem yyp (c:UInt8):∀ a:List UInt8,(c∉a/\Lib.cut a [c]=(a,[],false)/\yf c a=[a])\/∃ l t,a=l++c::t/\c∉l/\Lib.cut a [c]=(l,t,true)/\yf c a=l::yf c t:=by
 intro a;by_cases h:c∈a
 ·right
  obtain⟨l,t,e,hl⟩:∃ l t,a=l++c::t/\c∉l:=by
   induction a with
   | nil=>simp at h
   | cons b a ih=>
    by_cases hb:c=b
    ·exact⟨[],a,by rw[hb];rfl,by simp⟩
    ·have h2:c∈a:=by
      rcases List.mem_cons.1 h with h|h
      ·exact absurd h hb
      ·exact h
     obtain⟨l,t,e,hl⟩:=ih h2;exact⟨b::l,t,by rw[e];rfl,by simp[hb,hl]⟩
  exact⟨l,t,e,hl,by rw[e];exact ynf l t c hl,by rw[e];exact y8 c l t hl⟩
 ·exact .inl ⟨h,ydk a c h,yib c a h⟩
theorem yix (c:UInt8) (a:List UInt8) (h:(yf c a).length=1):c∉a:=by
 rcases yyp c a with⟨h1,_,_⟩|⟨l,t,_,_,_,h4⟩
 ·exact h1
 ·rw[h4,List.length_cons]at h
  have:=List.length_pos_iff.2 (y1f c t);omega
theorem yux (n:Int):∀ b∈Lib.itoa n,b=45\/(48<=b.toNat/\b.toNat<=57):=by
 intro b hb;by_cases h:n<0
 ·rw[ytb h]at hb
  rcases List.mem_cons.1 hb with hb|hb
  ·exact .inl hb
  ·exact .inr ((y6 n.natAbs).1 b hb)
 ·rw[yfe h]at hb
  exact .inr ((y6 n.natAbs).1 b hb)
theorem yho (n:Int) (c:UInt8) (h1:c≠45) (h2:c.toNat<48\/57<c.toNat):c∉Lib.itoa n:=fun h=>by
 rcases yux n c h with h|h
 ·exact h1 h
 ·omega
theorem yxn (n:Int):Lib.itoa n≠[]:=(ysd n).2
theorem yjd {w:List UInt8} (hw:w.length<=1048576):(zf w).2=true->w=Lib.itoa (zf w).1/\(zf w).1.natAbs<E18:=by
 intro h;rcases ywb w hw with⟨n,h1,h2,h3⟩|⟨_,h3⟩
 ·rw[h3];exact⟨h2,h1⟩
 ·rw[h3]at h;cases h
theorem y67 {w:List UInt8} (hw:w.length<=1048576) (c:UInt8) (h1:c≠45) (h2:c.toNat<48\/57<c.toNat) (hc:c∈w):zf w=(0,false):=by
 rcases ywb w hw with⟨n,_,h4,_⟩|⟨_,h3⟩
 ·rw[h4]at hc;exact absurd hc (yho n c h1 h2)
 ·exact h3
theorem y76:zf []=(0,false):=by
 rcases ywb [] (by simp)with⟨n,_,h4,_⟩|⟨_,h3⟩
 ·exact absurd h4.symm (yxn n)
 ·exact h3
theorem yjf (w:List UInt8) (hw:w.length<=1048576):zk w=zf w:=ykq w hw
theorem yng (a:List UInt8) (c:UInt8) (n:Int) (hc:(c.toNat:Int)=n) (ha:a.length<=1048576):za a n=yf c a:=by
 rw[<- hc];exact yzj a c (by omega)
theorem ykp (a:List UInt8) (c:UInt8):zb a [c]=yf c a:=rfl
theorem cutI (a:List UInt8) (c:UInt8):zd a [c]=Lib.cut a [c]:=rfl
theorem yez (a:List UInt8) (ha:a.length<=1048576):zee a=zwb a:=by
 unfold zee zwb;rw[cutI,yng a 44 44 rfl ha];rcases yyp 44 a with⟨h1,h2,h3⟩|⟨l,t,e,h1,h2,h3⟩
 ·rw[h2,h3]
  simp only;rw[yjf [] (by simp),y76];simp
 ·have hlen:a.length=l.length+1+t.length:=by rw[e];simp;omega
  rw[h2,h3];simp only;rw[yjf l (by omega),yjf t (by omega)];by_cases ht:(44:UInt8)∈t
  ·rw[y67 (by omega) 44 (by decide) (by decide) ht]
   have hq:2<=(yf 44 t).length:=by
    have:=List.length_pos_iff.2 (y1f 44 t);by_cases h:(yf 44 t).length=1
    ·exact absurd ht (yix 44 t h)
    ·omega
   have:(((l::yf 44 t).length:Int) != 2)=true:=by rw[bne_iff_ne,List.length_cons];omega
   rw[this];simp
  ·rw[yib 44 t ht]
   rfl
theorem yfs (a:List UInt8) (ha:a.length<=1048576) (h:(zwb a).2=true):zic (zwb a).1=true/\a=zsg (zwb a).1:=by
 unfold zwb at h ⊢;rw[yng a 44 44 rfl ha]at h ⊢
 cases hl:(((yf 44 a).length:Int) != 2)with
 | true=>rw[hl]at h;cases h
 | false=>
  rw[hl,cond_false]at h;rw[cond_false];have hl:(yf 44 a).length=2:=by have h:=hl;simp at h;omega
  obtain⟨x,y,e⟩:∃ x y,yf 44 a=[x,y]:=by
   match yf 44 a,hl with
   | [x,y],_=>exact⟨x,y,rfl⟩
  have hj:=ypd 44 a;have hsl:=(yu 44 a).2;rw[e]at hj h hsl ⊢;have hx:x.length<=1048576:=by have:=hsl x (by simp);omega
  have hy:y.length<=1048576:=by have:=hsl y (by simp);omega
  simp only[List.getD_cons_zero,List.getD_cons_succ]at h ⊢
  cases hc:(((!((zf x).2)) || (!((zf y).2))) || (!(zic ({ X:=(zf x).1,Y:=(zf y).1:Point }))))with
  | true=>rw[hc]at h;cases h
  | false=>
   rw[cond_false];simp only[Bool.or_eq_false_iff,Bool.not_eq_false']at hc;have hr:=y7y hc.2;refine⟨hc.2,?_⟩;unfold zsg;simp only at hr ⊢;rw[y0f _ (by omega) (by omega),y0f _ (by omega) (by omega), <- (yjd hx hc.1.1).1, <- (yjd hy hc.1.2).1, <- hj];simp[yxj]
theorem ys6 {w:List UInt8} (hw:w.length<=1048576) : -9223372036854775808<=(zk w).1/\(zk w).1<=9223372036854775807:=by
 rw[yjf w hw];rcases ywb w hw with⟨n,h1,_,h3⟩|⟨_,h3⟩
 ·rw[h3];unfold E18 at h1;simp only;omega
 ·rw[h3];decide
def zec (a0:(List UInt8)) (a1:Int):(Edition×Bool):=
 (bif (((zo a0).length:Int) != 4)then({ Number:=0,Day:=0,Aids:=[]:Edition },false)else({ Number:=(zk ((zo a0).getD 1 default)).1,Day:=(zde ((zo a0).getD 2 default)).1,Aids:=[]:Edition },((((zk ((zo a0).getD 1 default)).2 && (zde ((zo a0).getD 2 default)).2) && (zke ((zk ((zo a0).getD 1 default)).1))) && ((zzf ((zk ((zo a0).getD 1 default)).1) ((zde ((zo a0).getD 2 default)).1) a1) == a0))))
namespace N98
theorem DD:DOk Tryz.prog (Go.Ab.DD [(107,dP D_zke),(165,dP D_zo),(179,dP D_zde),(180,dP D_zzf),(81,dP D_zk)]):=ya ykw.e <| ya yd0.e <| ya y33.e <| ya yy1.e <| ya yti.e <| ye _
theorem dn:type_of% (And.intro @D_zke.eq_1 <| And.intro @D_zo.eq_1 <| And.intro @D_zde.eq_1 <| And.intro @D_zzf.eq_1 <| @D_zk.eq_1):=by and_intros<;>intros<;>rfl
set_option maxHeartbeats 1000000 in
set_option maxRecDepth 20000 in
theorem den (a0:(List UInt8)) (a1:Int) (hb0:a0.length<1099511627776) (hp0:a0.length<=1048576) (hp1:0<=a1) (hp2:a1<=2000000):Den Tryz.prog 98 [.str a0,.int .i64 a1] (.tup [.agg (yec ((zec a0 a1).1)),.bool ((zec a0 a1).2)]):=by
 generalize hR:zec a0 a1=r;unfold zec at hR;refine di Tryz.func98 Tryz.ntmps98 Tryz.results98 ?_;intro c hL hc hk;obtain⟨hL0,hL1,_⟩:=hL;have hw0:a0.length<9223372036854775808:=Nat.lt_succ_of_le hL0;clear hL0 hL1;simp only[pars,Nat.zero_add];have hs9:=ydy a0 hp0;have hsa:=yhc hs9 1;have hsb:=yhc hs9 2;have hrd:=ys6 hsa;have hrd1:=hrd.1;have hrd2:=hrd.2;iterate 3 refine rS ?_
 refine AWP.cond rfl (fun hb => ?_) (fun hb => ?_)
 ·replace hR:=ct hR
  refine rS ?_;refine AWP.ret ?_;subst hR;exact es
 ·replace hR:=cf hR
  iterate 4 refine rS ?_
  refine AWP.ret ?_;subst hR;exact es
end N98
def D_zec : DF
 | [x0,x1]=>some (.tup [.agg (yec ((zec (rdS x0) (rdI x1)).1)),.bool ((zec (rdS x0) (rdI x1)).2)],false,[wS x0,wI .i64 x1,(rdS x0).length<1099511627776,(rdS x0).length<=1048576,0<=(rdI x1),(rdI x1)<=2000000])
 | _=>none
theorem yc3:OkD Tryz.prog 98 D_zec:=by unfold D_zec;exact dk N98.den
structure HeadOk (line:List UInt8) (k N D:Int):Prop where
 n1:1<=N
 n2:N<=9999
 d1:0<=D
 d2:D<=99999
 e:line=([101,100,105,116,105,111,110]:List UInt8)++32::(Lib.itoa N++32::(zbb D++32::Lib.itoa k))
theorem ynl (N D k:Int):zzf N D k=([101,100,105,116,105,111,110]:List UInt8)++32::(Lib.itoa N++32::(zbb D++32::Lib.itoa k)):=by
 have ej:∀ a b c d:List UInt8,znb [a,b,c,d] [32]=a++([32]++(b++([32]++(c++([32]++d))))):=fun a b c d=>yx7 a b c d [32]
 unfold zzf;rw[ej];rfl
theorem HeadOk.split {line:List UInt8} {k N D:Int} (h:HeadOk line k N D):yf 32 line=[[101,100,105,116,105,111,110],Lib.itoa N,zbb D,Lib.itoa k]:=by
 rw[h.e,y8 32 _ _ (by decide),y8 32 _ _ (ysd N).1,y8 32 _ _ (yrl h.d1 h.d2).1,yib 32 _ (ysd k).1]
theorem y6s {n:Int} (h0:0<=n) (h1:n<=2000000):zf (Lib.itoa n)=(n,true):=by
 refine yyq (by unfold E18;omega) ?_;have:=y0c n (by omega) (by omega);omega
theorem y48 {n:Int} (h0:0<=n) (h1:n<=2000000):zk (Lib.itoa n)=(n,true):=by
 rw[yjf _ (by have:=y0c n (by omega) (by omega);omega),y6s h0 h1]
theorem HeadOk.impl {line:List UInt8} {k N D:Int} (h:HeadOk line k N D):zec line k=({ Number:=N,Day:=D,Aids:=[]:Edition },true):=by
 have hw:zo line=[[101,100,105,116,105,111,110],Lib.itoa N,zbb D,Lib.itoa k]:=by
  rw[yr8,h.split];have h1:(Lib.itoa N != [])=true:=by rw[bne_iff_ne];exact(ysd N).2
  have h2:(zbb D != [])=true:=by rw[bne_iff_ne];exact(yrl h.d1 h.d2).2.1
  have h3:(Lib.itoa k != [])=true:=by rw[bne_iff_ne];exact(ysd k).2
  simp only[List.filter_cons,h1,h2,h3,List.filter_nil];rfl
 have hN:=h.n1;have hN2:=h.n2;unfold zec;rw[hw];simp only[List.getD_cons_zero,List.getD_cons_succ];rw[y48 (by omega) (by omega),y6o _ (yrl h.d1 h.d2).2.2,ywg h.d1 h.d2];simp only;have e1:(zzf N D k == line)=true:=by rw[ynl,beq_iff_eq];exact h.e.symm
 have e2:zke N=true:=by unfold zke ze;simp;omega
 rw[e1,e2];rfl
theorem ymt {line:List UInt8} {k:Int} (hl:line.length<=1048576) (h:(zec line k).2=true):∃ N D,HeadOk line k N D:=by
 unfold zec at h;have hle:=ydy line hl;have g1:=yhc hle 1;have g2:=yhc hle 2
 cases hc:(((zo line).length:Int) != 4)with
 | true=>rw[hc]at h;cases h
 | false=>
  rw[hc,cond_false]at h;simp only at h;generalize (zo line).getD 1 default=w1 at h g1;generalize (zo line).getD 2 default=w2 at h g2;simp only[Bool.and_eq_true,beq_iff_eq]at h;obtain⟨⟨⟨h1,h2⟩,h3⟩,h4⟩:=h;rw[ynl]at h4;rcases ymh w2 g2 with⟨D,d1,d2,_,e⟩|⟨_,e⟩
  ·rw[e]at h4
   unfold zke ze at h3;simp only[Bool.and_eq_true,decide_eq_true_eq]at h3;exact⟨(zk w1).1,D,by omega,by omega,d1,d2,h4.symm⟩
  ·rw[e]at h2;cases h2
theorem ym9 {α:Type} (l:List α) (h:l.length=4):∃ a b c d,l=[a,b,c,d]:=by
 match l,h with
 | [a,b,c,d],_=>exact⟨a,b,c,d,rfl⟩
def yif (line:List UInt8) (k:Int):Bool:=((((yf 32 line).length:Int) != 4) || (((yf 32 line).getD 0 default) != [101,100,105,116,105,111,110])) || (((((!((zf ((yf 32 line).getD 1 default)).2)) || (!((zsd ((yf 32 line).getD 2 default)).2))) || (!((zf ((yf 32 line).getD 3 default)).2))) || (!(zi ((zf ((yf 32 line).getD 1 default)).1) 1 9999))) || (((zf ((yf 32 line).getD 3 default)).1) != k))
theorem HeadOk.spec {line:List UInt8} {k N D:Int} (hk0:0<=k) (hk1:k<=2000000) (h:HeadOk line k N D):yif line k=false/\(zf ((yf 32 line).getD 1 default)).1=N/\(zsd ((yf 32 line).getD 2 default)).1=D:=by
 have hN:=h.n1;have hN2:=h.n2;unfold yif;rw[h.split];simp only[List.getD_cons_zero,List.getD_cons_succ];rw[y6s (n:=N) (by omega) (by omega),y6s hk0 hk1,ywg h.d1 h.d2];have e2:zi N 1 9999=true:=by unfold zi;simp;omega
 simp[e2]
theorem yts {line:List UInt8} {k:Int} (hl:line.length<=1048576) (h:yif line k=false):∃ N D,HeadOk line k N D:=by
 unfold yif at h;rw[Bool.or_eq_false_iff]at h;obtain⟨ha,hb⟩:=h;rw[Bool.or_eq_false_iff]at ha;have h4:(yf 32 line).length=4:=by have:=ha.1;simp at this;omega
 have hj:=ypd 32 line;have hx:=(yu 32 line).2;obtain⟨w0,w1,w2,w3,hw⟩:=ym9 _ h4;rw[hw]at ha hb hj hx;simp only[List.getD_cons_zero,List.getD_cons_succ]at ha hb;have l1:=hx w1 (by simp);have l2:=hx w2 (by simp);have l3:=hx w3 (by simp);simp only[Bool.or_eq_false_iff,Bool.not_eq_false',bne_eq_false_iff_eq]at ha hb;obtain⟨⟨⟨⟨f1,f2⟩,f3⟩,f4⟩,f5⟩:=hb;unfold zi at f4;simp only[Bool.and_eq_true,decide_eq_true_eq]at f4;rcases yff w2 with⟨D,d1,d2,e,e2⟩|⟨_,e2⟩
 ·refine⟨(zf w1).1,D,by omega,by omega,d1,d2,?_⟩
  have t1:=(yjd (w:=w1) (by omega) f1).1;have t3:=(yjd (w:=w3) (by omega) f3).1;rw[f5]at t3;rw[<- t1, <- e, <- t3, <- ha.2];exact hj.symm
 ·rw[e2]at f2;cases f2
def zsc (a0:(List UInt8)):(Mark×Bool):=
 (bif (a0 == (zdd 0))then({ Kind:=0,Colors:=[],Shape:=[],Topmark:=[]:Mark },true)else(bif (((zo a0).length:Int) != 4)then({ Kind:=0,Colors:=[],Shape:=[],Topmark:=[]:Mark },false)else(bif (((zo a0).getD 3 default) == [45])then(bif (((!((zxc ((zo a0).getD 0 default)).2)) || (!(zvc ({ Kind:=(zxc ((zo a0).getD 0 default)).1,Colors:=((zo a0).getD 1 default),Shape:=((zo a0).getD 2 default),Topmark:=[]:Mark })))) || ((zae ({ Kind:=(zxc ((zo a0).getD 0 default)).1,Colors:=((zo a0).getD 1 default),Shape:=((zo a0).getD 2 default),Topmark:=[]:Mark })) != a0))then({ Kind:=0,Colors:=[],Shape:=[],Topmark:=[]:Mark },false)else({ Kind:=(zxc ((zo a0).getD 0 default)).1,Colors:=((zo a0).getD 1 default),Shape:=((zo a0).getD 2 default),Topmark:=[]:Mark },true))else(bif (((!((zxc ((zo a0).getD 0 default)).2)) || (!(zvc ({ Kind:=(zxc ((zo a0).getD 0 default)).1,Colors:=((zo a0).getD 1 default),Shape:=((zo a0).getD 2 default),Topmark:=((zo a0).getD 3 default):Mark })))) || ((zae ({ Kind:=(zxc ((zo a0).getD 0 default)).1,Colors:=((zo a0).getD 1 default),Shape:=((zo a0).getD 2 default),Topmark:=((zo a0).getD 3 default):Mark })) != a0))then({ Kind:=0,Colors:=[],Shape:=[],Topmark:=[]:Mark },false)else({ Kind:=(zxc ((zo a0).getD 0 default)).1,Colors:=((zo a0).getD 1 default),Shape:=((zo a0).getD 2 default),Topmark:=((zo a0).getD 3 default):Mark },true)))))
namespace N83
theorem DD:DOk Tryz.prog (Go.Ab.DD [(135,dP D_zvc),(147,dP D_zdd),(165,dP D_zo),(166,dP D_zxc),(65,dP D_zae)]):=ya yxo.e <| ya ypo.e <| ya yd0.e <| ya y02.e <| ya y3v.e <| ye _
theorem dn:type_of% (And.intro @D_zvc.eq_1 <| And.intro @D_zdd.eq_1 <| And.intro @D_zo.eq_1 <| And.intro @D_zxc.eq_1 <| @D_zae.eq_1):=by and_intros<;>intros<;>rfl
set_option maxHeartbeats 1000000 in
set_option maxRecDepth 20000 in
theorem den (a0:(List UInt8)) (hb0:a0.length<1099511627776) (hp0:a0.length<=1048576):Den Tryz.prog 83 [.str a0] (.tup [.agg (ykd ((zsc a0).1)),.bool ((zsc a0).2)]):=by
 generalize hR:zsc a0=r;unfold zsc at hR;refine di Tryz.func83 Tryz.ntmps83 Tryz.results83 ?_;intro c hL hc hk;obtain⟨hL0,_⟩:=hL;have hw0:a0.length<9223372036854775808:=Nat.lt_succ_of_le hL0;clear hL0;simp only[pars,Nat.zero_add];have hs9:=ydy a0 (by omega);have hs0:=yhc hs9 0;have hs1:=yhc hs9 1;have hs2:=yhc hs9 2;have hs3:=yhc hs9 3;iterate 2 refine rS ?_
 refine AWP.cond rfl (fun hb => ?_) (fun hb => ?_)
 ·replace hR:=ct hR
  refine rS ?_;refine AWP.ret ?_;subst hR;exact es
 ·replace hR:=cf hR
  iterate 2 refine rS ?_
  refine AWP.cond rfl (fun hb => ?_) (fun hb => ?_)
  ·replace hR:=ct hR
   refine rS ?_;refine AWP.ret ?_;subst hR;exact es
  ·replace hR:=cf hR
   iterate 3 refine rS ?_
   refine AWP.cond rfl (fun hb => ?_) (fun hb => ?_)
   ·replace hR:=ct hR
    refine rS ?_;refine AWP.seq ?_;refine AWP.regP mixed G_ok DD hc 10 [0,1,2,3,4,5,6,7,8] (.alt 9 [] [0,1,2,3,4,5,6,7,8] .leaf .stop) (by kernel_rfl) (by kernel_rfl) (by kernel_rfl) (fun K hK => ?_);simp only[ymg,runN,runP,yrb,nthO,ea,absV,absVL,cput,gv,sv,dn,reduceCtorEq,reduceIte,Nat.reduceBEq,Nat.reduceAdd,Nat.reduceEqDiff,Nat.reduceLT,Nat.reduceLeDiff,Nat.reduceMul,Nat.reduceSub,BEq.rfl,beq_self_eq_true,Int.reduceToNat];repeat' apply And.intro
    all_goals first|refine hK _ ?_|exact ot
    all_goals clear hK K
    refine rS ?_;refine AWP.cond rfl (fun hb => ?_) (fun hb => ?_)
    ·replace hR:=ct hR
     refine rS ?_;refine AWP.ret ?_;subst hR;exact es
    ·replace hR:=cf hR
     refine rS ?_;refine AWP.ret ?_;subst hR;exact es
   ·replace hR:=cf hR
    refine AWP.skip ?_;refine AWP.seq ?_;refine AWP.regP mixed G_ok DD hc 10 [0,1,2,3,4,5,6,7,8] (.alt 9 [] [0,1,2,3,4,5,6,7,8] .leaf .stop) (by kernel_rfl) (by kernel_rfl) (by kernel_rfl) (fun K hK => ?_);simp only[ymg,runN,runP,yrb,nthO,ea,absV,absVL,cput,gv,sv,dn,reduceCtorEq,reduceIte,Nat.reduceBEq,Nat.reduceAdd,Nat.reduceEqDiff,Nat.reduceLT,Nat.reduceLeDiff,Nat.reduceMul,Nat.reduceSub,BEq.rfl,beq_self_eq_true,Int.reduceToNat];repeat' apply And.intro
    all_goals first|refine hK _ ?_|exact ot
    all_goals clear hK K
    refine rS ?_;refine AWP.cond rfl (fun hb => ?_) (fun hb => ?_)
    ·replace hR:=ct hR
     refine rS ?_;refine AWP.ret ?_;subst hR;exact es
    ·replace hR:=cf hR
     refine rS ?_;refine AWP.ret ?_;subst hR;exact es
end N83
def D_zsc : DF
 | [x0]=>some (.tup [.agg (ykd ((zsc (rdS x0)).1)),.bool ((zsc (rdS x0)).2)],false,[wS x0,(rdS x0).length<1099511627776,(rdS x0).length<=1048576])
 | _=>none
theorem ys1:OkD Tryz.prog 83 D_zsc:=by unfold D_zsc;exact dk N83.den
def zve (a0:(List UInt8)):(Mark×Bool):=
 (bif (a0 == [110,111,110,101])then({ Kind:=0,Colors:=[],Shape:=[],Topmark:=[]:Mark },true)else(bif (((za a0 32).length:Int) != 4)then({ Kind:=0,Colors:=[],Shape:=[],Topmark:=[]:Mark },false)else(bif (((za a0 32).getD 3 default) == [45])then(bif (((!(zcc (zld ((za a0 32).getD 0 default)))) || (!(zcb ({ Kind:=(zld ((za a0 32).getD 0 default)),Colors:=((za a0 32).getD 1 default),Shape:=((za a0 32).getD 2 default),Topmark:=[]:Mark })))) || ((zfd ({ Kind:=(zld ((za a0 32).getD 0 default)),Colors:=((za a0 32).getD 1 default),Shape:=((za a0 32).getD 2 default),Topmark:=[]:Mark })) != a0))then({ Kind:=0,Colors:=[],Shape:=[],Topmark:=[]:Mark },false)else({ Kind:=(zld ((za a0 32).getD 0 default)),Colors:=((za a0 32).getD 1 default),Shape:=((za a0 32).getD 2 default),Topmark:=[]:Mark },true))else(bif (((!(zcc (zld ((za a0 32).getD 0 default)))) || (!(zcb ({ Kind:=(zld ((za a0 32).getD 0 default)),Colors:=((za a0 32).getD 1 default),Shape:=((za a0 32).getD 2 default),Topmark:=((za a0 32).getD 3 default):Mark })))) || ((zfd ({ Kind:=(zld ((za a0 32).getD 0 default)),Colors:=((za a0 32).getD 1 default),Shape:=((za a0 32).getD 2 default),Topmark:=((za a0 32).getD 3 default):Mark })) != a0))then({ Kind:=0,Colors:=[],Shape:=[],Topmark:=[]:Mark },false)else({ Kind:=(zld ((za a0 32).getD 0 default)),Colors:=((za a0 32).getD 1 default),Shape:=((za a0 32).getD 2 default),Topmark:=((za a0 32).getD 3 default):Mark },true)))))
namespace N248
theorem DD:DOk Tryz.prog (Go.Ab.DD [(200,dP D_zcb),(208,dP D_zfd),(228,dP D_zcc),(300,dP D_zld),(90,dP D_za)]):=ya y4t.e <| ya y14.e <| ya ypu.e <| ya yl2.e <| ya yeh.e <| ye _
theorem dn:type_of% (And.intro @D_zcb.eq_1 <| And.intro @D_zfd.eq_1 <| And.intro @D_zcc.eq_1 <| And.intro @D_zld.eq_1 <| @D_za.eq_1):=by and_intros<;>intros<;>rfl
theorem gr {p:Prop} (h:p:=by(grind [y3,y4b]);first|done|fail):p:=h
set_option maxHeartbeats 1000000 in
set_option maxRecDepth 20000 in
theorem den (a0:(List UInt8)) (hb0:a0.length<1099511627776) (hp0:a0.length<=1048576):Den Tryz.prog 248 [.str a0] (.tup [.agg (ykd ((zve a0).1)),.bool ((zve a0).2)]):=by
 generalize hR:zve a0=r;unfold zve at hR;refine di Tryz.func248 Tryz.ntmps248 Tryz.results248 ?_;intro c hL hc hk;obtain⟨hL0,_⟩:=hL;have hw0:a0.length<9223372036854775808:=Nat.lt_succ_of_le hL0;clear hL0;simp only[pars,Nat.zero_add];have s0_:=yed a0 32 32 rfl (by omega) 0;have s1_:=yed a0 32 32 rfl (by omega) 1;have s2_:=yed a0 32 32 rfl (by omega) 2;have s3_:=yed a0 32 32 rfl (by omega) 3;iterate 2 refine rS ?_
 refine AWP.cond rfl (fun hb => ?_) (fun hb => ?_)
 ·replace hR:=ct hR
  refine rS ?_;refine AWP.ret ?_;subst hR;exact es
 ·replace hR:=cf hR
  iterate 2 refine rS ?_
  refine AWP.cond rfl (fun hb => ?_) (fun hb => ?_)
  ·replace hR:=ct hR
   refine rS ?_;refine AWP.ret ?_;subst hR;exact es
  ·replace hR:=cf hR
   refine AWP.skip ?_;refine AWP.seq ?_;refine AWP.regP mixed G_ok DD hc 15 [0,1,2,3,4,5,6,7,8,9,10,11,12,13] (.alt 14 [] [0,1,2,3,4,5,6,7,8,9,10,11,12,13] .leaf .stop) (by kernel_rfl) (by kernel_rfl) (by kernel_rfl) (fun K hK => ?_);simp only[ymg,runN,runP,yrb,nthO,ea,absV,absVL,cput,gv,sv,dn,reduceCtorEq,reduceIte,Nat.reduceBEq,Nat.reduceAdd,Nat.reduceEqDiff,Nat.reduceLT,Nat.reduceLeDiff,Nat.reduceMul,Nat.reduceSub,BEq.rfl,beq_self_eq_true,Int.reduceToNat];repeat' apply And.intro
   all_goals first|refine hK _ ?_|exact ot
   all_goals clear hK K
   refine rS ?_;refine AWP.cond rfl (fun hb => ?_) (fun hb => ?_)
   ·replace hR:=ct hR
    iterate 2 refine rS ?_
    refine AWP.cond rfl (fun hb => ?_) (fun hb => ?_)
    ·replace hR:=ct hR
     refine rS ?_;refine AWP.ret ?_;subst hR;exact es
    ·replace hR:=cf hR
     refine rS ?_;refine AWP.ret ?_;subst hR;exact es
   ·replace hR:=cf hR
    refine rS ?_;refine AWP.cond rfl (fun hb => ?_) (fun hb => ?_)
    ·replace hR:=ct hR
     refine rS ?_;refine AWP.ret ?_;subst hR;exact es
    ·replace hR:=cf hR
     refine rS ?_;refine AWP.ret ?_;subst hR;exact es
end N248
def D_zve : DF
 | [x0]=>some (.tup [.agg (ykd ((zve (rdS x0)).1)),.bool ((zve (rdS x0)).2)],false,[wS x0,(rdS x0).length<1099511627776,(rdS x0).length<=1048576])
 | _=>none
theorem yl1:OkD Tryz.prog 248 D_zve:=by unfold D_zve;exact dk N248.den
def zkc (a0:(List UInt8)):(Mark×Bool):=
 ((zve a0).1,(zve a0).2)
namespace N175
theorem DD:DOk Tryz.prog (Go.Ab.DD [(248,dP D_zve)]):=ya yl1.e <| ye _
theorem dn:type_of% (@D_zve.eq_1):=by and_intros<;>intros<;>rfl
theorem den (a0:(List UInt8)) (hb0:a0.length<1099511627776) (hp0:a0.length<=1048576):Den Tryz.prog 175 [.str a0] (.tup [.agg (ykd ((zkc a0).1)),.bool ((zkc a0).2)]):=by
 generalize hR:zkc a0=r;unfold zkc at hR;refine di Tryz.func175 Tryz.ntmps175 Tryz.results175 ?_;intro c hL hc hk;obtain⟨hL0,_⟩:=hL;have hw0:a0.length<9223372036854775808:=Nat.lt_succ_of_le hL0;clear hL0;simp only[pars,Nat.zero_add];iterate 2 refine rS ?_
 refine AWP.ret ?_;subst hR;exact es
end N175
def D_zkc : DF
 | [x0]=>some (.tup [.agg (ykd ((zkc (rdS x0)).1)),.bool ((zkc (rdS x0)).2)],false,[wS x0,(rdS x0).length<1099511627776,(rdS x0).length<=1048576])
 | _=>none
theorem yz0:OkD Tryz.prog 175 D_zkc:=by unfold D_zkc;exact dk N175.den
abbrev yoz:Mark:={ Kind:=0,Colors:=[],Shape:=[],Topmark:=[]}
def allMarks:List Mark:=yoz::([1,2,3,4,5,6,7,8,9]:List Int).flatMap fun k=>(zqb k).flatMap fun s=>[{ Kind:=k,Colors:=zue k,Shape:=s,Topmark:=[]},{ Kind:=k,Colors:=zue k,Shape:=s,Topmark:=zaf k }]
theorem yf2 {m:Mark} (h:zcb m=true):m∈allMarks:=by
 unfold allMarks;rcases y1m (m:=m) h with⟨h1,h2,h3,h4⟩|⟨h1,h2,h3,h4⟩
 ·cases m
  simp only at h1 h2 h3 h4;subst h1 h2 h3 h4;exact List.mem_cons_self
 ·refine List.mem_cons_of_mem _ (List.mem_flatMap.2 ⟨m.Kind,?_,List.mem_flatMap.2 ⟨m.Shape,h4,?_⟩⟩)
  ·rcases y0g h1 with e|e|e|e|e|e|e|e|e<;>rw[e]<;>decide
  ·cases m
   simp only at h2 h3 ⊢;subst h2;rcases h3 with e|e
   ·rw[e];exact List.mem_cons_self
   ·rw[e];exact List.mem_cons_of_mem _ List.mem_cons_self
theorem y1w:(allMarks.all fun m=>decide (zsc (zfd m)=(m,true)) && decide (zve (zfd m)=(m,true)))=true:=by decide +kernel
theorem yry {m:Mark} (h:zcb m=true):zsc (zfd m)=(m,true)/\zve (zfd m)=(m,true):=by
 have:=List.all_eq_true.1 y1w m (yf2 h);rw[Bool.and_eq_true]at this;exact⟨of_decide_eq_true this.1,of_decide_eq_true this.2⟩
theorem ye6:RdOk (fun m=>zcb m=true) zfd yoz zsc 1048576:=.of (fun p h _=>(yry h).1) (fun a ha=>by
 have key:∀ m:Mark,∀ b:Bool,((b || (!(zvc m))) || ((zae m) != a))=false->zcb m=true/\a=zfd m:=fun m b hc=>by
  simp only[Bool.or_eq_false_iff,Bool.not_eq_false',bne_eq_false_iff_eq]at hc;have h1:zcb m=true:=by rw[<- show zed m=zcb m from rfl, <- yae];exact hc.1.2
  refine⟨h1,?_⟩;rw[<- hc.2,y38];unfold zrg;rw[h1];rfl
 unfold zsc
 cases h0:(a == zdd 0)with
 | true=>exact .inr ⟨yoz,rfl,by decide,eq_of_beq h0⟩
 | false=>
  rw[cond_false]
  cases h1:(((zo a).length:Int) != 4)with
  | true=>exact .inl rfl
  | false=>
   rw[cond_false]
   cases h2:(((zo a).getD 3 default) == [45])with
   | true=>rw[cond_true];exact y2i a _ _ (key _ _)
   | false=>rw[cond_false];exact y2i a _ _ (key _ _))
theorem yc8:RdOk (fun m=>zcb m=true) zfd yoz zve 1048576:=.of (fun p h _=>(yry h).2) (fun a ha=>by
 have key:∀ m:Mark,∀ b:Bool,((b || (!(zcb m))) || ((zfd m) != a))=false->zcb m=true/\a=zfd m:=fun m b hc=>by
  simp only[Bool.or_eq_false_iff,Bool.not_eq_false',bne_eq_false_iff_eq]at hc;exact⟨hc.1.2,hc.2.symm⟩
 unfold zve
 cases h0:(a == [110,111,110,101])with
 | true=>exact .inr ⟨yoz,rfl,by decide,eq_of_beq h0⟩
 | false=>
  rw[cond_false]
  cases h1:(((za a 32).length:Int) != 4)with
  | true=>exact .inl rfl
  | false=>
   rw[cond_false]
   cases h2:(((za a 32).getD 3 default) == [45])with
   | true=>rw[cond_true];exact y2i a _ _ (key _ _)
   | false=>rw[cond_false];exact y2i a _ _ (key _ _))
theorem ysq (a:List UInt8) (ha:a.length<=1048576):zsc a=zkc a:=(ye6.eq yc8 a ha)
def yrh (a0:(List UInt8)) (i1:Nat) (s1:List Sector):Except (((List Sector)×Bool)) (List Sector):=
 (bif ((((zd ((zb a0 [44]).getD i1 default) [45]).2.1) == []) || (!(zac (s1.length:Int) 12)))then .error ([],false)else(bif ((!((zk ((zd ((zb a0 [44]).getD i1 default) [45]).1)).2)) || (!((zk (((zd ((zb a0 [44]).getD i1 default) [45]).2.1).take ((IntKind.wrap .i64 ((((zd ((zb a0 [44]).getD i1 default) [45]).2.1).length:Int)-1)).toNat))).2)))then .error ([],false)else .ok (s1++[{ From:=(zk ((zd ((zb a0 [44]).getD i1 default) [45]).1)).1,To:=(zk (((zd ((zb a0 [44]).getD i1 default) [45]).2.1).take ((IntKind.wrap .i64 ((((zd ((zb a0 [44]).getD i1 default) [45]).2.1).length:Int)-1)).toNat))).1,Color:=(((zd ((zb a0 [44]).getD i1 default) [45]).2.1).take (((zd ((zb a0 [44]).getD i1 default) [45]).2.1).length)).drop ((IntKind.wrap .i64 ((((zd ((zb a0 [44]).getD i1 default) [45]).2.1).length:Int)-1)).toNat):Sector }])))
def zmb (a0:(List UInt8)):((List Sector)×Bool):=
 (bif (a0 == [45])then([],true)else(match yd (yrh a0) (((zb a0 [44]).length)-0) 0 ([]:List Sector)with|.error e=>e|.ok s1=>(bif ((!(zab s1)) || ((zrc s1) != a0))then([],false)else(s1,true))))
namespace N85
theorem DD:DOk Tryz.prog (Go.Ab.DD [(110,dP D_zac),(139,dP D_zab),(164,dP D_zd),(66,dP D_zrc),(80,dP D_zb),(81,dP D_zk)]):=ya y7j.e <| ya y5o.e <| ya yyl.e <| ya yyu.e <| ya yri.e <| ya yti.e <| ye _
theorem dn:type_of% (And.intro @D_zac.eq_1 <| And.intro @D_zab.eq_1 <| And.intro @D_zd.eq_1 <| And.intro @D_zrc.eq_1 <| And.intro @D_zb.eq_1 <| @D_zk.eq_1):=by and_intros<;>intros<;>rfl
theorem gr {p:Prop} (h:p:=by(grind [yhf]);first|done|fail):p:=h
theorem o0 {p:Prop} (h:p:=by(first|(obtain⟨q1,q2,q3⟩:=hlo i1 _ (by assumption);have h1:=e1 i1;have h2:=hct i1;(repeat' with_reducible apply And.intro)<;>first|with_reducible assumption|exact q2|(rw[q1];omega)|omega)|(have h1:=e1 i1;have h2:=hct i1;(repeat' with_reducible apply And.intro)<;>first|with_reducible assumption|omega)|(obtain⟨w1,w2,w3⟩:=hW1;(repeat' with_reducible apply And.intro)<;>first|with_reducible assumption|omega)|((repeat' with_reducible apply And.intro)<;>omega));first|done|fail):p:=h
theorem o2 {p:Prop} (h:p:=by(first|((repeat' with_reducible apply And.intro)<;>first|(simp only[List.length_append,List.length_singleton];(first|done|fail))|(rw[IntKind.wrap_i64];omega)|(intro j hj;by_cases hji:j<s1.length;(focus(simp only[ycv hji,yu4 hji,cond_true];first|(first|done|fail)|with_reducible rfl));(have e0:j-s1.length=0:=by omega);(simp only[yvu hji hj,yd4 hji,cond_false,e0,elt,borrowL,borrow];first|(first|done|fail)|with_reducible rfl))|decide));first|done|fail):p:=h
set_option maxHeartbeats 1000000 in
set_option maxRecDepth 20000 in
theorem den (a0:(List UInt8)) (hb0:a0.length<1099511627776) (hp0:a0.length<=1048576):Den Tryz.prog 85 [.str a0] (.tup [ownL 135 3 ym ((zmb a0).1),.bool ((zmb a0).2)]):=by
 generalize hR:zmb a0=r;unfold zmb at hR;refine di Tryz.func85 Tryz.ntmps85 Tryz.results85 ?_;intro c hL hc hk;obtain⟨hL0,_⟩:=hL;have hw0:a0.length<9223372036854775808:=Nat.lt_succ_of_le hL0;clear hL0;simp only[pars,Nat.zero_add];have e1:=fun i=>yoo a0 44 i
 have e2:=ylv a0 44;have hct:=fun i:Nat=>yhf ((zb a0 [44]).getD i default) [45]
 have hlo:∀ (i:Nat) (b:Bool),((((zd ((zb a0 [44]).getD i default) [45]).2.1) == []) || b)=false->_:=fun i b h=>ycz (y:=(zd ((zb a0 [44]).getD i default) [45]).2.1) (by intro e;rw[e]at h;cases h) (by have h1:=hct i;have h2:=e1 i;omega)
 iterate 2 refine rS ?_
 refine AWP.cond rfl (fun hb => ?_) (fun hb => ?_)
 ·replace hR:=ct hR
  refine rS ?_;refine AWP.ret ?_;subst hR;exact es
 ·replace hR:=cf hR
  iterate 2 refine rS ?_
  refine AWP.block ?_;generalize hz1:yd (yrh a0) (((zb a0 [44]).length)-0) 0 ([]:List Sector)=z1 at hR;refine AWP.range (yrh a0) (fun i1 s1=>⟨[(0,.str a0),(4,.ref 0 3 0 s1.length),(19,.ref 1 1 0 ((zb a0 [44]).length)),(20,.int .i64 ((zb a0 [44]).length:Int)),(21,.int .i64 (i1:Int))],[.arr 135 3 s1.length (fun j=>ym (s1.getD j default)),.arr 9 1 (zb a0 [44]).length (fun j=>eS ((zb a0 [44]).getD j default))]⟩) (fun i1 s1=>s1.length<=([]:List Sector).length+1 * i1/\s1.length<=i1/\∀ v∈s1,bdSector v) (((zb a0 [44]).length)) 0 ([]:List Sector) [0,1] hz1 ot (by(simp)) sm ?_;clear hz1;intro i1 s1 hi1 hW1 hz1;have hV1:=hW1;obtain⟨hV1_0,hV1_1,hV1_2⟩:=hV1;refine rS ?_;refine AWP.seq ?_;refine AWP.cond rfl (fun hb => ?_) (fun hb => ?_)
  ·have hlt1:i1<((zb a0 [44]).length):=ot
   rw[yg hlt1]at hz1;simp only[yrh]at hz1;iterate 3 refine rS ?_
   refine AWP.cond rfl (fun hb => ?_) (fun hb => ?_)
   ·simp only[hb,cond_true]at hz1
    refine rS ?_;refine AWP.ret ?_;subst hz1;dsimp only at hR;subst hR;exact es
   ·simp only[hb,cond_false]at hz1
    iterate 4 refine rS ?_
    refine AWP.cond rfl (fun hb => ?_) (fun hb => ?_)
    ·simp only[hb,cond_true]at hz1
     refine rS ?_;refine AWP.ret ?_;subst hz1;dsimp only at hR;subst hR;exact es
    ·simp only[hb,cond_false]at hz1
     iterate 2 refine rS ?_
     exact⟨_,[3,1],hlt1,by(have h1:=e1 i1;have c1:=hct i1;obtain⟨w0,w1,w2⟩:=hW1;refine⟨by simp only[List.length_append,List.length_cons,List.length_nil,List.length_singleton];omega,by simp only[List.length_append,List.length_cons,List.length_nil,List.length_singleton];omega,fun v hv=>(List.mem_append.1 hv).elim (fun h=>w2 v h) (fun h=>by rw[List.mem_singleton]at h;subst h;show List.length _<1099511627776;simp only[List.length_drop,List.length_take];omega)⟩),hz1,sm⟩
  ·obtain rfl:i1=((zb a0 [44]).length):=ot
   rw[yh (Nat.le_refl _)]at hz1;subst hz1;dsimp only at hR;refine AWP.exit ?_;refine yb ?_;refine rS ?_;refine AWP.cond rfl (fun hb => ?_) (fun hb => ?_)
   ·replace hR:=ct hR
    refine rS ?_;refine AWP.ret ?_;subst hR;exact es
   ·replace hR:=cf hR
    refine rS ?_;refine AWP.ret ?_;subst hR;exact es
end N85
def D_zmb : DF
 | [x0]=>some (.tup [ownL 135 3 ym ((zmb (rdS x0)).1),.bool ((zmb (rdS x0)).2)],false,[wS x0,(rdS x0).length<1099511627776,(rdS x0).length<=1048576])
 | _=>none
theorem y73:OkD Tryz.prog 85 D_zmb:=by unfold D_zmb;exact dk N85.den
theorem yl8 {l:List Sector} (h:zab l=true):l.length<=12:=by
 unfold zab at h
 have he:=yme (b:=yhh l) (e0:=false) (fun j s e h=>by
  unfold yhh at h;rw[Bool.cond_eq_ite]at h;split at h
  ·simpa using h.symm
  ·have h2:=yme (b:=ylj l j s) (e0:=false) (fun k s2 e2 h2=>by
    unfold ylj at h2;rw[Bool.cond_eq_ite]at h2;split at h2
    ·simpa using h2.symm
    ·cases h2) (l.length-0) 0 ()
   generalize yd (ylj l j s) (l.length-0) 0 ()=z at h h2
   cases z with
   | error e3=>
    have h:e3=e:=by simpa using h
    rw[<- h];exact h2 e3 rfl
   | ok _=>cases h) (l.length-0) 0 0
 generalize yd (yhh l) (l.length-0) 0 0=z at h he
 cases z with
 | error e=>have:=he e rfl;subst this;cases h
 | ok s=>simp[zac]at h;omega
theorem yzm (c : UInt8) : ∀ xs : List (List UInt8), Lib.join xs [c] = yxj c xs
 | []=>rfl
 | [x]=>by simp[Lib.join_cons,Lib.joinTail,yxj]
 | x::y::r=>by
  have ih:=yzm c (y::r);rw[yxj, <- ih];simp[Lib.join_cons,Lib.joinTail]
theorem y28 {s:Sector} (h:zyc s=true) (c:UInt8) (h1:c≠45) (h2:c.toNat<48):c∉scT s:=by
 unfold zyc at h;rw[Bool.and_eq_true]at h;unfold scT;intro hm;rw[List.mem_append]at hm;rcases hm with hm|hm
 ·exact yho _ c h1 (.inl h2) hm
 rcases List.mem_cons.1 hm with hm|hm
 ·exact h1 hm
 rw[List.mem_append]at hm;rcases hm with hm|hm
 ·exact yho _ c h1 (.inl h2) hm
 ·rcases yos h.2 with e|e|e|e<;>rw[e]at hm<;>rw[List.mem_singleton]at hm<;>subst hm<;>revert h2<;>decide
theorem yrp {s:Sector} (h:zyc s=true):0<=s.From/\s.From<=359/\0<=s.To/\s.To<=359/\s.Color.length=1/\(45:UInt8)∉s.Color:=by
 have hb:=yus h;unfold zyc at h;rw[Bool.and_eq_true]at h;refine⟨hb.1.1,hb.1.2,hb.2.1,hb.2.2,?_,?_⟩<;>rcases yos h.2 with e|e|e|e<;>rw[e]<;>decide
theorem y9h {l:List Sector} (h:zu l=true) (hn:l≠[]):yf 44 (scsT l)=l.map scT:=by
 have h1:=(ybf h).2
 have hmem:∀ s∈l,(44:UInt8)∉scT s:=fun s hs=>by
  obtain⟨i,hi,e⟩:=List.getElem_of_mem hs;have:=h1 i hi;rw[List.getD_eq_getElem?_getD,List.getElem?_eq_getElem hi,Option.getD_some,e]at this;exact y28 this 44 (by decide) (by decide)
 unfold scsT;rw[if_neg hn]
 cases l with
 | nil=>exact absurd rfl hn
 | cons x r=>
  rw[List.map_cons,Lib.join_cons,yzi 44 _ _ (hmem x (by simp)) (fun y hy=>by
   obtain⟨s,hs,rfl⟩:=List.mem_map.1 hy
   exact hmem s (by simp[hs]))]
theorem ya5 {l:List Sector} (hn:l≠[]):(scsT l == [45])=false:=by
 rw[beq_eq_false_iff_ne];unfold scsT;rw[if_neg hn]
 cases l with
 | nil=>exact absurd rfl hn
 | cons x r=>
  intro e;rw[List.map_cons,Lib.join_cons]at e;have:=congrArg List.length e;unfold scT at this;have h1:=List.length_pos_iff.2 (yxn x.From);have h2:=List.length_pos_iff.2 (yxn x.To);simp only[List.length_append,List.length_cons,List.length_nil]at this;omega
theorem yoy (l:List Sector) (j:Nat) (hj:j<l.length):(l.map scT).getD j default=scT (l.getD j default):=ya4 scT l j hj
theorem ypq (x y:List UInt8) (h:y.length=1) (hl:x.length<=1048576):(x++y).take ((IntKind.wrap .i64 (((x++y).length:Int)-1)).toNat)=x/\(((x++y).take (x++y).length).drop ((IntKind.wrap .i64 (((x++y).length:Int)-1)).toNat))=y:=by
 have hw:(IntKind.wrap .i64 (((x++y).length:Int)-1)).toNat=x.length:=by
  rw[List.length_append,h,IntKind.wrap_i64];omega
 rw[hw];exact⟨List.take_left' rfl,by rw[List.take_length,List.drop_left' rfl]⟩
theorem y8j {n:Int} (h0:0<=n) (h1:n<=359):(Lib.itoa n).length<=3/\(45:UInt8)∉Lib.itoa n/\yzb (Lib.itoa n)=(n,true)/\zf (Lib.itoa n)=(n,true):=by
 have hk:=ywh n 2 h0 (by show n<(1000:Int);omega);exact⟨hk,ywe h0 45 (by decide),y7c h0 (by omega),yyq (by unfold E18;omega) (by omega)⟩
theorem yd9 {l:List Sector} (h:zu l=true):zmb (zag l)=(l,true):=by
 rw[yui h];by_cases hn:l=[]
 ·subst hn;rfl
 have hv:zab l=true:=by
  have:=(ybf h).1;rw[yob l (by omega)];exact h
 unfold zmb;rw[ya5 hn,cond_false,ykp,y9h h hn,List.length_map]
 obtain⟨t,q1,q2⟩:=yw (b:=yrh (scsT l)) (fun i s=>s=l.take i) (k:=l.length-0) (i:=0) (s:=[]) rfl (fun j u _ hj hu=>by
  have hj:j<l.length:=by omega
  refine⟨_,?_,rfl⟩;subst hu;have h1:=yrp ((ybf h).2 j hj);obtain⟨f1,f2,f3,_⟩:=y8j h1.1 h1.2.1;obtain⟨t1,t2,t3,_⟩:=y8j h1.2.2.1 h1.2.2.2.1;have h12:=(ybf h).1;unfold yrh;rw[ykp,y9h h hn,yoy l j hj,cutI];unfold scT;rw[ynf _ _ 45 f2];simp only
  have hne:(Lib.itoa (l.getD j default).To++(l.getD j default).Color == [])=false:=by
   rw[beq_eq_false_iff_ne];intro e;have:=congrArg List.length e;simp only[List.length_append,List.length_nil]at this;omega
  have tl:=ypq (Lib.itoa (l.getD j default).To) (l.getD j default).Color h1.2.2.2.2.1 (by omega)
  have hf:zac ((l.take j).length:Int) 12=true:=by
   unfold zac;rw[List.length_take];simp;omega
  have r1:zk (Lib.itoa (l.getD j default).From)=((l.getD j default).From,true):=f3;have r2:zk (Lib.itoa (l.getD j default).To)=((l.getD j default).To,true):=t3;rw[hne,hf,tl.1,tl.2,r1,r2];simp only[Bool.not_true,Bool.or_self,cond_false]
  rw[ymf l j hj])
 rw[q1];simp only;have:t=l:=by rw[q2];simp
 rw[this,hv,yxs h];simp
theorem ye8 {l:List Sector} (h:zu l=true):zdb (zag l)=(l,true):=by
 have hlen:=y94 h;rw[yui h];by_cases hn:l=[]
 ·subst hn;rfl
 unfold zdb;have h12:=(ybf h).1;have hs:=yng (scsT l) 44 44 rfl (by omega);rw[ya5 hn,cond_false,hs,y9h h hn,List.length_map,decide_eq_false (show ¬ 12<(l.length:Int)by omega),cond_false]
 have hl:=ybd (yug (scsT l)) (fun j=>[l.getD j default]) l.length 0 [] (fun j u _ hj=>by
  have hj:j<l.length:=by omega
  have h1:=yrp ((ybf h).2 j hj);obtain⟨f1,f2,_,f3⟩:=y8j h1.1 h1.2.1;obtain⟨t1,t2,_,t3⟩:=y8j h1.2.2.1 h1.2.2.2.1;unfold yug
  have hno:(45:UInt8)∉Lib.itoa (l.getD j default).To++(l.getD j default).Color:=fun hm=>by
   rcases List.mem_append.1 hm with hm|hm
   ·exact t2 hm
   ·exact h1.2.2.2.2.2 hm
  have e2:za (scT (l.getD j default)) 45=[Lib.itoa (l.getD j default).From,Lib.itoa (l.getD j default).To++(l.getD j default).Color]:=by
   rw[yng _ 45 45 rfl (by unfold scT;simp only[List.length_append,List.length_cons];omega)];unfold scT;rw[y8 45 _ _ f2,yib 45 _ hno]
  rw[hs,y9h h hn,yoy l j hj,e2];simp only[List.getD_cons_zero,List.getD_cons_succ];have tl:=ypq (Lib.itoa (l.getD j default).To) (l.getD j default).Color h1.2.2.2.2.1 (by omega);have hp:=List.length_pos_iff.2 (yxn (l.getD j default).To);have hq:decide (((Lib.itoa (l.getD j default).To++(l.getD j default).Color).length:Int)<2)=false:=decide_eq_false (by rw[List.length_append];omega);rw[hq,tl.1,tl.2,f3,t3]
  rfl)
 rw[Nat.sub_zero,hl,List.nil_append];have e:=ysf l default (fun s=>s);rw[List.map_id']at e;rw[e];simp only;rw[h];rfl
theorem yp7:RdOk (fun l=>zu l=true) zag [] zmb 1048576:=.of (fun p h _=>yd9 h) (fun a ha=>by
 unfold zmb
 cases h0:(a == [45])with
 | true=>exact .inr ⟨[],rfl,y3s,eq_of_beq h0⟩
 | false=>
  rw[cond_false]
  have he:=yme (b:=yrh a) (e0:=([],false)) (fun j s e h=>by
   unfold yrh at h;simp only[Bool.cond_eq_ite]at h;split at h
   ·simpa using h.symm
   ·split at h
    ·simpa using h.symm
    ·cases h) ((zb a [44]).length-0) 0 []
  generalize yd (yrh a) ((zb a [44]).length-0) 0 []=z at he
  cases z with
  | error e=>exact .inl (he e rfl)
  | ok s=>
   refine y2i a s _ (fun hc => ?_);simp only[Bool.or_eq_false_iff,Bool.not_eq_false',bne_eq_false_iff_eq]at hc;have h12:=yl8 hc.1;have hv:zu s=true:=by rw[<- yob s (by omega)];exact hc.1
   exact⟨hv,by rw[<- hc.2,yxs hv,yui hv]⟩)
theorem yl4 {w : List UInt8} (hw : w.length <= 1048576) {u r : List Sector} {e : List Sector × Bool}
  (h:(bif ((((za w 45).length:Int) != 2) || decide ((((za w 45).getD 1 default).length:Int)<2))then(.error ([],false):Except (List Sector×Bool) (List Sector))else(bif ((!((zf ((za w 45).getD 0 default)).2)) || (!((zf (((za w 45).getD 1 default).take ((IntKind.wrap .i64 ((((za w 45).getD 1 default).length:Int)-1)).toNat))).2)))then .error ([],false)else .ok (u++[{ From:=(zf ((za w 45).getD 0 default)).1,To:=(zf (((za w 45).getD 1 default).take ((IntKind.wrap .i64 ((((za w 45).getD 1 default).length:Int)-1)).toNat))).1,Color:=(((za w 45).getD 1 default).take (((za w 45).getD 1 default).length)).drop ((IntKind.wrap .i64 ((((za w 45).getD 1 default).length:Int)-1)).toNat):Sector }])))=.ok r) :
  ∃ s,r=u++[s]/\w=scT s:=by
 rw[yng w 45 45 rfl hw]at h
 cases hl:((((yf 45 w).length:Int) != 2) || decide ((((yf 45 w).getD 1 default).length:Int)<2))with
 | true=>rw[hl]at h;cases h
 | false=>
  rw[hl,cond_false]at h;rw[Bool.or_eq_false_iff]at hl;have hl2:(yf 45 w).length=2:=by have h:=hl.1;simp at h;omega
  obtain⟨x,y,e⟩:∃ x y,yf 45 w=[x,y]:=by
   match yf 45 w,hl2 with
   | [x,y],_=>exact⟨x,y,rfl⟩
  have hj:=ypd 45 w;have hsl:=(yu 45 w).2;rw[e]at hj h hl hsl;have hx:x.length<=1048576:=by have:=hsl x (by simp);omega
  have hy:y.length<=1048576:=by have:=hsl y (by simp);omega
  simp only[List.getD_cons_zero,List.getD_cons_succ]at h hl;have hy2:2<=y.length:=by have:=of_decide_eq_false hl.2;omega
  have hwr:(IntKind.wrap .i64 ((y.length:Int)-1)).toNat=y.length-1:=by rw[IntKind.wrap_i64];omega
  rw[hwr]at h
  cases hc:((!((zf x).2)) || (!((zf (y.take (y.length-1))).2)))with
  | true=>rw[hc]at h;cases h
  | false=>
   rw[hc,cond_false]at h;simp only[Bool.or_eq_false_iff,Bool.not_eq_false']at hc;have n1:=(yjd hx hc.1).1;have n2:=(yjd (by rw[List.length_take];omega) hc.2).1;have h:=Except.ok.inj h;refine⟨_,h.symm,?_⟩;unfold scT;simp only;rw[<- n1, <- n2,List.take_length,List.take_append_drop, <- hj];simp[yxj]
theorem yj8:RdOk (fun l=>zu l=true) zag [] zdb 1048576:=.of (fun p h _=>ye8 h) (fun a ha=>by
 unfold zdb;have hs:=yng a 44 44 rfl ha
 cases h0:(a == [45])with
 | true=>exact .inr ⟨[],rfl,y3s,eq_of_beq h0⟩
 | false=>
  rw[cond_false]
  cases h12:decide (12<((za a 44).length:Int))with
  | true=>exact .inl rfl
  | false=>
   rw[cond_false]
   have he:=yme (b:=yug a) (e0:=([],false)) (fun j s e h=>by
    unfold yug at h;simp only[Bool.cond_eq_ite]at h;split at h
    ·simpa using h.symm
    ·split at h
     ·simpa using h.symm
     ·cases h) ((za a 44).length-0) 0 []
   cases hz:yd (yug a) ((za a 44).length-0) 0 []with
   | error e=>exact .inl (he e hz)
   | ok s=>
    refine y2i a s _ (fun hc => ?_);have hv:zu s=true:=by simpa using hc
    refine⟨hv,?_⟩;rw[yui hv]
    have hk:=yeg (fun k (t:List Sector)=>t.map scT=(yf 44 a).take k) hz rfl (fun j u v _ hj hI hb=>by
     have hj:j<(yf 44 a).length:=by rw[hs]at hj;omega
     have hw:((yf 44 a).getD j default).length<=1048576:=by
      have:=(yu 44 a).2 ((yf 44 a).getD j default) (by rw[List.getD_eq_getElem?_getD,List.getElem?_eq_getElem hj];simp);omega
     unfold yug at hb;rw[hs]at hb;obtain⟨q,e1,e2⟩:=yl4 (e:=([],false)) hw hb
     rw[e1,List.map_append,hI,List.map_singleton, <- e2,ymf _ j hj])
    rw[hs,Nat.sub_zero,Nat.zero_add,List.take_length]at hk
    have hn:s≠[]:=fun e=>by
     rw[e]at hk;exact y1f 44 a hk.symm
    unfold scsT
    rw[if_neg hn,hk,yzm,ypd])
theorem ybq (a:List UInt8) (ha:a.length<=1048576):zmb a=zdb a:=yp7.eq yj8 a ha
end Go.Ab
