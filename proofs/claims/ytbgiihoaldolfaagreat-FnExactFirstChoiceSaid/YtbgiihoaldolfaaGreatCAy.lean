/- A part of a proof: walks of functions and lemmas of our own. No conditions. -/
import Derived.Test.YtbgiihoaldolfaaGreatCAx
import Derived.Test.YtbgiihoaldolfaaGreatCAw
import Derived.Test.YtbgiihoaldolfaaGreatCAv
import Derived.Test.YtbgiihoaldolfaaGreatCAr
import Derived.Test.YtbgiihoaldolfaaGreatCAt
import Derived.Test.YtbgiihoaldolfaaGreatCAl
import Derived.Test.YtbgiihoaldolfaaGreatCAu
import Derived.Test.YtbgiihoaldolfaaGreatCAp
import Derived.Test.YtbgiihoaldolfaaGreatCAq
import Derived.Test.YtbgiihoaldolfaaGreatCAs
import Derived.Test.YtbgiihoaldolfaaGreatCAk
import Derived.Test.YtbgiihoaldolfaaGreatCAo
set_option linter.unusedSectionVars false
set_option linter.unusedVariables false
set_option linter.unusedSimpArgs false
set_option maxHeartbeats 1000000
namespace Go.Ab
open Go Go.Proofs
def phC (col:List UInt8) (v:Bool×Int):Phase:={ Color:=bif v.1 then col else[],Length:=v.2 }
theorem ype {ρ α:Type} (g:Nat->α) {b:Nat->List α->Except ρ (List α)} (hb:∀ i s,b i s=.ok (s++[g i])) (n:Nat):ye b (n-0) 0 []=.ok ((List.range n).map g):=by
 obtain⟨t,h1,h2⟩:=ym (b:=b) (fun j s=>s=(List.range j).map g) (k:=n-0) (i:=0) (s:=[]) rfl (by
  rintro j _ _ _ rfl
  refine⟨_,hb _ _,?_⟩;rw[List.range_succ,List.map_append]
  rfl)
 rw[h1,h2,show 0+(n-0)=n by omega]
theorem y4c (c:Character):∃ K:List (Bool×Int),∀ col,zf c col=K.map (phC col):=by
 cases h1:(c.Kind == 1)with
 | true=>exact⟨[(true,10)],fun col=>by unfold zf;rw[h1];rfl⟩
 | false=>
  cases h3:(c.Kind == 3)with
  | true=>exact⟨[(true,IntKind.wrap .i64 (c.Period.tdiv 2)),(false,IntKind.wrap .i64 (c.Period.tdiv 2))],fun col=>by unfold zf;rw[h1,h3];rfl⟩
  | false=>
   cases hs:zhb c with
   | true=>
    refine⟨(List.range ((za c).length+1)).map fun(i:Nat)=>(((((i:Int).tmod 2) == 1) == (c.Kind == 2)),((za c)++([(zu c.Kind)]:List Int)).getD i default),fun col => ?_⟩;unfold zf;rw[h1,h3,hs];simp only[cond_false,cond_true]
    rw[ype (fun(i:Nat)=>phC col (((((i:Int).tmod 2) == 1) == (c.Kind == 2)),((za c)++([(zu c.Kind)]:List Int)).getD i default)) (b:=ysh c col) (fun i s=>by
     unfold ysh phC
     cases((((i:Int).tmod 2) == 1) == (c.Kind == 2))<;>rfl)]
    rw[List.map_map];rfl
   | false=>
    refine⟨(List.range ((za c).length+1)).map fun(i:Nat)=>(((((i:Int).tmod 2) == 1) == (c.Kind == 2)),((za c)++([IntKind.wrap .i64 (c.Period-(zcb (za c)))]:List Int)).getD i default),fun col => ?_⟩;unfold zf;rw[h1,h3,hs];simp only[cond_false,cond_true]
    rw[ype (fun(i:Nat)=>phC col (((((i:Int).tmod 2) == 1) == (c.Kind == 2)),((za c)++([IntKind.wrap .i64 (c.Period-(zcb (za c)))]:List Int)).getD i default)) (b:=yxk c col) (fun i s=>by
     unfold yxk phC
     cases((((i:Int).tmod 2) == 1) == (c.Kind == 2))<;>rfl)]
    rw[List.map_map];rfl
theorem yuh (x:UInt8) (K:List (Bool×Int)):One x (K.map (phC [x])):=fun v hv=>by
 obtain⟨w,_,rfl⟩:=List.mem_map.1 hv;unfold phC
 cases w.1 with
 | true=>exact .inr rfl
 | false=>exact .inl rfl
theorem yyt (x y:UInt8) (K:List (Bool×Int)):tenB (K.map (phC [x]))=tenB (K.map (phC [y])):=by
 unfold tenB;rw[List.flatMap_map,List.flatMap_map];congr 1
 funext v
 unfold phC;cases v.1<;>rfl
theorem yng {c:Character} (h:zg c=true):∃ R:List Bool,R.length<=1000000/\∀ x:UInt8,x.toNat≠0->zo (zf c [x])=R.map (cs x):=by
 obtain⟨K,hK⟩:=y4c c;have hp:∀ x:UInt8,PhOk (zf c [x]):=fun x=>yhc h (by simp)
 obtain⟨R,e,hN⟩:=y9j (x:=1) (by decide) (hp 1) (by rw[hK];exact yuh 1 K);have hl:=ymf (hp 1);have hl2:=y9f (hp 1);rw[e,List.length_map]at hl;refine⟨R,by omega,fun x hx => ?_⟩;obtain⟨R',e',hN'⟩:=y9j hx (hp x) (by rw[hK];exact yuh x K);rw[e',ymm hN (R':=R') (by rw[hK,yyt 1 x K, <- hK];exact hN')]
theorem y2r {a b:Character} {w:Int} (ha:zg a=true) (hb:zg b=true) (hw:0<=w/\w<=20):∃ P:Prop,∀ x:UInt8,x.toNat≠0->(zab (zf a [x]) (zf b [x]) w=true↔P)/\(ztb (zf a [x]) (zf b [x]) w=true↔P):=by
 obtain⟨Ra,la,ea⟩:=yng ha;obtain⟨Rb,lb,eb⟩:=yng hb;refine⟨CloB (yug Ra) (yug Rb) w,fun x hx => ?_⟩;obtain⟨Ka,hKa⟩:=y4c a;obtain⟨Kb,hKb⟩:=y4c b;obtain⟨ja,ja2,ja3⟩:=y0g x la;obtain⟨jb,jb2,jb3⟩:=y0g x lb;have sa:Sm (yug Ra):=⟨by omega,fun v hv=>by have:=ja3 v hv;omega⟩
 have sb:Sm (yug Rb):=⟨by omega,fun v hv=>by have:=jb3 v hv;omega⟩
 have iA:zn (zo (zf a [x]))=(yug Ra).map (phB x):=by rw[ea x hx,ja]
 have iB:zn (zo (zf b [x]))=(yug Rb).map (phB x):=by rw[eb x hx,jb]
 have nA:=ymh hx (yhc (col:=[x]) ha (by simp)) (by rw[hKa];exact yuh x Ka);have nB:=ymh hx (yhc (col:=[x]) hb (by simp)) (by rw[hKb];exact yuh x Kb);exact⟨yxm (nA.trans iA) (nB.trans iB) sa sb hw,y9w iA iB sa sb⟩
theorem y2o {b:Nat->List Int->Except (List Int) (List Int)} (i:Nat) (hb:∀ j s,∃ t,b j s=.ok t/\t.length=s.length+(if i=0/\j=0 then 1 else 2)) (n:Nat) (s:List Int) :
  ∃ t,ye b (n-0) 0 s=.ok t/\t.length=s.length+2 * n-(if i=0/\0<n then 1 else 0):=by
 obtain⟨t,h1,h2⟩:=ym (b:=b) (fun j t=>t.length=s.length+2 * j-(if i=0/\0<j then 1 else 0)) (k:=n-0) (i:=0) (s:=s) (by simp) (by
  intro j t _ _ ht;obtain⟨u,e1,e2⟩:=hb j t;refine⟨u,e1,?_⟩;rw[e2,ht]
  (repeat' split)<;>omega)
 exact⟨t,h1,by rw[h2,show 0+(n-0)=n by omega]⟩
theorem y7t:∀ k:Fin 26,1<=(zbb (65+(k.val:Int))).length:=by decide +kernel
theorem y1t {c:Character} (h:zg c=true):(za c).length % 2=1:=by
 obtain⟨g1,g2,g3⟩:=yhg h
 have fin:∀ {s:List Int},s.length % 2=1->(bif (c.Letter == [76])then s++([(zu c.Kind),20]:List Int)else s).length % 2=1:=fun {s} h=>by
  cases(c.Letter == [76])with
  | true=>rw[cond_true,List.length_append];simp only[List.length_cons,List.length_nil];omega
  | false=>exact h
 unfold za
 cases h8:(c.Kind == 8)with
 | true=>
  obtain⟨l1,l2,l3⟩:=g3 (by simpa using h8);have hm:=y7t ⟨(c.Letter.getD 0 0).toNat-65,by omega⟩;rw[show(65:Int)+(((c.Letter.getD 0 0).toNat-65:Nat):Int)=((c.Letter.getD 0 0).toNat:Int)by omega]at hm
  obtain⟨t,h1,h2⟩:=ym (b:=yyk c) (fun j t=>t.length=2 * j-(if 0<j then 1 else 0)) (k:=(zbb ((c.Letter.getD 0 0).toNat:Int)).length-0) (i:=0) (s:=[]) (by simp) (by
   intro j t _ hj ht;unfold yyk;by_cases h0:j=0
   ·subst h0
    exact⟨_,rfl,by simp at ht;simp[ht]⟩
   ·rw[decide_eq_true (show(0:Int)<(j:Int)by omega),cond_true]
    refine⟨_,rfl,?_⟩;rw[if_pos (by omega)]at ht;rw[if_pos (by omega),List.length_append,List.length_append,List.length_singleton,List.length_singleton,ht]
    omega)
  rw[cond_true,h1];simp only;rw[h2,if_pos (by omega)];omega
 | false=>
  rw[cond_false]
  cases hz:((c.Group.length:Int) == 0)with
  | true=>
   rw[cond_true]
   obtain⟨u,e1,e2⟩:=y2o (b:=yjk c 0 []) 0 (fun j s=>by
    unfold yjk;by_cases h0:j=0
    ·subst h0;exact⟨_,rfl,by simp⟩
    ·rw[decide_eq_true (show(0:Int)<(j:Int)by omega),cond_true]
     exact⟨_,rfl,by rw[if_neg (fun h=>h0 h.2)];simp⟩) 1 []
   have e4:yyh c 0 []=.ok u:=by
    unfold yyh;rw[show(([1]:List Int).getD 0 default).toNat=1 from rfl,e1]
   have e3:ye (yyh c) (1-0) 0 []=.ok u:=by
    simp only[show(1-0)=0+1 from rfl,ye,e4]
   rw[e3];simp only;exact fin (by rw[e2];simp)
  | false=>
   rw[cond_false];have hg0:1<=c.Group.length:=by rw[beq_eq_false_iff_ne]at hz;omega
   obtain⟨t,h1,h2⟩:=ym (b:=y0k c) (fun j t=>(j=0->t.length=0)/\(1<=j->t.length % 2=1)) (k:=c.Group.length-0) (i:=0) (s:=[]) ⟨fun _=>rfl,fun h=>by omega⟩ (by
    intro j t _ hj ⟨i1,i2⟩;have hx:=g2 _ (yz (l:=c.Group) (i:=j) (by omega))
    obtain⟨u,e1,e2⟩:=y2o (b:=ywk c j t) j (fun q s=>by
     unfold ywk;by_cases h0:q=0
     ·subst h0
      by_cases hj0:j=0
      ·subst hj0;exact⟨_,rfl,by simp⟩
      ·rw[decide_eq_false (by decide),cond_false,decide_eq_true (show(0:Int)<(j:Int)by omega),cond_true]
       exact⟨_,rfl,by rw[if_neg (fun h=>hj0 h.1)];simp⟩
     ·rw[decide_eq_true (show(0:Int)<(q:Int)by omega),cond_true]
      exact⟨_,rfl,by rw[if_neg (fun h=>h0 h.2)];simp⟩) (c.Group.getD j default).toNat t
    unfold y0k;rw[e1];refine⟨_,rfl,fun h=>by omega,fun _ => ?_⟩;rw[e2];by_cases hj0:j=0
    ·rw[if_pos ⟨hj0,by omega⟩,i1 hj0];omega
    ·have:=i2 (by omega)
     rw[if_neg (fun h=>hj0 h.1)];omega)
   rw[h1];exact fin (h2.2 (by omega))
theorem ym1 (i:Nat):(((i:Int).tmod 2) == 0) = !(((i:Int).tmod 2) == 1):=by
 rw[Int.tmod_eq_emod_of_nonneg (by omega)];have h:(i:Int) % 2=0\/(i:Int) % 2=1:=by omega
 rcases h with h|h<;>rw[h]<;>rfl
theorem ydq {c:Character} (h:zg c=true) (h1:(c.Kind == 1)=false) (hs:zhb c=true):za c=[zsb c.Kind]:=by
 have hk:(c.Kind=6\/c.Kind=7)/\c.Group.length=0:=by
  unfold zhb at hs;rw[h1]at hs;simp at hs
  exact⟨hs.1,by rw[hs.2];rfl⟩
 have hL:(c.Letter == [76])=false:=by
  have hsh:=yxd h;unfold zoc at hsh
  cases hL:(c.Letter == [76])with
  | false=>rfl
  | true=>
   exfalso;rw[hL]at hsh;rcases hk.1 with k|k<;>simp[k,hk.2]at hsh
 have h8:(c.Kind == 8)=false:=by rw[beq_eq_false_iff_ne];omega
 have e1:ye (yjk c 0 []) (1-0) 0 []=.ok [zsb c.Kind]:=rfl
 have e4:yyh c 0 []=.ok [zsb c.Kind]:=by
  unfold yyh;rw[show(([1]:List Int).getD 0 default).toNat=1 from rfl,e1]
 unfold za;rw[h8,hL,show((c.Group.length:Int) == 0)=true by rw[hk.2];rfl];simp only[cond_false,cond_true,show(1-0)=0+1 from rfl,ye,e4]
theorem ybp {c:Character} {col:List UInt8} (h:zg c=true) (hb:bdCharacter c):zv c col=zf c col:=by
 unfold zv zf
 cases h1:(c.Kind == 1)with
 | true=>cases(c.Kind == 2)<;>rfl
 | false=>
  cases h3:(c.Kind == 3)with
  | true=>cases(c.Kind == 2)<;>rfl
  | false=>
   rw[ymg];simp only[cond_false]
   cases hs:zhb c with
   | true=>
    have hk:c.Kind=6\/c.Kind=7:=by
     unfold zhb at hs;rw[h1]at hs;simp at hs;omega
    have hr:=ywj c.Kind (by omega);have h2:(c.Kind == 2)=false:=by rw[beq_eq_false_iff_ne];omega
    have hq:=ydq h h1 hs;simp only[cond_true];rw[hq,hr.1,hr.2,h2]
    have s0:∀ s,ysh c col 0 s=.ok (s++[{ Color:=col,Length:=zsb c.Kind }]):=fun s=>by
     unfold ysh;rw[hq,h2];rfl
    have s1:∀ s,ysh c col 1 s=.ok (s++[{ Color:=[],Length:=zu c.Kind }]):=fun s=>by
     unfold ysh;rw[hq,h2];rfl
    show _=match ye (ysh c col) (1+1) 0 []with|.error e=>e|.ok s1=>s1
    simp only[ye,s0,s1];rfl
   | false=>
    have he:=(ylk h hb (by simpa using h1) (by simpa using h3)).1;have ho:=y1t h;simp only[cond_false];rw[yiv,he]
    have hodd:(((za c).length:Int).tmod 2 == 1)=true:=by
     rw[Int.tmod_eq_emod_of_nonneg (by omega),beq_iff_eq];omega
    rw[ype (fun(i:Nat)=>phC col (((((i:Int).tmod 2) == 1) == (c.Kind == 2)),((za c)++([IntKind.wrap .i64 (c.Period-(zcb (za c)))]:List Int)).getD i default)) (b:=yxk c col) (fun i s=>by
     unfold yxk phC
     cases((((i:Int).tmod 2) == 1) == (c.Kind == 2))<;>rfl)]
    simp only;rw[List.range_succ,List.map_append]
    have hlast:(za c++([IntKind.wrap .i64 (c.Period-zcb (za c))]:List Int)).getD (za c).length default=IntKind.wrap .i64 (c.Period-zcb (za c)):=by
     rw[List.getD_eq_getElem?_getD,List.getElem?_append_right (Nat.le_refl _),Nat.sub_self];rfl
    have hin:∀ i,i<(za c).length->(za c++([IntKind.wrap .i64 (c.Period-zcb (za c))]:List Int)).getD i default=(za c).getD i default:=fun i hi=>by
     rw[List.getD_eq_getElem?_getD,List.getElem?_append_left hi, <- List.getD_eq_getElem?_getD]
    simp only[List.map_cons,List.map_nil];rw[hlast,hodd]
    cases h2:(c.Kind == 2)with
    | true=>
     simp only[cond_true,cond_false]
     rw[ype (fun(i:Nat)=>phC col ((((i:Int).tmod 2) == 1),(za c).getD i default)) (b:=yxn c col) (fun i s=>by
      unfold yxn phC;rw[ym1,he]
      cases(((i:Int).tmod 2) == 1)<;>rfl)]
     simp only;congr 1
     refine List.map_congr_left fun i hi => ?_
     rw[List.mem_range]at hi;rw[hin i hi];cases(((i:Int).tmod 2) == 1)<;>rfl
    | false=>
     simp only[cond_true,cond_false]
     rw[ype (fun(i:Nat)=>phC col ((!(((i:Int).tmod 2) == 1)),(za c).getD i default)) (b:=yfp c col) (fun i s=>by
      unfold yfp phC;rw[ym1,he]
      cases(((i:Int).tmod 2) == 1)<;>rfl)]
     simp only;congr 1
     refine List.map_congr_left fun i hi => ?_
     rw[List.mem_range]at hi;rw[hin i hi];cases(((i:Int).tmod 2) == 1)<;>rfl
def yxf (a0:Character) (a1:Character) (a2:Int) (i1:Nat) (s1:Unit):Except (Bool) (Unit):=
 (bif (zxc a1.Colors ((a0.Colors.take ((IntKind.wrap .i64 ((i1:Int)+1)).toNat)).drop i1))then .error (zab (zf a0 ((a0.Colors.take ((IntKind.wrap .i64 ((i1:Int)+1)).toNat)).drop i1)) (zf a1 ((a0.Colors.take ((IntKind.wrap .i64 ((i1:Int)+1)).toNat)).drop i1)) a2)else .ok ())
def zmb (a0:Character) (a1:Character) (a2:Int):Bool:=
 (match ye (yxf a0 a1 a2) (a0.Colors.length-0) 0 ()with|.error e=>e|.ok s1=>false)
namespace N51
theorem DD:DOk Tryz.prog (Go.Ab.DD [(63,dP D_zxc),(64,dP D_zab),(65,dP D_zf)]):=yd y9x.e <| yd yyx.e <| yd yl0.e <| yj _
theorem dn:type_of% (And.intro @D_zxc.eq_1 <| And.intro @D_zab.eq_1 <| @D_zf.eq_1):=by and_intros<;>intros<;>rfl
theorem o0 {p:Prop} (h:p:=by(first|((repeat' with_reducible apply And.intro)<;>first|with_reducible exact hp0|with_reducible exact hp1|with_reducible exact hp2|with_reducible exact hp3|with_reducible exact Nat.le_refl _|with_reducible exact hcl i1|with_reducible exact hsa _ (hcl i1)|with_reducible exact hsb _ (hcl i1)|omega|(rw[IntKind.wrap_i64];omega)));first|done|fail):p:=h
set_option maxHeartbeats 2000000 in
set_option maxRecDepth 20000 in
theorem den (a0:Character) (a1:Character) (a2:Int) (hp0:zg a0=true) (hp1:zg a1=true) (hp2:bdCharacter a0) (hp3:bdCharacter a1):Den Tryz.prog 51 [.ep (eCharacter a0),.ep (eCharacter a1),.int .i64 a2] (.bool (zmb a0 a1 a2)):=by
 generalize hR:zmb a0 a1 a2=r;unfold zmb at hR;refine di Tryz.func51 Tryz.ntmps51 Tryz.results51 ?_;intro c hL hc hk;obtain⟨hL0,hL1,hL2,_⟩:=hL;have hw0:bwCharacter a0:=yf a0 hL0;have hw1:bwCharacter a1:=yf a1 hL1;clear hL0 hL1 hL2;simp only[pars,Nat.zero_add];have hcl:=fun(i:Nat)=>ywu (l:=a0.Colors) hp2.2.2 i
 have hsa:=fun(col:List UInt8) (h:col.length<=1)=>yhc (col:=col) hp0 h
 have hsb:=fun(col:List UInt8) (h:col.length<=1)=>yhc (col:=col) hp1 h
 iterate 2 refine rS ?_
 refine AWP.block ?_;generalize hz1:ye (yxf a0 a1 a2) (a0.Colors.length-0) 0 ()=z1 at hR;refine AWP.range (yxf a0 a1 a2) (fun i1 s1=>⟨[(0,.ep (eCharacter a0)),(1,.ep (eCharacter a1)),(2,.int .i64 a2),(7,.int .i64 (i1:Int))],[]⟩) (fun i1 s1=>True) (a0.Colors.length) 0 () [] hz1 ot wt sm ?_;clear hz1;intro i1 s1 hi1 hW1 hz1;refine rS ?_;refine AWP.cond rfl (fun hb => ?_) (fun hb => ?_)
 ·have hlt1:i1<a0.Colors.length:=ot
  rw[yg hlt1]at hz1;simp only[yxf]at hz1;iterate 2 refine rS ?_
  refine AWP.cond rfl (fun hb => ?_) (fun hb => ?_)
  ·simp only[hb,cond_true]at hz1
   refine rS ?_;refine AWP.ret ?_;subst hz1;dsimp only at hR;subst hR;exact es
  ·simp only[hb,cond_false]at hz1
   refine rS ?_;exact⟨_,[],hlt1,wt,hz1,sm⟩
 ·obtain rfl:i1=a0.Colors.length:=ot
  rw[yh (Nat.le_refl _)]at hz1;subst hz1;dsimp only at hR;refine AWP.exit ?_;refine yb ?_;refine rS ?_;refine AWP.ret ?_;subst hR;exact es
end N51
def D_zmb : DF
 | [x0,x1,x2]=>some (.bool (zmb (rdP ya x0) (rdP ya x1) (rdI x2)),false,[wP eCharacter ya x0,wP eCharacter ya x1,wI .i64 x2,zg (rdP ya x0)=true,zg (rdP ya x1)=true,bdCharacter (rdP ya x0),bdCharacter (rdP ya x1)])
 | _=>none
theorem yyy:OkD Tryz.prog 51 D_zmb:=by unfold D_zmb;exact dk N51.den
theorem yho {l:List UInt8} (hl:l.length<1099511627776) {i:Nat} (hi:i<l.length):((l.take (IntKind.wrap .i64 ((i:Int)+1)).toNat).drop i)=[l.getD i 0]:=by
 rw[show(IntKind.wrap .i64 ((i:Int)+1)).toNat=i+1 by rw[IntKind.wrap_i64];omega,List.drop_take,show i+1-i=1 by omega,List.getD_eq_getElem?_getD,List.getElem?_eq_getElem hi,Option.getD_some,List.drop_eq_getElem_cons hi];rfl
theorem ykn {s:List UInt8} (hl:s.length<1099511627776) (c:UInt8):zxc s [c]=decide (c∈s):=by
 unfold zxc;rcases yu (b:=ynn s [c]) (fun i=>(((s.take ((IntKind.wrap .i64 ((i:Int)+1)).toNat)).drop i) == [c])) (fun _=>true) (k:=s.length-0) (i:=0) (s:=()) (fun j u _ _=>rfl)with⟨j,_,h2,h3,_,h5⟩|⟨h1,h2⟩
 ·rw[h5]
  rw[yho hl (by omega:j<s.length)]at h3;have h4:=List.cons.inj (eq_of_beq h3);refine(decide_eq_true ?_).symm;rw[<- h4.1,List.getD_eq_getElem?_getD,List.getElem?_eq_getElem (by omega:j<s.length),Option.getD_some];exact List.getElem_mem _
 ·rw[h2]
  refine(decide_eq_false fun hc => ?_).symm;obtain⟨i,hi,rfl⟩:=List.getElem_of_mem hc;have h3:=h1 i (by omega) (by omega);rw[yho hl hi,List.getD_eq_getElem?_getD,List.getElem?_eq_getElem hi,Option.getD_some]at h3;simp at h3
theorem ykq {a b:Character} {w:Int} (ha:zg a=true) (hb:zg b=true) (ba:bdCharacter a) (bb:bdCharacter b) (hw:0<=w/\w<=20):zqb a b w=zmb a b w:=by
 obtain⟨P,hP⟩:=y2r ha hb hw;have hla:a.Colors.length<1099511627776:=ba.2.2;have hlb:b.Colors.length<1099511627776:=bb.2.2
 have hnz:∀ i,i<a.Colors.length->(a.Colors.getD i 0).toNat≠0:=fun i hi=>by
  have hm:a.Colors.getD i 0∈a.Colors:=by
   rw[List.getD_eq_getElem?_getD,List.getElem?_eq_getElem hi,Option.getD_some];exact List.getElem_mem _
  rcases(yrh ha).1 _ hm with h|h|h|h<;>rw[h]<;>decide
 have hI:∀ i,i<a.Colors.length->ygi a b w i ()=bif (decide (a.Colors.getD i 0∈b.Colors) && ztb (zf a [a.Colors.getD i 0]) (zf b [a.Colors.getD i 0]) w)then .error true else .ok ():=fun i hi=>by
  unfold ygi;rw[yho hla hi,yz0,ybp ha ba,ybp hb bb]
 have hS:∀ i,i<a.Colors.length->yxf a b w i ()=bif decide (a.Colors.getD i 0∈b.Colors)then .error (zab (zf a [a.Colors.getD i 0]) (zf b [a.Colors.getD i 0]) w)else .ok ():=fun i hi=>by
  unfold yxf;rw[yho hla hi,ykn hlb]
 unfold zqb zmb;rcases yu (b:=yxf a b w) (fun i=>decide (a.Colors.getD i 0∈b.Colors)) (fun i=>zab (zf a [a.Colors.getD i 0]) (zf b [a.Colors.getD i 0]) w) (k:=a.Colors.length-0) (i:=0) (s:=()) (fun j u _ h=>hS j (by omega))with⟨j,_,h2,h3,h4,h5⟩|⟨h1,h2⟩
 ·rw[h5]
  have hj:=hP _ (hnz j (by omega));rcases yu (b:=ygi a b w) (fun i=>(decide (a.Colors.getD i 0∈b.Colors) && ztb (zf a [a.Colors.getD i 0]) (zf b [a.Colors.getD i 0]) w)) (fun _=>true) (k:=a.Colors.length-0) (i:=0) (s:=()) (fun j u _ h=>hI j (by omega))with⟨q,_,g2,g3,_,g5⟩|⟨g1,g2⟩
  ·rw[g5]
   rw[Bool.and_eq_true]at g3;exact(hj.1.2 ((hP _ (hnz q (by omega))).2.1 g3.2)).symm
  ·rw[g2]
   have g3:=g1 j (by omega) (by omega);rw[h3,Bool.true_and]at g3
   cases hc:zab (zf a [a.Colors.getD j 0]) (zf b [a.Colors.getD j 0]) w with
   | false=>rfl
   | true=>
    rw[hj.2.2 (hj.1.1 hc)]at g3;cases g3
 ·rw[h2]
  rcases yu (b:=ygi a b w) (fun i=>(decide (a.Colors.getD i 0∈b.Colors) && ztb (zf a [a.Colors.getD i 0]) (zf b [a.Colors.getD i 0]) w)) (fun _=>true) (k:=a.Colors.length-0) (i:=0) (s:=()) (fun j u _ h=>hI j (by omega))with⟨q,_,g2,g3,_,g5⟩|⟨g1,g2⟩
  ·rw[h1 q (by omega) (by omega),Bool.false_and]at g3
   cases g3
  ·rw[g2]
def zvd (a0:Character):Bool:=
 (!(zxd a0))
namespace N54
theorem DD:DOk Tryz.prog (Go.Ab.DD [(55,dP D_zxd)]):=yd yny.e <| yj _
theorem dn:type_of% (@D_zxd.eq_1):=by and_intros<;>intros<;>rfl
theorem den (a0:Character) (hb0:bdCharacter a0):Den Tryz.prog 54 [.agg (eCharacter a0)] (.bool (zvd a0)):=by
 generalize hR:zvd a0=r;unfold zvd at hR;refine di Tryz.func54 Tryz.ntmps54 Tryz.results54 ?_;intro c hL hc hk;obtain⟨hL0,_⟩:=hL;have hw0:bwCharacter a0:=yf a0 hL0;clear hL0;simp only[pars,Nat.zero_add];iterate 2 refine rS ?_
 refine AWP.ret ?_;subst hR;exact es
end N54
def D_zvd : DF
 | [x0]=>some (.bool (zvd (rdG ya x0)),false,[wG eCharacter ya x0,bdCharacter (rdG ya x0)])
 | _=>none
theorem y3w:OkD Tryz.prog 54 D_zvd:=by unfold D_zvd;exact dk N54.den
def yzn (a0:(List Character)) (i1:Nat) (s1:Unit):Except (Int) (Unit):=
 (bif (zvd (a0.getD i1 default))then .error (i1:Int)else .ok ())
def zpc (a0:(List Character)):Int:=
 (match ye (yzn a0) (a0.length-0) 0 ()with|.error e=>e|.ok s1=>(-1))
namespace N_zpc
theorem DD:DOk Tryz.prog (Go.Ab.DD [(54,dP D_zvd)]):=yd y3w.e <| yj _
theorem dn:type_of% (@D_zvd.eq_1):=by and_intros<;>intros<;>rfl
theorem o1 {p:Prop} (h:p:=by(first|(apply yye<;>first|assumption|decide));first|done|fail):p:=h
theorem den (a0:(List Character)) (hp0:∀ v∈a0,bdCharacter v):Den Tryz.prog 67 [encL 5 eCharacter a0,.fn 54 0 []] (.int .i64 (zpc a0)):=by
 generalize hR:zpc a0=r;unfold zpc at hR;refine di Tryz.func67 Tryz.ntmps67 Tryz.results67 ?_;intro c hL hc hk;obtain⟨hL0,hL1,_⟩:=hL;have hw0:a0.length<9223372036854775808:=Nat.lt_succ_of_le (yc hL0).1;have hw1:∀ v∈a0,bwCharacter v:=fun v hv=>yf v ((yc hL0).2 v hv)
 clear hL0 hL1;simp only[pars,Nat.zero_add];iterate 2 refine rS ?_
 refine AWP.block ?_;generalize hz1:ye (yzn a0) (a0.length-0) 0 ()=z1 at hR;refine AWP.range (yzn a0) (fun i1 s1=>⟨[(0,encL 5 eCharacter a0),(1,.fn 54 0 []),(7,.int .i64 (a0.length:Int)),(8,.int .i64 (i1:Int))],[]⟩) (fun i1 s1=>True) (a0.length) 0 () [] hz1 ot wt sm ?_;clear hz1;intro i1 s1 hi1 hW1 hz1;refine rS ?_;refine AWP.seq ?_;refine AWP.cond rfl (fun hb => ?_) (fun hb => ?_)
 ·have hlt1:i1<a0.length:=ot
  rw[yg hlt1]at hz1;simp only[yzn]at hz1;iterate 2 refine rS ?_
  refine AWP.cond rfl (fun hb => ?_) (fun hb => ?_)
  ·simp only[hb,cond_true]at hz1
   refine rS ?_;refine AWP.ret ?_;subst hz1;dsimp only at hR;subst hR;exact es
  ·simp only[hb,cond_false]at hz1
   refine rS ?_;exact⟨_,[],hlt1,wt,hz1,sm⟩
 ·obtain rfl:i1=a0.length:=ot
  rw[yh (Nat.le_refl _)]at hz1;subst hz1;dsimp only at hR;refine AWP.exit ?_;refine yb ?_;refine rS ?_;refine AWP.ret ?_;subst hR;exact es
end N_zpc
def D_zpc : DF
 | [x0,(.fn f54_1 kf54_1 [])]=>some (.int .i64 (zpc (rdL ya x0)),false,[wL 5 eCharacter ya x0,f54_1=54,kf54_1=0,∀ v∈(rdL ya x0),bdCharacter v])
 | _=>none
theorem yxy:OkD Tryz.prog 67 D_zpc:=by
 intro xs r z ob h ho;unfold D_zpc at h;split at h
 ·simp only[Option.some.injEq,Prod.mk.injEq]at h
  obtain⟨rfl,rfl,rfl⟩:=h;obtain⟨h0,qf54_1,qkf54_1,hp0,_⟩:=ho;exact Den.sim (N_zpc.den _ hp0) (y5 (yte h0).1 <| y5 (by subst qf54_1 qkf54_1;exact yoc _) <| trivial) (y7 (yte h0).2 <| y7 (by rfl) <| rfl) rfl
 ·cases h
def znd (a0:(List Character)):Bool:=
 decide (0<=(zpc a0))
namespace N_znd
theorem DD:DOk Tryz.prog (Go.Ab.DD [(67,dP D_zpc)]):=yd yxy.e <| yj _
theorem dn:type_of% (@D_zpc.eq_1):=by and_intros<;>intros<;>rfl
theorem o1 {p:Prop} (h:p:=by(first|(apply yye<;>first|assumption|decide));first|done|fail):p:=h
theorem den (a0:(List Character)) (hp0:∀ v∈a0,bdCharacter v):Den Tryz.prog 53 [encL 5 eCharacter a0,.fn 54 0 []] (.bool (znd a0)):=by
 generalize hR:znd a0=r;unfold znd at hR;refine di Tryz.func53 Tryz.ntmps53 Tryz.results53 ?_;intro c hL hc hk;obtain⟨hL0,hL1,_⟩:=hL;have hw0:a0.length<9223372036854775808:=Nat.lt_succ_of_le (yc hL0).1;have hw1:∀ v∈a0,bwCharacter v:=fun v hv=>yf v ((yc hL0).2 v hv)
 clear hL0 hL1;simp only[pars,Nat.zero_add];iterate 2 refine rS ?_
 refine AWP.ret ?_;subst hR;exact es
end N_znd
def D_znd : DF
 | [x0,(.fn f54_1 kf54_1 [])]=>some (.bool (znd (rdL ya x0)),false,[wL 5 eCharacter ya x0,f54_1=54,kf54_1=0,∀ v∈(rdL ya x0),bdCharacter v])
 | _=>none
theorem yrw:OkD Tryz.prog 53 D_znd:=by
 intro xs r z ob h ho;unfold D_znd at h;split at h
 ·simp only[Option.some.injEq,Prod.mk.injEq]at h
  obtain⟨rfl,rfl,rfl⟩:=h;obtain⟨h0,qf54_1,qkf54_1,hp0,_⟩:=ho;exact Den.sim (N_znd.den _ hp0) (y5 (yte h0).1 <| y5 (by subst qf54_1 qkf54_1;exact yoc _) <| trivial) (y7 (yte h0).2 <| y7 (by rfl) <| rfl) rfl
 ·cases h
def zyd (a0:(List Character)):Bool:=
 (!(znd a0))
namespace N40
theorem DD:DOk Tryz.prog (Go.Ab.DD [(53,dP D_znd)]):=yd yrw.e <| yj _
theorem dn:type_of% (@D_znd.eq_1):=by and_intros<;>intros<;>rfl
theorem den (a0:(List Character)) (hb0:a0.length<1099511627776) (hb1:∀ v∈a0,bdCharacter v):Den Tryz.prog 40 [encL 5 eCharacter a0] (.bool (zyd a0)):=by
 generalize hR:zyd a0=r;unfold zyd at hR;refine di Tryz.func40 Tryz.ntmps40 Tryz.results40 ?_;intro c hL hc hk;obtain⟨hL0,_⟩:=hL;have hw0:a0.length<9223372036854775808:=Nat.lt_succ_of_le (yc hL0).1;have hw1:∀ v∈a0,bwCharacter v:=fun v hv=>yf v ((yc hL0).2 v hv)
 clear hL0;simp only[pars,Nat.zero_add];iterate 2 refine rS ?_
 refine AWP.ret ?_;subst hR;exact es
end N40
def D_zyd : DF
 | [x0]=>some (.bool (zyd (rdL ya x0)),false,[wL 5 eCharacter ya x0,(rdL ya x0).length<1099511627776,∀ v∈(rdL ya x0),bdCharacter v])
 | _=>none
theorem y2w:OkD Tryz.prog 40 D_zyd:=by unfold D_zyd;exact dk N40.den
def zyc (a0:(List (List Int))) (a1:Int) (a2:(List Character)) (a3:Int) (a4:Int):Int:=
 (bif ((!(zsc a0 a1)) || (!(zyd a2)))then 1 else(bif ((!(zae a3)) || (!(zh a4 1 20000)))then 2 else(bif (!(zad (a2.length:Int) 12))then 5 else 0)))
namespace N28
theorem DD:DOk Tryz.prog (Go.Ab.DD [(39,dP D_zsc),(40,dP D_zyd),(41,dP D_zae),(42,dP D_zh),(43,dP D_zad)]):=yd y3y.e <| yd y2w.e <| yd ysx.e <| yd yeg.e <| yd y5q.e <| yj _
theorem dn:type_of% (And.intro @D_zsc.eq_1 <| And.intro @D_zyd.eq_1 <| And.intro @D_zae.eq_1 <| And.intro @D_zh.eq_1 <| @D_zad.eq_1):=by and_intros<;>intros<;>rfl
theorem ol:type_of% (@zh.eq_1):=@zh.eq_1
theorem den (a0:(List (List Int))) (a1:Int) (a2:(List Character)) (a3:Int) (a4:Int) (hb0:a0.length<1099511627776) (hb1:∀ v∈a0,bdLIi64 v) (hb2:a2.length<1099511627776) (hb3:∀ v∈a2,bdCharacter v):Den Tryz.prog 28 [encL 1 yt a0,.int .i64 a1,encL 5 eCharacter a2,.int .i64 a3,.int .i64 a4] (.int .i64 (zyc a0 a1 a2 a3 a4)):=by
 generalize hR:zyc a0 a1 a2 a3 a4=r;unfold zyc at hR;refine di Tryz.func28 Tryz.ntmps28 Tryz.results28 ?_;intro c hL hc hk;obtain⟨hL0,hL1,hL2,hL3,hL4,_⟩:=hL;have hw0:a0.length<9223372036854775808:=Nat.lt_succ_of_le (yc hL0).1;have hw1:∀ v∈a0,bwLIi64 v:=fun v hv=>ynb v ((yc hL0).2 v hv)
 have hw2:a2.length<9223372036854775808:=Nat.lt_succ_of_le (yc hL2).1;have hw3:∀ v∈a2,bwCharacter v:=fun v hv=>yf v ((yc hL2).2 v hv)
 clear hL0 hL1 hL2 hL3 hL4;simp only[pars,Nat.zero_add];iterate 2 refine rS ?_
 refine AWP.cond rfl (fun hb => ?_) (fun hb => ?_)
 ·replace hR:=ct hR
  refine rS ?_;refine AWP.ret ?_;subst hR;exact es
 ·replace hR:=cf hR
  refine rS ?_;refine AWP.cond rfl (fun hb => ?_) (fun hb => ?_)
  ·replace hR:=ct hR
   refine rS ?_;refine AWP.ret ?_;subst hR;exact es
  ·replace hR:=cf hR
   refine rS ?_;refine AWP.cond rfl (fun hb => ?_) (fun hb => ?_)
   ·replace hR:=ct hR
    refine rS ?_;refine AWP.ret ?_;subst hR;exact es
   ·replace hR:=cf hR
    refine rS ?_;refine AWP.ret ?_;subst hR;exact es
end N28
def D_zyc : DF
 | [x0,x1,x2,x3,x4]=>some (.int .i64 (zyc (rdL yv x0) (rdI x1) (rdL ya x2) (rdI x3) (rdI x4)),false,[wL 1 yt yv x0,wI .i64 x1,wL 5 eCharacter ya x2,wI .i64 x3,wI .i64 x4,(rdL yv x0).length<1099511627776,∀ v∈(rdL yv x0),bdLIi64 v,(rdL ya x2).length<1099511627776,∀ v∈(rdL ya x2),bdCharacter v])
 | _=>none
theorem y3q:OkD Tryz.prog 28 D_zyc:=by unfold D_zyc;exact dk N28.den
def yhk (a0:(List Character)) (i1:Nat) (s1:Unit):Except (Bool) (Unit):=
 (bif (!(zg (a0.getD i1 default)))then .error false else .ok ())
def zfc (a0:(List Character)):Bool:=
 (match ye (yhk a0) (a0.length-0) 0 ()with|.error e=>e|.ok s1=>true)
namespace N35
theorem DD:DOk Tryz.prog (Go.Ab.DD [(50,dP D_zg)]):=yd yh0.e <| yj _
theorem dn:type_of% (@D_zg.eq_1):=by and_intros<;>intros<;>rfl
theorem den (a0:(List Character)) (hb0:a0.length<1099511627776) (hb1:∀ v∈a0,bdCharacter v):Den Tryz.prog 35 [encL 5 eCharacter a0] (.bool (zfc a0)):=by
 generalize hR:zfc a0=r;unfold zfc at hR;refine di Tryz.func35 Tryz.ntmps35 Tryz.results35 ?_;intro c hL hc hk;obtain⟨hL0,_⟩:=hL;have hw0:a0.length<9223372036854775808:=Nat.lt_succ_of_le (yc hL0).1;have hw1:∀ v∈a0,bwCharacter v:=fun v hv=>yf v ((yc hL0).2 v hv)
 clear hL0;simp only[pars,Nat.zero_add];iterate 2 refine rS ?_
 refine AWP.block ?_;generalize hz1:ye (yhk a0) (a0.length-0) 0 ()=z1 at hR;refine AWP.range (yhk a0) (fun i1 s1=>⟨[(0,encL 5 eCharacter a0),(3,.int .i64 (i1:Int))],[]⟩) (fun i1 s1=>True) (a0.length) 0 () [] hz1 ot wt sm ?_;clear hz1;intro i1 s1 hi1 hW1 hz1;refine rS ?_;refine AWP.cond rfl (fun hb => ?_) (fun hb => ?_)
 ·have hlt1:i1<a0.length:=ot
  rw[yg hlt1]at hz1;simp only[yhk]at hz1;refine rS ?_;refine AWP.cond rfl (fun hb => ?_) (fun hb => ?_)
  ·simp only[hb,cond_true]at hz1
   refine rS ?_;refine AWP.ret ?_;subst hz1;dsimp only at hR;subst hR;exact es
  ·simp only[hb,cond_false]at hz1
   refine rS ?_;exact⟨_,[],hlt1,wt,hz1,sm⟩
 ·obtain rfl:i1=a0.length:=ot
  rw[yh (Nat.le_refl _)]at hz1;subst hz1;dsimp only at hR;refine AWP.exit ?_;refine yb ?_;refine rS ?_;refine AWP.ret ?_;subst hR;exact es
end N35
def D_zfc : DF
 | [x0]=>some (.bool (zfc (rdL ya x0)),false,[wL 5 eCharacter ya x0,(rdL ya x0).length<1099511627776,∀ v∈(rdL ya x0),bdCharacter v])
 | _=>none
theorem yuy:OkD Tryz.prog 35 D_zfc:=by unfold D_zfc;exact dk N35.den
def zib (a0:(List (List Int))) (a1:Int) (a2:(List Character)) (a3:Int) (a4:Int):Int:=
 (bif ((!(zxb a0 a1)) || (!(zfc a2)))then 1 else(bif ((!(zud a3)) || (!(zd a4 1 20000)))then 2 else(bif decide (12<(a2.length:Int))then 5 else 0)))
namespace N22
theorem DD:DOk Tryz.prog (Go.Ab.DD [(34,dP D_zxb),(35,dP D_zfc),(36,dP D_zud),(37,dP D_zd)]):=yd yry.e <| yd yuy.e <| yd yzw.e <| yd y4f.e <| yj _
theorem dn:type_of% (And.intro @D_zxb.eq_1 <| And.intro @D_zfc.eq_1 <| And.intro @D_zud.eq_1 <| @D_zd.eq_1):=by and_intros<;>intros<;>rfl
theorem ol:type_of% (@zd.eq_1):=@zd.eq_1
theorem den (a0:(List (List Int))) (a1:Int) (a2:(List Character)) (a3:Int) (a4:Int) (hb0:a0.length<1099511627776) (hb1:∀ v∈a0,bdLIi64 v) (hb2:a2.length<1099511627776) (hb3:∀ v∈a2,bdCharacter v):Den Tryz.prog 22 [encL 1 yt a0,.int .i64 a1,encL 5 eCharacter a2,.int .i64 a3,.int .i64 a4] (.int .i64 (zib a0 a1 a2 a3 a4)):=by
 generalize hR:zib a0 a1 a2 a3 a4=r;unfold zib at hR;refine di Tryz.func22 Tryz.ntmps22 Tryz.results22 ?_;intro c hL hc hk;obtain⟨hL0,hL1,hL2,hL3,hL4,_⟩:=hL;have hw0:a0.length<9223372036854775808:=Nat.lt_succ_of_le (yc hL0).1;have hw1:∀ v∈a0,bwLIi64 v:=fun v hv=>ynb v ((yc hL0).2 v hv)
 have hw2:a2.length<9223372036854775808:=Nat.lt_succ_of_le (yc hL2).1;have hw3:∀ v∈a2,bwCharacter v:=fun v hv=>yf v ((yc hL2).2 v hv)
 clear hL0 hL1 hL2 hL3 hL4;simp only[pars,Nat.zero_add];iterate 2 refine rS ?_
 refine AWP.cond rfl (fun hb => ?_) (fun hb => ?_)
 ·replace hR:=ct hR
  refine rS ?_;refine AWP.ret ?_;subst hR;exact es
 ·replace hR:=cf hR
  refine rS ?_;refine AWP.cond rfl (fun hb => ?_) (fun hb => ?_)
  ·replace hR:=ct hR
   refine rS ?_;refine AWP.ret ?_;subst hR;exact es
  ·replace hR:=cf hR
   refine rS ?_;refine AWP.cond rfl (fun hb => ?_) (fun hb => ?_)
   ·replace hR:=ct hR
    refine rS ?_;refine AWP.ret ?_;subst hR;exact es
   ·replace hR:=cf hR
    refine rS ?_;refine AWP.ret ?_;subst hR;exact es
end N22
def D_zib : DF
 | [x0,x1,x2,x3,x4]=>some (.int .i64 (zib (rdL yv x0) (rdI x1) (rdL ya x2) (rdI x3) (rdI x4)),false,[wL 1 yt yv x0,wI .i64 x1,wL 5 eCharacter ya x2,wI .i64 x3,wI .i64 x4,(rdL yv x0).length<1099511627776,∀ v∈(rdL yv x0),bdLIi64 v,(rdL ya x2).length<1099511627776,∀ v∈(rdL ya x2),bdCharacter v])
 | _=>none
theorem yfr:OkD Tryz.prog 22 D_zib:=by unfold D_zib;exact dk N22.den
def yzv (a0:(List Character)) (a1:Int) (i1:Nat) (s1:List (List Bool)) (i2:Nat) (s2:List Bool):Except ((List (List Bool))) (List Bool):=
 .ok (s2++[(((i1:Int) == (i2:Int)) || (zmb (a0.getD i1 default) (a0.getD i2 default) a1))])
def yuv (a0:(List Character)) (a1:Int) (i1:Nat) (s1:List (List Bool)):Except ((List (List Bool))) (List (List Bool)):=
 (match ye (yzv a0 a1 i1 s1) (a0.length-0) 0 ([]:List Bool)with|.error e=>.error e|.ok s2=>.ok (s1++[s2]))
def zj (a0:(List Character)) (a1:Int):(List (List Bool)):=
 (match ye (yuv a0 a1) (a0.length-0) 0 ([]:List (List Bool))with|.error e=>e|.ok s1=>s1)
namespace N38
theorem DD:DOk Tryz.prog (Go.Ab.DD [(51,dP D_zmb)]):=yd yyy.e <| yj _
theorem dn:type_of% (@D_zmb.eq_1):=by and_intros<;>intros<;>rfl
theorem o1 {p:Prop} (h:p:=by(first|(first|exact(hat _ (by first|assumption|omega)).1|exact(hat _ (by first|assumption|omega)).2));first|done|fail):p:=h
set_option maxHeartbeats 2000000 in
set_option maxRecDepth 20000 in
theorem den (a0:(List Character)) (a1:Int) (hp0:a0.length<=12) (hp1:∀ v∈a0,zg v=true/\bdCharacter v):Den Tryz.prog 38 [encL 5 eCharacter a0,.int .i64 a1] (ownL 68 1 eLBO (zj a0 a1)):=by
 generalize hR:zj a0 a1=r;unfold zj at hR;refine di Tryz.func38 Tryz.ntmps38 Tryz.results38 ?_;intro c hL hc hk;obtain⟨hL0,hL1,_⟩:=hL;have hw0:a0.length<9223372036854775808:=Nat.lt_succ_of_le (yc hL0).1;have hw1:∀ v∈a0,bwCharacter v:=fun v hv=>yf v ((yc hL0).2 v hv)
 clear hL0 hL1;simp only[pars,Nat.zero_add];have hat:=fun(i:Nat) (h:i<a0.length)=>hp1 _ (yz h)
 iterate 3 refine rS ?_
 refine AWP.block ?_;generalize hz1:ye (yuv a0 a1) (a0.length-0) 0 ([]:List (List Bool))=z1 at hR;refine AWP.range (yuv a0 a1) (fun i1 s1=>⟨[(0,encL 5 eCharacter a0),(1,.int .i64 a1),(5,.ref 0 1 0 s1.length),(6,.int .i64 (i1:Int))],[.arr 68 1 s1.length (fun j=>eLBO (s1.getD j default))]⟩) (fun i1 s1=>s1.length<=([]:List (List Bool)).length+1 * i1) (a0.length) 0 ([]:List (List Bool)) [0] hz1 ot wt sm ?_;clear hz1;intro i1 s1 hi1 hW1 hz1;refine rS ?_;refine AWP.cond rfl (fun hb => ?_) (fun hb => ?_)
 ·have hlt1:i1<a0.length:=ot
  rw[yg hlt1]at hz1;simp only[yuv]at hz1;iterate 2 refine rS ?_
  refine AWP.block ?_;generalize hz2:ye (yzv a0 a1 i1 s1) (a0.length-0) 0 ([]:List Bool)=z2 at hz1;refine AWP.range (yzv a0 a1 i1 s1) (fun i2 s2=>⟨[(0,encL 5 eCharacter a0),(1,.int .i64 a1),(5,.ref 0 1 0 s1.length),(6,.int .i64 (i1:Int)),(7,.ref 1 1 0 s2.length),(8,.int .i64 (i2:Int))],[.arr 68 1 s1.length (fun j=>eLBO (s1.getD j default)),.arr 4 1 s2.length (fun j=>eB (s2.getD j default))]⟩) (fun i2 s2=>s2.length<=([]:List Bool).length+1 * i2) (a0.length) 0 ([]:List Bool) [0,1] hz2 ot wt sm ?_;clear hz2;intro i2 s2 hi2 hW2 hz2;refine rS ?_;refine AWP.cond rfl (fun hb => ?_) (fun hb => ?_)
  ·have hlt2:i2<a0.length:=ot
   rw[yg hlt2]at hz2;simp only[yzv]at hz2;refine AWP.skip ?_;refine AWP.seq ?_;refine AWP.block ?_;refine AWP.regP mixed G_ok DD hc 15 [0,1,2,3,4,5,6,7,8,9,10,11,12,13] (.alt 14 [] [0] .leaf .stop) (by kernel_rfl) (by kernel_rfl) (by kernel_rfl) (fun K hK => ?_);simp only[yjj,runN,runP,yec,nthO,ea,absV,absVL,cput,gv,sv,dn,reduceCtorEq,reduceIte,Nat.reduceBEq,Nat.reduceAdd,Nat.reduceEqDiff,Nat.reduceLT,Nat.reduceLeDiff,Nat.reduceMul,Nat.reduceSub,BEq.rfl,beq_self_eq_true,Int.reduceToNat];repeat' apply And.intro
   all_goals first|refine hK _ ?_|exact ot
   all_goals clear hK K
   refine rS ?_;exact⟨_,[0,3],hlt2,wt,hz2,sm⟩
  ·obtain rfl:i2=a0.length:=ot
   rw[yh (Nat.le_refl _)]at hz2;subst hz2;dsimp only at hz1;refine AWP.exit ?_;refine yb ?_;iterate 2 refine rS ?_
   exact⟨_,[3],hlt1,wt,hz1,sm⟩
 ·obtain rfl:i1=a0.length:=ot
  rw[yh (Nat.le_refl _)]at hz1;subst hz1;dsimp only at hR;refine AWP.exit ?_;refine yb ?_;refine rS ?_;refine AWP.ret ?_;subst hR;exact es
end N38
def D_zj : DF
 | [x0,x1]=>some (ownL 68 1 eLBO (zj (rdL ya x0) (rdI x1)),false,[wL 5 eCharacter ya x0,wI .i64 x1,(rdL ya x0).length<=12,∀ v∈(rdL ya x0),zg v=true/\bdCharacter v])
 | _=>none
theorem y30:OkD Tryz.prog 38 D_zj:=by unfold D_zj;exact dk N38.den
theorem yky {a0:List (List Int)} {a1:Int} (h:zxb a0 a1=true):PairsOk a1 a0:=by
 unfold zxb at h
 cases hc:(!(zd a1 0 24))with
 | true=>rw[hc]at h;cases h
 | false=>
  rw[hc,cond_false]at h;simp only[zd,Bool.not_eq_false',Bool.and_eq_true,decide_eq_true_eq]at hc
  rcases yu (b := yii a0 a1) (fun i => (((((a0.getD i default).length : Int) != 2) || (!(zd ((a0.getD i default).getD 0 default) 0 (IntKind.wrap .i64 (a1 - 1))))) || (!(zd ((a0.getD i default).getD 1 default) (IntKind.wrap .i64 (((a0.getD i default).getD 0 default) + 1)) (IntKind.wrap .i64 (a1 - 1))))) || (decide (0 < (i : Int)) && (decide (((a0.getD i default).getD 0 default) < ((a0.getD ((IntKind.wrap .i64 ((i : Int) - 1)).toNat) default).getD 0 default)) || ((((a0.getD ((IntKind.wrap .i64 ((i : Int) - 1)).toNat) default).getD 0 default) == ((a0.getD i default).getD 0 default)) && decide (((a0.getD i default).getD 1 default) <= ((a0.getD ((IntKind.wrap .i64 ((i : Int) - 1)).toNat) default).getD 1 default))))))
   (fun _=>false) (k:=a0.length-0) (i:=0) (s:=()) (fun j u _ _=>by
    unfold yii
    cases(((((a0.getD j default).length:Int) != 2) || (!(zd ((a0.getD j default).getD 0 default) 0 (IntKind.wrap .i64 (a1-1))))) || (!(zd ((a0.getD j default).getD 1 default) (IntKind.wrap .i64 (((a0.getD j default).getD 0 default)+1)) (IntKind.wrap .i64 (a1-1)))))<;>rfl)with⟨j,_,_,_,_,h5⟩|⟨h1,h2⟩
  ·rw[h5]at h;cases h
  ·refine⟨hc.1,hc.2,fun i hi => ?_⟩
   have h3:=h1 i (by omega) (by omega);rw[Bool.or_eq_false_iff]at h3;have h4:=h3.1;simp only[Bool.or_eq_false_iff,bne_eq_false_iff_eq,Bool.not_eq_false',zd,Bool.and_eq_true,decide_eq_true_eq]at h4;obtain⟨⟨g1,g2⟩,g3⟩:=h4;have w1:IntKind.wrap .i64 (a1-1)=a1-1:=by rw[IntKind.wrap_i64];omega
   rw[w1]at g2 g3;have w2:IntKind.wrap .i64 ((a0.getD i default).getD 0 default+1)=(a0.getD i default).getD 0 default+1:=by rw[IntKind.wrap_i64];omega
   rw[w2]at g3;exact⟨by omega,g2.1,by omega,by omega⟩
theorem y2s {a2:List Character} (h:zfc a2=true):∀ v∈a2,zg v=true:=by
 unfold zfc at h;rcases yu (b:=yhk a2) (fun i => !(zg (a2.getD i default))) (fun _=>false) (k:=a2.length-0) (i:=0) (s:=()) (fun j u _ _=>rfl)with⟨j,_,_,_,_,h5⟩|⟨h1,h2⟩
 ·rw[h5]at h;cases h
 ·intro v hv
  obtain⟨i,hi,rfl⟩:=List.getElem_of_mem hv;have h3:=h1 i (by omega) (by omega);rw[List.getD_eq_getElem?_getD,List.getElem?_eq_getElem hi,Option.getD_some]at h3;simpa using h3
structure AskOk (a0:List (List Int)) (a1:Int) (a2:List Character) (a3 a4:Int):Prop where
 pr:PairsOk a1 a0
 chs:∀ v∈a2,zg v=true
 tol:0<=a3/\a3<=20
 bud:1<=a4/\a4<=20000
 few:a2.length<=12
theorem yai {a0:List (List Int)} {a1:Int} {a2:List Character} {a3 a4:Int} (h:zib a0 a1 a2 a3 a4=0):AskOk a0 a1 a2 a3 a4:=by
 unfold zib at h
 cases h1:((!(zxb a0 a1)) || (!(zfc a2)))with
 | true=>rw[h1]at h;cases h
 | false=>
  cases h2:((!(zud a3)) || (!(zd a4 1 20000)))with
  | true=>rw[h1,h2]at h;cases h
  | false=>
   cases h3:decide (12<(a2.length:Int))with
   | true=>rw[h1,h2,h3]at h;cases h
   | false=>
    simp only[Bool.or_eq_false_iff,Bool.not_eq_false']at h1 h2;have h4:=h2.1;have h5:=h2.2;unfold zud at h4;simp only[zd,Bool.and_eq_true,decide_eq_true_eq]at h4 h5;have h6:=of_decide_eq_false h3;exact⟨yky h1.1,y2s h1.2,h4,h5,by omega⟩
theorem ydr {n : Nat} {a0 : List (List Int)} (hp : PairsOk n a0) : ∀ (q : Nat), q <= a0.length -> ∀ j, ∀ l ∈ ((a0.take q).foldl befS (List.replicate n (default : List Int))).getD j default, 0 <= l /\ l < (j : Int)
 | 0,_,j,l,hl=>by
  rw[List.take_zero,List.foldl_nil,yde]at hl;cases hl
 | q+1,hq,j,l,hl=>by
  have ih:=ydr hp q (by omega);obtain⟨r1,r2,r3,r4⟩:=hp.row q (by omega);rw[List.take_add_one,List.foldl_append,List.getElem?_eq_getElem (by omega:q<a0.length)]at hl;simp only[Option.toList_some,List.foldl_cons,List.foldl_nil]at hl;rw[show a0[q]=a0.getD q default by rw[List.getD_eq_getElem?_getD,List.getElem?_eq_getElem (by omega:q<a0.length),Option.getD_some]]at hl;generalize (a0.take q).foldl befS (List.replicate n (default:List Int))=B at ih hl;generalize a0.getD q default=p at *;unfold befS at hl;by_cases hjl:j<B.length
  ·by_cases hj:j=(p.getD 1 default).toNat
   ·rw[<- hj,yhd _ _ _ hjl]at hl
    rcases List.mem_append.1 hl with h|h
    ·exact ih j l h
    ·rw[List.mem_singleton]at h
     subst h;omega
   ·rw[yid _ _ _ _ hj]at hl
    exact ih j l hl
  ·rw[List.getD_eq_getElem?_getD,List.getElem?_eq_none (by rw[List.length_set];omega)]at hl
   cases hl
theorem yff (n:Nat) (a0:List (List Int)):(befP n a0).length=n:=by unfold befP;rw[yyi,List.length_replicate]
theorem ynj {n:Nat} {a0:List (List Int)} (hp:PairsOk n a0) (hl:a0.length<=1048576) (j:Nat):((befP n a0).getD j default).length<=1048576/\∀ l∈(befP n a0).getD j default,0<=l/\l<(j:Int):=by
 have h1:=y3i (List.replicate n (default:List Int)) (fun j=>by rw[yde];rfl) a0 a0.length j;have h2:=ydr hp a0.length (Nat.le_refl _) j;rw[List.take_length]at h1 h2;exact⟨by unfold befP;omega,h2⟩
theorem y3v {α β : Type} (g : α -> β) : ∀ l : List α, (l.flatMap fun x => [g x]) = l.map g
 | []=>rfl
 | x::l=>by rw[List.flatMap_cons,y3v g l,List.map_cons];rfl
def ytk (a2:List Character) (a3:Int) (i k:Nat):Bool:=((i:Int) == (k:Int)) || zmb (a2.getD i default) (a2.getD k default) a3
theorem y6k (a2:List Character) (a3:Int):zj a2 a3=(List.range' 0 a2.length).map fun(i:Nat)=>(List.range' 0 a2.length).map fun(k:Nat)=>ytk a2 a3 i k:=by
 unfold zj;rw[y2d (fun(i:Nat)=>[(List.range' 0 a2.length).map fun(k:Nat)=>ytk a2 a3 i k]) (a2.length-0) 0 [] (fun i s _ hi => ?_)]
 ·rw[y3v]
  rfl
 ·unfold yuv
  rw[y2d (b:=yzv a2 a3 i s) (fun(k:Nat)=>[ytk a2 a3 i k]) (a2.length-0) 0 [] (fun k s _ hk=>rfl),y3v];rfl
theorem ysd (a2:List Character) (a3:Int):(zj a2 a3).length=a2.length:=by rw[y6k,List.length_map,List.length_range']
theorem ybs {a2:List Character} {a3:Int} {i k:Nat} (hi:i<a2.length) (hk:k<a2.length):((zj a2 a3).getD i default).length=a2.length/\((zj a2 a3).getD i default).getD k default=ytk a2 a3 i k:=by
 have e1:(zj a2 a3).getD i default=(List.range' 0 a2.length).map fun(k:Nat)=>ytk a2 a3 i k:=by
  rw[y6k,List.getD_eq_getElem?_getD,List.getElem?_map,List.getElem?_range' hi];simp
 rw[e1];refine⟨by rw[List.length_map,List.length_range'],?_⟩;rw[List.getD_eq_getElem?_getD,List.getElem?_map,List.getElem?_range' hk];simp
theorem yez {n:Nat} {a0:List (List Int)} {a2:List Character} {a3 a4 ms:Int} (hp:PairsOk n a0) (hl:a0.length<=1048576) (hm:a2.length<=12) (hb:0<=a4/\a4<=20000) (hms:0<=ms/\ms<=12):RunOk (befP n a0) (zj a2 a3) ms a4:=by
 have h1:=hp.n1;refine⟨by rw[yff];omega,by rw[ysd];exact hm,fun j _=>ynj hp hl j,fun j hj => ?_,hms.1,hms.2,hb.1,hb.2⟩;rw[ysd]at hj ⊢;exact(ybs hj hj).1
theorem ypq (a2:List Character) (a3:Int):(clP a2 a3).length=144:=yjq _ _ (yzh _ _)
theorem ymz {n:Nat} {a0:List (List Int)} {a2:List Character} {a3:Int} (hp:PairsOk n a0) (hl:a0.length<=1048576) (hm:a2.length<=12):ChoOk n a2.length (befP n a0) (clP a2 a3):=
 ⟨hp.n0,hp.n1,by omega,by omega,by rw[yff],ypq a2 a3,fun j _=>ynj hp hl j⟩
theorem y1p {a2:List Character} (hb:∀ v∈a2,bdCharacter v):zyd a2=zfc a2:=by
 have hat:∀ i,i<a2.length->zvd (a2.getD i default) = !(zg (a2.getD i default)):=fun i hi=>by
  unfold zvd;have h:(a2.getD i default).Colors.length<1099511627776:=(hb _ (yz hi)).2.2;rw[y6x _ (by omega)]
 unfold zyd znd zpc zfc;rcases yu (b:=yzn a2) (fun i=>zvd (a2.getD i default)) (fun i=>(i:Int)) (k:=a2.length-0) (i:=0) (s:=()) (fun j u _ _=>rfl)with⟨j,_,h2,h3,_,h5⟩|⟨h1,h2⟩
 ·rw[h5]
  rcases yu (b:=yhk a2) (fun i => !(zg (a2.getD i default))) (fun _=>false) (k:=a2.length-0) (i:=0) (s:=()) (fun j u _ _=>rfl)with⟨q,_,_,_,_,g5⟩|⟨g1,g2⟩
  ·rw[g5];simp
  ·have:=g1 j (by omega) h2
   rw[<- hat j (by omega),h3]at this;cases this
 ·rw[h2]
  rcases yu (b:=yhk a2) (fun i => !(zg (a2.getD i default))) (fun _=>false) (k:=a2.length-0) (i:=0) (s:=()) (fun j u _ _=>rfl)with⟨q,_,g2,g3,_,g5⟩|⟨g1,g2⟩
  ·have:=h1 q (by omega) g2
   rw[hat q (by omega),g3]at this;cases this
  ·rw[g2];rfl
theorem cmpJ (x y:Int):ztd x y=if x<y then -1 else if y<x then 1 else 0:=by
 unfold ztd zsd;simp only[bne_self_eq_false,cond_false];by_cases h:x<y
 ·rw[decide_eq_true h,if_pos h];rfl
 ·rw[decide_eq_false h,if_neg h]
  by_cases h2:y<x
  ·rw[decide_eq_true h2,if_pos h2];rfl
  ·rw[decide_eq_false h2,if_neg h2];rfl
theorem cmp2 {l m:List Int} (hl:l.length=2) (hm:m.length=2):decide (0<=zmc l m)=(decide (m.getD 0 default<l.getD 0 default) || ((l.getD 0 default == m.getD 0 default) && decide (m.getD 1 default<=l.getD 1 default))):=by
 unfold zmc;rw[hl,hm];simp only[ye,y6n,hm,cmpJ];generalize l.getD 0 default=a;generalize m.getD 0 default=b;generalize l.getD (0+1) default=c;generalize m.getD (0+1) default=d;by_cases h1:a<b
 ·simp[h1,show ¬ b<a by omega,show ¬ a=b by omega]
 ·by_cases h2:b<a
  ·simp[h1,h2,show ¬ a=b by omega]
  ·have e:a=b:=by omega
   subst e;by_cases h3:c<d
   ·simp[h3,show ¬ d<=c by omega]
   ·by_cases h4:d<c
    ·simp[h3,h4,show d<=c by omega]
    ·simp[h3,h4,show d<=c by omega]
def badS (a0:List (List Int)) (a1:Int) (i:Nat):Bool:=(((((a0.getD i default).length:Int) != 2) || (!(zd ((a0.getD i default).getD 0 default) 0 (IntKind.wrap .i64 (a1-1))))) || (!(zd ((a0.getD i default).getD 1 default) (IntKind.wrap .i64 (((a0.getD i default).getD 0 default)+1)) (IntKind.wrap .i64 (a1-1))))) || (decide (0<(i:Int)) && (decide (((a0.getD i default).getD 0 default)<((a0.getD ((IntKind.wrap .i64 ((i:Int)-1)).toNat) default).getD 0 default)) || ((((a0.getD ((IntKind.wrap .i64 ((i:Int)-1)).toNat) default).getD 0 default) == ((a0.getD i default).getD 0 default)) && decide (((a0.getD i default).getD 1 default)<=((a0.getD ((IntKind.wrap .i64 ((i:Int)-1)).toNat) default).getD 1 default)))))
def badI (a0:List (List Int)) (a1:Int) (i:Nat):Bool:=((((((a0.getD i default).length:Int) != 2) || decide (((a0.getD i default).getD 0 default)<0)) || decide (((a0.getD i default).getD 1 default)<=((a0.getD i default).getD 0 default))) || decide (a1<=((a0.getD i default).getD 1 default))) || (decide (0<(i:Int)) && decide (0<=(zmc (a0.getD ((IntKind.wrap .i64 ((i:Int)-1)).toNat) default) (a0.getD i default))))
theorem yq1 {a0:List (List Int)} {a1:Int} (ha:0<=a1/\a1<=24) (hl:a0.length<=1048576) {i:Nat} (hi:i<a0.length) (hprev:0<i->(a0.getD (i-1) default).length=2):badI a0 a1 i=badS a0 a1 i:=by
 have w1:IntKind.wrap .i64 (a1-1)=a1-1:=by rw[IntKind.wrap_i64];omega
 unfold badI badS;by_cases h2:(a0.getD i default).length=2
 ·have hb:(((a0.getD i default).length:Int) != 2)=false:=by rw[h2];rfl
  rw[hb];simp only[Bool.false_or]
  have e2:(decide (0<(i:Int)) && decide (0<=(zmc (a0.getD ((IntKind.wrap .i64 ((i:Int)-1)).toNat) default) (a0.getD i default))))=(decide (0<(i:Int)) && (decide (((a0.getD i default).getD 0 default)<((a0.getD ((IntKind.wrap .i64 ((i:Int)-1)).toNat) default).getD 0 default)) || ((((a0.getD ((IntKind.wrap .i64 ((i:Int)-1)).toNat) default).getD 0 default) == ((a0.getD i default).getD 0 default)) && decide (((a0.getD i default).getD 1 default)<=((a0.getD ((IntKind.wrap .i64 ((i:Int)-1)).toNat) default).getD 1 default))))):=by
   by_cases hp:0<i
   ·have hw:(IntKind.wrap .i64 ((i:Int)-1)).toNat=i-1:=by rw[IntKind.wrap_i64];omega
    rw[hw,cmp2 (hprev hp) h2]
   ·rw[decide_eq_false (by omega),Bool.false_and,Bool.false_and]
  rw[e2];congr 1
  generalize (a0.getD i default).getD 0 default=x;generalize (a0.getD i default).getD 1 default=y;unfold zd;rw[w1];by_cases hx:0<=x/\x<=a1-1
  ·have w2:IntKind.wrap .i64 (x+1)=x+1:=by rw[IntKind.wrap_i64];omega
   rw[w2,Bool.eq_iff_iff];simp only[Bool.or_eq_true,decide_eq_true_eq,Bool.not_eq_true',Bool.and_eq_false_iff,decide_eq_false_iff_not];omega
  ·rw[Bool.eq_iff_iff]
   simp only[Bool.or_eq_true,decide_eq_true_eq,Bool.not_eq_true',Bool.and_eq_false_iff,decide_eq_false_iff_not];constructor
   ·intro _;left;omega
   ·intro _;omega
 ·have hb:(((a0.getD i default).length:Int) != 2)=true:=by rw[bne_iff_ne];omega
  rw[hb];simp only[Bool.true_or]
theorem yzx {a0:List (List Int)} {a1:Int} {i:Nat} (h:badS a0 a1 i=false):(a0.getD i default).length=2:=by
 unfold badS at h;simp only[Bool.or_eq_false_iff,bne_eq_false_iff_eq]at h;have:=h.1.1.1;omega
theorem ywm {a0:List (List Int)} {a1:Int} (hl:a0.length<=1048576):zsc a0 a1=zxb a0 a1:=by
 unfold zsc zxb;by_cases ha:0<=a1/\a1<=24
 ·have e1:zd a1 0 24=true:=by unfold zd;simp[ha.1,ha.2]
  have e2:zh a1 0 24=true:=by unfold zh;simp[ha.1,ha.2]
  rw[e1,e2];simp only[Bool.not_true,cond_false]
  have hS:=yu (b:=yii a0 a1) (badS a0 a1) (fun _=>false) (k:=a0.length-0) (i:=0) (s:=()) (fun j u _ _=>by
   unfold yii badS
   cases(((((a0.getD j default).length:Int) != 2) || (!(zd ((a0.getD j default).getD 0 default) 0 (IntKind.wrap .i64 (a1-1))))) || (!(zd ((a0.getD j default).getD 1 default) (IntKind.wrap .i64 (((a0.getD j default).getD 0 default)+1)) (IntKind.wrap .i64 (a1-1)))))<;>rfl)
  have hI:=yu (b:=y7k a0 a1) (badI a0 a1) (fun _=>false) (k:=a0.length-0) (i:=0) (s:=()) (fun j u _ _=>rfl);have heq:∀ j,j<a0.length->(∀ q,q<j->badS a0 a1 q=false)->badI a0 a1 j=badS a0 a1 j:=fun j hj hq=>yq1 ha hl hj fun hp=>yzx (hq (j-1) (by omega))
  rcases hS with⟨j,_,h2,h3,h4,h5⟩|⟨h1,h2⟩
  ·rw[h5]
   rcases hI with⟨q,_,g2,g3,g4,g5⟩|⟨g1,g2⟩
   ·rw[g5]
   ·have:=g1 j (by omega) h2
    rw[heq j (by omega) (fun q hq=>h4 q (by omega) hq),h3]at this;cases this
  ·rw[h2]
   rcases hI with⟨q,_,g2,g3,g4,g5⟩|⟨g1,g2⟩
   ·rw[heq q (by omega) (fun z hz=>h1 z (by omega) (by omega)),h1 q (by omega) g2]at g3
    cases g3
   ·rw[g2]
 ·have e1:zd a1 0 24=false:=by unfold zd;rw[Bool.and_eq_false_iff];simp only[decide_eq_false_iff_not];omega
  have e2:zh a1 0 24=false:=by unfold zh;rw[Bool.and_eq_false_iff];simp only[decide_eq_false_iff_not];omega
  rw[e1,e2];simp only[Bool.not_false,cond_true];have hI:=yu (b:=y7k a0 a1) (badI a0 a1) (fun _=>false) (k:=a0.length-0) (i:=0) (s:=()) (fun j u _ _=>rfl);rcases hI with⟨q,_,g2,g3,g4,g5⟩|⟨g1,g2⟩
  ·rw[g5]
  ·rw[g2]
theorem ylh {a0:List (List Int)} {a1:Int} {a2:List Character} {a3 a4:Int} (hl:a0.length<=1048576) (hb:∀ v∈a2,bdCharacter v):zyc a0 a1 a2 a3 a4=zib a0 a1 a2 a3 a4:=by
 unfold zyc zib;rw[ywm hl,y1p hb];have e1:zae a3=zud a3:=rfl;have e2:zh a4 1 20000=zd a4 1 20000:=rfl
 have e3:(!(zad (a2.length:Int) 12))=decide (12<(a2.length:Int)):=by
  unfold zad;by_cases h:(a2.length:Int)<=12
  ·rw[decide_eq_true h,decide_eq_false (by omega)];rfl
  ·rw[decide_eq_false h,decide_eq_true (by omega)];rfl
 rw[e1,e2,e3]
end Go.Ab
