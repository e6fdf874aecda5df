/- A part of a proof: walks of functions and lemmas of our own. No conditions. -/
import Derived.Test.YtcaopagmcldjmaaGreatDoorABa
import Derived.Test.YtcaopagmcldjmaaGreatDoorAAo
import Derived.Test.YtcaopagmcldjmaaGreatDoorAAr
import Derived.Test.YtcaopagmcldjmaaGreatDoorAAz
import Derived.Test.YtcaopagmcldjmaaGreatDoorAAx
import Derived.Test.YtcaopagmcldjmaaGreatDoorAAl
import Derived.Test.YtcaopagmcldjmaaGreatDoorAAi
import Derived.Test.YtcaopagmcldjmaaGreatDoorAAy
import Derived.Test.YtcaopagmcldjmaaGreatDoorAAq
import Derived.Test.YtcaopagmcldjmaaGreatDoorAAp
import Derived.Test.YtcaopagmcldjmaaGreatDoorAAu
import Derived.Test.YtcaopagmcldjmaaGreatDoorAAt
import Derived.Test.YtcaopagmcldjmaaGreatDoorAAv
set_option linter.unusedSectionVars false
set_option linter.unusedVariables false
set_option linter.unusedSimpArgs false
set_option maxHeartbeats 1000000
namespace Go.Ab
open Go Go.Proofs
def T8 (a:Aid) (w:List UInt8):List UInt8:=zo a.Number++47::(a.Name++47::(ptT a.At++47::(zo a.Height++47::(zpc a.Mark++47::(w++47::(scsT a.Sectors++47::zo a.Intensity))))))
theorem yy7 (a b c d e f g h:List UInt8) (s:List UInt8):Lib.join [a,b,c,d,e,f,g,h] s=a++(s++(b++(s++(c++(s++(d++(s++(e++(s++(f++(s++(g++(s++h))))))))))))):=by
 simp[Lib.join_cons,Lib.joinTail]
theorem ywx {a:Aid} (h:zcd a=true) (hl:a.Light.Colors.length<9223372036854775808):zdd a=T8 a (bif zpf a then chrT a.Light else[45]):=by
 obtain⟨n1,n2,nm,at1,h1,h2,mk,lt,sx,i1,i2⟩:=y9b h;have hsl:=(y1e sx).1
 have e:∀ a b c d e f g h:List UInt8,zic [a,b,c,d,e,f,g,h] [47]=a++47::(b++47::(c++47::(d++47::(e++47::(f++47::(g++47::h)))))):=fun a b c d e f g h=>by
  show Lib.join [a,b,c,d,e,f,g,h] [47]=_;rw[yy7];simp
 unfold zdd T8;rw[yge a hl (by omega),h,yk4 h hl,(pt_I at1).1,yjs sx,e,e]
 cases ht:zpf a with
 | true=>
  rw[yek a.Light (yir h hl ht)];rfl
 | false=>rfl
theorem y6o {a:Aid} (h:zcd a=true) (hl:a.Light.Colors.length<9223372036854775808):(zdd a).length<=300:=by
 obtain⟨n1,n2,nm,at1,h1,h2,mk,lt,sx,i1,i2⟩:=y9b h;have k1:=y0c a.Number 3 (by omega) (by show _<(10000:Int);omega);have k2:=y3n nm;have k3:=(pt_I at1).2.1;have k4:=y0c a.Height 3 (by omega) (by show _<(10000:Int);omega);have k5:=(yvo mk).2.2;have k6:=y83 sx;have k7:=y0c a.Intensity 8 (by omega) (by show _<(1000000000:Int);omega)
 have k8:(bif zpf a then chrT a.Light else[45]).length<=40:=by
  cases ht:zpf a with
  | true=>exact y23 (yir h hl ht)
  | false=>show([45]:List UInt8).length<=40;decide
 rw[ywx h hl];generalize (bif zpf a then chrT a.Light else[45])=w at k8;show(Lib.itoa a.Number++47::(a.Name++47::(ptT a.At++47::(Lib.itoa a.Height++47::(zpc a.Mark++47::(w++47::(scsT a.Sectors++47::Lib.itoa a.Intensity))))))).length<=300;simp only[List.length_append,List.length_cons];omega
theorem y4s (a:Aid) (hb:bdAid a):(zdd a).length<=300:=by
 have hl:a.Light.Colors.length<9223372036854775808:=Nat.lt_of_lt_of_le hb.2.2.1.2.2 (by decide);have hs:a.Sectors.length<9223372036854775807:=Nat.lt_of_lt_of_le hb.2.2.2.1 (by decide)
 cases h:zcd a with
 | true=>exact y6o h hl
 | false=>
  unfold zdd;rw[yge a hl hs,h];simp
theorem yyt {a:Aid} (h:zcd a=true) {w:List UInt8} (hw:(47:UInt8)∉w):y9 47 (T8 a w)=[zo a.Number,a.Name,ptT a.At,zo a.Height,zpc a.Mark,w,scsT a.Sectors,zo a.Intensity]:=by
 obtain⟨n1,n2,nm,at1,h1,h2,mk,lt,sx,i1,i2⟩:=y9b h;unfold T8;rw[ygb 47 _ _ (yte (by omega) 47 (by decide)),ygb 47 _ _ (y41 nm),ygb 47 _ _ (pt_I at1).2.2.1,ygb 47 _ _ (yte h1 47 (by decide)),ygb 47 _ _ (yvo mk).2.1,ygb 47 _ _ hw,ygb 47 _ _ (yi6 sx),yid 47 _ (yte i1 47 (by decide))]
theorem y7w:(zod [45]).1=({ Kind:=0,Group:=[],Letter:=[],Colors:=[],Period:=0 }:Character):=by decide +kernel
theorem ygo {a:Aid} (h:zcd a=true) (hl:a.Light.Colors.length<9223372036854775808):zaf (zdd a)=(a,true):=by
 obtain⟨n1,n2,nm,at1,h1,h2,mk,lt,sx,i1,i2⟩:=y9b h;have ht:=ywx h hl;have ea:({ Number:=a.Number,Name:=a.Name,At:=a.At,Height:=a.Height,Mark:=a.Mark,Light:=a.Light,Sectors:=a.Sectors,Intensity:=a.Intensity:Aid })=a:=rfl
 cases hlt:zpf a with
 | true=>
  have hv:=yir h hl hlt;rw[hlt,cond_true]at ht;have hsp:=(show zf (zdd a) [47]=y9 47 (T8 a (chrT a.Light))by rw[y0q,ht]).trans (yyt h (y84 _ hv hl))
  have hne:(chrT a.Light == [45])=false:=by
   rw[beq_eq_false_iff_ne];intro e;have:(32:UInt8)∈chrT a.Light:=by unfold chrT;simp
   rw[e]at this;exact absurd this (by decide)
  unfold zaf;rw[hsp];simp only[List.getD_cons_zero,List.getD_cons_succ];rw[ynh (n:=a.Number) (by omega) (by omega),ynh h1 (by omega),ynh i1 i2,(pt_I at1).2.2.2,(yvo mk).1,sx_I sx,hne,y4x _ hv hl];simp only[ea,bne_self_eq_false];rfl
 | false=>
  have hz:({ Kind:=0,Group:=[],Letter:=[],Colors:=[],Period:=0 }:Character)=a.Light:=(y05 h hlt).symm;rw[hlt,cond_false]at ht;have hsp:=(show zf (zdd a) [47]=y9 47 (T8 a [45])by rw[y0q,ht]).trans (yyt h (w:=[45]) (by decide));unfold zaf;rw[hsp];simp only[List.getD_cons_zero,List.getD_cons_succ];rw[ynh (n:=a.Number) (by omega) (by omega),ynh h1 (by omega),ynh i1 i2,(pt_I at1).2.2.2,(yvo mk).1,sx_I sx,y7w,hz];simp only[ea,bne_self_eq_false];rfl
theorem yvx {a:List Aid} (h:zme a=true):a.length<=24:=by
 unfold zme at h;split at h
 ·rename_i e he
  obtain⟨j,t,_,_,h3⟩:=yvb he;simp only[y3l,Bool.cond_eq_ite]at h3;split at h3
  ·cases h3;cases h
  ·cases h3
 ·have:=of_decide_eq_true h;omega
theorem yxy {a:List Aid} (h:zmd a=true):a.length<=24:=by
 unfold zmd at h;split at h
 ·rename_i e he
  obtain⟨j,t,_,_,h3⟩:=yvb he;simp only[ysk,Bool.cond_eq_ite]at h3;split at h3
  ·cases h3;cases h
  ·cases h3
 ·unfold zx at h;have:=of_decide_eq_true h;omega
def aidL (v:Aid):Prop:=v.Light.Colors.length<9223372036854775808/\v.Sectors.length<9223372036854775807
theorem yvw {α:Type} [Inhabited α] (l:List α) (n:Nat) (h:n<=l.length):subL l 0 n=l.take n:=by
 apply ycn
 ·simp[subL,h]
 ·intro i hi
  have hi:i<n:=by simpa [subL]using hi
  simp only[subL,Nat.zero_add];rw[List.getD_eq_getElem?_getD,List.getD_eq_getElem?_getD,List.getElem?_map,List.getElem?_range hi,List.getElem?_take,if_pos hi];simp[List.getD_eq_getElem?_getD]
theorem yix {α:Type} [Inhabited α] (l:List α) (n:Nat) (h:n<=l.length):subL l n (l.length-n)=l.drop n:=by
 apply ycn
 ·simp[subL]
 ·intro i hi
  have hi:i<l.length-n:=by simpa [subL]using hi
  simp only[subL];rw[List.getD_eq_getElem?_getD,List.getD_eq_getElem?_getD,List.getElem?_map,List.getElem?_range hi,List.getElem?_drop];simp[List.getD_eq_getElem?_getD]
theorem yn3 (l:List Aid) (a:Aid) (hl:l.length<9223372036854775808):yeb (y7k l a) ((l.length-((0:Int)).toNat)+1) 0=.error (.inr (upto l a.Number:Int)):=by
 have:=yax l a.Number hl (y7k l a) (fun s=>rfl) l [] (l.length-(0:Int).toNat+1) rfl (by simp);simp only[List.length_nil,Nat.zero_add]at this;have e0:((0:Nat):Int)=0:=rfl;simp only[e0]at this;exact this
def putA (l:List Aid) (a:Aid):List Aid:=l.take (upto l a.Number)++[a]++l.drop (upto l a.Number)
theorem yto (l:List Aid) (a:Aid) (hl:l.length<9223372036854775808) :
  znc l a=bif (decide (upto l a.Number<l.length) && ((l.getD (upto l a.Number) default).Number == a.Number))then([],4)else(bif ((l.length:Int) == 24)then([],5)else(putA l a,0)):=by
 unfold znc;rw[yn3 l a hl];have hu:=ydy l a.Number
 have e:(decide ((upto l a.Number:Int)<(l.length:Int)) && ((l.getD ((upto l a.Number:Int)).toNat default).Number == a.Number))=(decide (upto l a.Number<l.length) && ((l.getD (upto l a.Number) default).Number == a.Number)):=by
  rw[Int.toNat_natCast];congr 1
  exact decide_eq_decide.2 (by omega)
 simp only[yjh,ydp];rw[e];simp only[Int.toNat_natCast];rw[yvw l _ hu,yix l _ hu];rfl
def ltA (a b:Aid):Prop:=a.Number<b.Number
theorem ytw (a b c:Aid) (h:ltA a b) (k:ltA b c):ltA a c:=by unfold ltA at *;omega
def okA (l:List Aid):Prop:=(∀ v∈l,zcd v=true)/\l.Pairwise ltA/\l.length<=24
theorem y25 (l:List Aid):zme l=true↔okA l:=by
 unfold zme;refine Iff.trans (yzr (b:=y3l l) (fun j=>(!(zcd (l.getD j default))) || (decide (0<(j:Int)) && decide (((l.getD j default).Number)<=((l.getD ((IntKind.wrap .i64 ((j:Int)-1)).toNat) default).Number)))) l.length _ (fun j u _=>rfl)) ?_;unfold okA;rw[yb7 ltA ytw l,decide_eq_true_eq]
 have e:∀ j:Nat,0<j->j<l.length->l.length<9223372036854775808->(IntKind.wrap .i64 ((j:Int)-1)).toNat=j-1:=by
  intro j h0 h1 h2;rw[IntKind.wrap_i64];omega
 constructor
 ·rintro⟨h1,h2⟩
  have h2':l.length<=24:=by omega
  refine⟨fun v hv => ?_,fun j hj => ?_,h2'⟩
  ·obtain⟨j,hj,rfl⟩:=List.getElem_of_mem hv
   have:=h1 j hj;rw[Bool.or_eq_false_iff]at this;have h3:=this.1;rw[List.getD_eq_getElem?_getD,List.getElem?_eq_getElem hj]at h3;simpa using h3
  ·have:=h1 (j+1) hj
   rw[Bool.or_eq_false_iff,e (j+1) (by omega) hj (by omega)]at this;have h3:=this.2;simp only[Nat.add_sub_cancel]at h3;unfold ltA;simp only[Bool.and_eq_false_iff,decide_eq_false_iff_not]at h3;rcases h3 with h3|h3<;>omega
 ·rintro⟨h1,h2,h3⟩
  refine⟨fun j hj => ?_,by omega⟩;rw[Bool.or_eq_false_iff];constructor
  ·have:l.getD j default∈l:=by
    rw[List.getD_eq_getElem?_getD,List.getElem?_eq_getElem hj];exact List.getElem_mem hj
   rw[h1 _ this];rfl
  ·cases j with
   | zero=>simp
   | succ j=>
    rw[e (j+1) (by omega) hj (by omega)];have:=h2 j hj;unfold ltA at this;simp only[Nat.add_sub_cancel,Bool.and_eq_false_iff,decide_eq_false_iff_not];right;omega
theorem ys6 (l:List Aid) (n:Int):∀ j,j<upto l n->(l.getD j default).Number<n:=by
 unfold upto
 induction l with
 | nil=>intro j hj;simp at hj
 | cons x l ih=>
  intro j hj;rw[List.takeWhile_cons]at hj;by_cases h:x.Number<n
  ·rw[if_pos (decide_eq_true h)]at hj
   cases j with
   | zero=>exact h
   | succ j=>exact ih j (by simpa using hj)
  ·rw[if_neg (by simpa using h)]at hj
   simp at hj
theorem y24 (l:List Aid) (n:Int):upto l n<l.length->¬ (l.getD (upto l n) default).Number<n:=by
 unfold upto
 induction l with
 | nil=>intro h;simp at h
 | cons x l ih=>
  intro hj;rw[List.takeWhile_cons]at hj ⊢;by_cases h:x.Number<n
  ·rw[if_pos (decide_eq_true h)]at hj ⊢
   exact ih (by simpa using hj)
  ·rw[if_neg (by simpa using h)]
   exact h
theorem yf6 {l:List Aid} (h:l.Pairwise ltA) {i j:Nat} (hij:i<j) (hj:j<l.length):(l.getD i default).Number<(l.getD j default).Number:=by
 have:=List.pairwise_iff_getElem.1 h i j (by omega) hj hij;rw[List.getD_eq_getElem?_getD,List.getD_eq_getElem?_getD,List.getElem?_eq_getElem hj,List.getElem?_eq_getElem (show i<l.length by omega)];exact this
def hasN (l:List Aid) (n:Int):Bool:=decide (upto l n<l.length) && ((l.getD (upto l n) default).Number == n)
def okP (P:Aid->Prop) (l:List Aid):Prop:=okA l/\∀ v∈l,P v
theorem yv4 (P:Aid->Prop) {l t:List Aid} {a:Aid} (hl:okP P l) (ha:zcd a=true/\P a) (h:znc l a=(t,0)):okP P t:=by
 have hl':=hl.1.2.2;rw[yto l a (by omega)]at h;change (bif hasN l a.Number then([],4)else _)=_ at h
 cases hn:hasN l a.Number with
 | true=>rw[hn]at h;simp at h
 | false=>
  rw[hn,cond_false]at h
  cases h24:((l.length:Int) == 24)with
  | true=>rw[h24]at h;simp at h
  | false=>
   rw[h24,cond_false]at h;simp only[Prod.mk.injEq,and_true]at h;subst h
   have hne:l.length≠24:=by
    intro e;rw[e]at h24;simp at h24
   have hu:=ydy l a.Number
   have hmem:∀ v,v∈putA l a->v∈l\/v=a:=by
    intro v hv;simp only[putA,List.mem_append,List.mem_singleton]at hv;rcases hv with(hv|hv)|hv
    ·exact .inl (List.mem_of_mem_take hv)
    ·exact .inr hv
    ·exact .inl (List.mem_of_mem_drop hv)
   refine⟨⟨fun v hv => ?_,?_,?_⟩,fun v hv => ?_⟩
   ·rcases hmem v hv with h|rfl
    ·exact hl.1.1 v h
    ·exact ha.1
   ·have hpw:=hl.1.2.1
    have h0:l.take (upto l a.Number)++l.drop (upto l a.Number)=l:=List.take_append_drop _ _;have hp2:(l.take (upto l a.Number)++l.drop (upto l a.Number)).Pairwise ltA:=by rw[h0];exact hpw
    rw[List.pairwise_append]at hp2;obtain⟨p1,p2,p3⟩:=hp2
    have hlo:∀ x∈l.take (upto l a.Number),ltA x a:=by
     intro x hx;obtain⟨j,hj,rfl⟩:=List.getElem_of_mem hx;have hj':j<upto l a.Number:=by simp at hj;omega
     have:=ys6 l a.Number j hj';rw[List.getD_eq_getElem?_getD,List.getElem?_eq_getElem (show j<l.length by omega)]at this;simp only[List.getElem_take];exact this
    have hhi:∀ x∈l.drop (upto l a.Number),ltA a x:=by
     intro x hx;obtain⟨j,hj,rfl⟩:=List.getElem_of_mem hx;have hj':upto l a.Number+j<l.length:=by simp at hj;omega
     simp only[List.getElem_drop];have h1:=y24 l a.Number (by omega)
     have h2:(l.getD (upto l a.Number) default).Number≠a.Number:=by
      unfold hasN at hn;rw[decide_eq_true (show upto l a.Number<l.length by omega)]at hn;simpa using hn
     unfold ltA
     have h3:(l[upto l a.Number+j]'hj').Number=(l.getD (upto l a.Number+j) default).Number:=by
      rw[List.getD_eq_getElem?_getD,List.getElem?_eq_getElem hj'];rfl
     rw[h3]
     cases j with
     | zero=>simp only[Nat.add_zero];omega
     | succ j=>
      have:=yf6 hpw (show upto l a.Number<upto l a.Number+(j+1)by omega) hj';omega
    unfold putA;rw[List.append_assoc,List.pairwise_append];refine⟨p1,?_,fun x hx y hy => ?_⟩
    ·rw[List.singleton_append,List.pairwise_cons];exact⟨hhi,p2⟩
    ·rw[List.singleton_append,List.mem_cons]at hy
     rcases hy with rfl|hy
     ·exact hlo x hx
     ·exact p3 x hx y hy
   ·simp[putA];omega
   ·rcases hmem v hv with h|rfl
    ·exact hl.2 v h
    ·exact ha.2
theorem y6m {l:List Aid} (h:zme l=true):∀ i,i<l.length->zcd (l.getD i default)=true:=by
 unfold zme at h;rcases ymc (b:=y3l l) (fun j=>(!(zcd (l.getD j default))) || (decide (0<(j:Int)) && decide (((l.getD j default).Number)<=((l.getD ((IntKind.wrap .i64 ((j:Int)-1)).toNat) default).Number)))) (fun _ u=>u) false (k:=l.length-0) (i:=0) (s:=()) (fun j u _ _=>by cases u;rfl)with⟨_,e1⟩|⟨hq,_⟩
 ·rw[e1]at h;cases h
 ·intro i hi
  have:=hq i (Nat.zero_le _) (by omega);rw[Bool.or_eq_false_iff]at this;simpa using this.1
theorem yp3 {l:List Aid} (hb:∀ v∈l,bdAid v) (h:(!zmd l)=false):zme l=true:=by
 rw[<- yld l (fun v hv=>⟨Nat.lt_of_lt_of_le (hb v hv).2.2.1.2.2 (by decide),Nat.lt_of_lt_of_le (hb v hv).2.2.2.1 (by decide)⟩)];simpa using h
theorem y6g {n:Int} {s:l00Src} {l:List (List UInt8)} (h:SrcOk n s) (hn:n<=2000000000) (hl:1<=l.length):(zr s l).1∈l:=by
 have hr:=yg (l.length:Int) h hn;have h2:=hr.2 (by omega);unfold zr;simp only;have hi:((za s (l.length:Int)).1).toNat<l.length:=by omega
 rw[List.getD_eq_getElem?_getD,List.getElem?_eq_getElem hi];exact List.getElem_mem hi
theorem yc6 {n:Int} {s:l00Src} (h:SrcOk n s) (hn:n<=2000000000):(ze s).1.length<=3:=by
 unfold ze;have:=y6g (l:=([[87],[87],[82],[71],[89],[87,82],[82,71],[87,82,71],[87,71]]:List (List UInt8))) h hn (by decide);simp only;generalize (zr s ([[87],[87],[82],[71],[89],[87,82],[82,71],[87,82,71],[87,71]]:List (List UInt8))).1=x at this;have hs:∀ y∈([[87],[87],[82],[71],[89],[87,82],[82,71],[87,82,71],[87,71]]:List (List UInt8)),y.length<=3:=by decide
 exact hs x this
theorem ya4 {n:Int} {s:l00Src} {l:List Int} (h:SrcOk n s) (hn:n<=2000000000) (hl:1<=l.length):(zb s l).1∈l:=by
 have hr:=yg (l.length:Int) h hn;have h2:=hr.2 (by omega);unfold zb;simp only;have hi:((za s (l.length:Int)).1).toNat<l.length:=by omega
 rw[List.getD_eq_getElem?_getD,List.getElem?_eq_getElem hi];exact List.getElem_mem hi
theorem am9 {n:Int} {s:l00Src} (h:SrcOk n s) (hn:n<=2000000000):0<=(zb s ([0,0,3,6,9]:List Int)).1/\(zb s ([0,0,3,6,9]:List Int)).1<=9:=by
 have:=ya4 (l:=([0,0,3,6,9]:List Int)) h hn (by decide);simp only[List.mem_cons,List.not_mem_nil,or_false]at this;omega
theorem let9 {n:Int} {s:l00Src} (h:SrcOk n s) (hn:n<=2000000000):65<=(UInt8.ofNat (IntKind.wrap .u8 (IntKind.wrap .i64 (65+(za s 26).1))).toNat).toNat/\(UInt8.ofNat (IntKind.wrap .u8 (IntKind.wrap .i64 (65+(za s 26).1))).toNat).toNat<=90:=by
 have hr:=yg 26 h hn;have hr2:=hr.2 (by omega);have hall:((List.range 26).all fun m=>decide (65<=(UInt8.ofNat (IntKind.wrap .u8 (IntKind.wrap .i64 (65+(m:Int)))).toNat).toNat/\(UInt8.ofNat (IntKind.wrap .u8 (IntKind.wrap .i64 (65+(m:Int)))).toNat).toNat<=90))=true:=by decide +kernel
 have:=of_decide_eq_true (List.all_eq_true.1 hall ((za s 26).1).toNat (List.mem_range.2 (by omega)));rwa [show(((za s 26).1).toNat:Int)=(za s 26).1 by omega]at this
theorem ytr {l:List Int} {x:Int} (h:∀ v∈l,v<=9) (hx:x<=9):∀ v∈l++[x],v<=9:=fun v hv=>by
 rcases List.mem_append.1 hv with h1|h1
 ·exact h v h1
 ·rw[List.mem_singleton]at h1;subst h1;exact hx
theorem pk_b {n:Int} {s:l00Src} {k:Nat} (hd:decide (0<(k:Int))=true) (h:SrcOk n s) (hn:n<=2000000000):0<=(za s (k:Int)).1/\(za s (k:Int)).1<(k:Int)/\((za s (k:Int)).1).toNat<k:=by
 have hd:=of_decide_eq_true hd;have hr:=yg (k:Int) h hn;have:=hr.2 (by omega);omega
theorem am24 {n:Int} {s:l00Src} (h:SrcOk n s) (hn:n<=2000000000):24<=(zb s ([24,25]:List Int)).1/\(zb s ([24,25]:List Int)).1<=25:=by
 have:=ya4 (l:=([24,25]:List Int)) h hn (by decide);simp only[List.mem_cons,List.not_mem_nil,or_false]at this;omega
end Go.Ab
