/- A part of a proof: walks of functions and lemmas of our own. No conditions. -/
import Derived.Test.YthjljhdfdppkoaaGreatDoorNAl
import Derived.Lib.Split
import Derived.Lib.IndexLaws
import Derived.Lib.IndexBytes
import Derived.Lib.CountLaws
import Derived.Shelf.Strings.Builder1
import Derived.Shelf.Strings.Builder2
import Derived.Shelf.Strings.OnBuilder
import Derived.Shelf.Small.Strs
import Derived.Shelf.Small.Wraps
import Derived.Shelf.Strings.BuilderF
import Derived.Shelf.Utf8.RuneCount
import Derived.Shelf.Strconv.Itoa0
import Derived.Shelf.Strconv.Itoa1
import Derived.Shelf.LaysM
import Derived.Shelf.Strconv.Itoa2
import Derived.Shelf.Strconv.Itoa3
import Derived.Shelf.Strconv.Itoa4
import Derived.Shelf.Strconv.ParseIntEmpty
import Derived.Shelf.Strconv.Clone
import Derived.Shelf.Strconv.SyntaxError
import Derived.Shelf.LaysC
import Derived.Shelf.Strconv.ToError
import Derived.Shelf.Strconv.Lower
import Derived.Shelf.Strconv.ParseUint10
import Derived.Shelf.Strconv.ParseUint10Empty
import Derived.Shelf.Strconv.ParseUint10Any
import Derived.Shelf.Strconv.ParseInt10
import Derived.Shelf.Strconv.RangeError
import Derived.Shelf.Strconv.ToErrorRange
import Derived.Shelf.Strconv.ParseUintEmpty
import Derived.Shelf.Strconv.ParseUint10b64
import Derived.Shelf.Strconv.ParseUint10b32
import Derived.Shelf.Strconv.ParseUint10b16
import Derived.Shelf.Strconv.ParseUint10b8
import Derived.Shelf.Strconv.ParseUint10At
import Derived.Shelf.Strconv.ParseInt10At64
import Derived.Shelf.Strconv.ParseInt10At32
import Derived.Shelf.Strconv.ParseInt10At16
import Derived.Shelf.Strconv.ParseInt10At8
import Derived.Shelf.Strconv.ParseInt10All
import Derived.Shelf.Strconv.ParseIntPublic10
import Derived.Shelf.Strconv.ErrVarParseInt
import Derived.Shelf.Strings.Search1
import Derived.Shelf.Strings.Search2
import Derived.Shelf.Strings.Search3
import Derived.Shelf.Strings.Cut
import Derived.Shelf.Strings.Count
import Derived.Shelf.Strings.Shaped
import Derived.Shelf.Strings.Prefix
import Derived.Shelf.Strings.Split
import Derived.Shelf.Strings.Fields
import Derived.Shelf.Strings.SplitShaped
import Derived.Shelf.Unicode.Latin
import Derived.Shelf.Unicode.Decode
import Derived.Shelf.Strings.RuneCount
import Derived.Shelf.Strings.Explode
import Derived.Shelf.Bits.Mul64
import Derived.Shelf.Strings.Repeat
import Derived.Shelf.Unicode.DecodeSlow
import Derived.Shelf.Unicode.DecodeAny
import Derived.Shelf.Unicode.Is16White
import Derived.Shelf.Unicode.IsSpaceAny
import Derived.Shelf.Unicode.Is16Any
import Derived.Shelf.Unicode.Is32Any
import Derived.Shelf.Unicode.ExclAny
import Derived.Test.YthjljhdfdppkoaaGreatDoorProg
import Derived.Test.YthjljhdfdppkoaaGreatDoorNAm
import Derived.Below
import Derived.Lib.ParseIntBTie
import Derived.Lib.ItoaNum
import Derived.Lib.Strings
set_option linter.unusedSectionVars false
set_option linter.unusedVariables false
set_option linter.unusedSimpArgs false
set_option maxHeartbeats 1000000
namespace Go.Ab
open Go Go.Lib
def ybb (c : UInt8) : List UInt8 -> List (List UInt8)
  | []=>[[]]
  | b :: l => if b = c then [] :: ybb c l else match ybb c l with
    | []=>[[b]]
    | x::r=>(b::x)::r
theorem yvd (c : UInt8) : ∀ l : List UInt8, c ∉ l -> ybb c l = [l]
 | [],_=>rfl
 | b::l,h=>by
  simp only[List.mem_cons,not_or]at h;rw[ybb,if_neg (fun e=>h.1 e.symm),yvd c l h.2]
theorem yjb (c : UInt8) : ∀ (a l : List UInt8), c ∉ a -> ybb c (a ++ c :: l) = a :: ybb c l
 | [],l,_=>by simp[ybb]
 | b::a,l,h=>by
  simp only[List.mem_cons,not_or]at h;rw[List.cons_append,ybb,if_neg (fun e=>h.1 e.symm),yjb c a l h.2]
theorem yy2 (c:UInt8):∀ (n:Nat) (s:List UInt8),s.length<=n->splitK [c] 0 (count s [c]) s=ybb c s:=by
 intro n
 induction n with
 | zero=>
  intro s h;have:s=[]:=List.length_eq_zero_iff.1 (by omega);subst this;have hi:index [] [c] = -1:=by rw[index_one];rfl
  rw[count_miss hi];rfl
 | succ n ih=>
  intro s h;have h1:=index_one s c;by_cases hm:indexByte s c = -1
  ·rw[count_miss (by rw[h1];exact hm)]
   have hn:=indexByte_none hm
   rw[yvd c s (fun hc=>by
    obtain⟨k,hk⟩:=List.getElem?_of_mem hc
    exact hn k hk)]
   rfl
  ·have hge:=indexByte_ge s c
   obtain⟨o,ho⟩:∃ o:Nat,indexByte s c=o:=⟨(indexByte s c).toNat,by omega⟩
   obtain⟨e1,e2⟩:=indexByte_some ho;have hio:index s [c]=(o:Int):=h1.trans ho;rw[count_hit (by simp) hio,Nat.add_comm,splitK,if_neg (by rw[hio];simp),hio];have hlt:o<s.length:=(List.getElem?_eq_some_iff.1 e1).1
   have hs:s=s.take o++c::s.drop (o+1):=by
    conv=>lhs;rw[<- List.take_append_drop o s]
    rw[List.drop_eq_getElem_cons hlt];congr 2
    exact(List.getElem?_eq_some_iff.1 e1).2
   have hnot:c∉s.take o:=fun hc=>by
    obtain⟨k,hk⟩:=List.getElem?_of_mem hc
    have hko:k<o:=by
     have:=(List.getElem?_eq_some_iff.1 hk).1;simp at this;omega
    rw[List.getElem?_take_of_lt hko]at hk;exact e2 k hko hk
   have hd:s.drop ((o:Int).toNat+[c].length)=s.drop (o+1):=by simp
   rw[hd,show o+[c].length=o+1 from rfl,ih (s.drop (o+1)) (by simp;omega)];conv=>rhs;rw[hs]
   rw[yjb c _ _ hnot];simp
theorem ytd (c : UInt8) : ∀ (l : List UInt8), (ybb c l).length <= l.length + 1 /\ ∀ x ∈ ybb c l, x.length <= l.length
 | []=>by simp[ybb]
 | b::l=>by
  obtain⟨h1,h2⟩:=ytd c l;simp only[ybb];split
  ·simp only[List.length_cons,List.mem_cons]
   refine⟨by omega,fun x hx => ?_⟩;rcases hx with rfl|hx
   ·simp
   ·have:=h2 x hx;omega
  ·split
   ·simp
   ·rename_i x r he
    rw[he]at h1 h2;simp only[List.length_cons,List.mem_cons]at h1 ⊢;refine⟨by omega,fun y hy => ?_⟩;rcases hy with rfl|hy
    ·have:=h2 x (by simp);simp only[List.length_cons];omega
    ·have:=h2 y (by simp[hy]);omega
def cutK (c : UInt8) : Nat -> List UInt8 -> List (List UInt8) × List UInt8
  | 0,s=>([],s)
  | _+1,[]=>([],[])
  | k + 1, b :: s => if b = c then ([] :: (cutK c k s).1, (cutK c k s).2) else match cutK c (k + 1) s with
    | ([],r)=>([],b::r)
    | (x::w,r)=>((b::x)::w,r)
theorem yqe (c : UInt8) : ∀ (k : Nat) (l : List UInt8), c ∉ l -> cutK c k l = ([], l)
 | 0,l,_=>by cases l<;>rfl
 | k+1,[],_=>rfl
 | k+1,b::l,h=>by
  simp only[List.mem_cons,not_or]at h;rw[cutK,if_neg (fun e=>h.1 e.symm),yqe c (k+1) l h.2]
theorem y4c (c : UInt8) (k : Nat) : ∀ (a l : List UInt8), c ∉ a -> cutK c (k + 1) (a ++ c :: l) = (a :: (cutK c k l).1, (cutK c k l).2)
 | [],l,_=>by rw[List.nil_append,cutK,if_pos rfl]
 | b::a,l,h=>by
  simp only[List.mem_cons,not_or]at h;rw[List.cons_append,cutK,if_neg (fun e=>h.1 e.symm),y4c c k a l h.2]
theorem ysh (c:UInt8) (s:List UInt8):cutK c 0 s=([],s):=by cases s<;>rfl
theorem ymj (c : UInt8) : ∀ s : List UInt8, c ∉ s \/ ∃ l t, s = l ++ c :: t /\ c ∉ l
 | []=>.inl (by simp)
 | b::s=>by
  by_cases h:b=c
  ·exact .inr ⟨[],s,by rw[h];rfl,by simp⟩
  ·rcases ymj c s with h1|⟨l,t,h1,h2⟩
   ·exact .inl (by simp only[List.mem_cons,not_or];exact⟨fun e=>h e.symm,h1⟩)
   ·exact .inr ⟨b::l,t,by rw[h1];rfl,by simp only[List.mem_cons,not_or];exact⟨fun e=>h e.symm,h2⟩⟩
theorem yax {c:UInt8} {l t:List UInt8} (h:c∉l):index (l++c::t) [c]=(l.length:Int):=by
 have h1:=index_one (l++c::t) c;by_cases hm:indexByte (l++c::t) c = -1
 ·exact absurd (by rw[List.getElem?_append_right (Nat.le_refl _)];simp) (indexByte_none hm l.length)
 ·have hge:=indexByte_ge (l++c::t) c
  obtain⟨o,ho⟩:∃ o:Nat,indexByte (l++c::t) c=o:=⟨(indexByte (l++c::t) c).toNat,by omega⟩
  obtain⟨e1,e2⟩:=indexByte_some ho;rw[h1,ho]
  have hle:o<=l.length:=by
   by_cases hlt:l.length<o
   ·exact absurd (by rw[List.getElem?_append_right (Nat.le_refl _)];simp) (e2 l.length hlt)
   ·omega
  have hge2:l.length<=o:=by
   by_cases hlt:o<l.length
   ·rw[List.getElem?_append_left hlt]at e1
    exact absurd (List.mem_of_getElem? e1) h
   ·omega
  omega
theorem y30 {c:UInt8} {s:List UInt8} (h:c∉s):index s [c] = -1:=by
 rw[index_one];by_cases hm:indexByte s c = -1
 ·exact hm
 ·have hge:=indexByte_ge s c
  obtain⟨o,ho⟩:∃ o:Nat,indexByte s c=o:=⟨(indexByte s c).toNat,by omega⟩
  exact absurd (List.mem_of_getElem? (indexByte_some ho).1) h
theorem ynm (c : UInt8) : ∀ (k : Nat) (s : List UInt8), splitK [c] 0 k s = (cutK c k s).1 ++ [(cutK c k s).2]
 | 0,s=>by rw[ysh];rfl
 | k+1,s=>by
  rcases ymj c s with h|⟨l,t,rfl,h⟩
  ·rw[yqe c _ s h,splitK,y30 h,if_pos (by decide)]
   rfl
  ·rw[y4c c k l t h,splitK,if_neg (by rw[yax h];simp),yax h]
   have e1:(l++c::t).drop ((l.length:Int).toNat+[c].length)=t:=by
    simp
   rw[e1,ynm c k t];simp
theorem ykp (c:UInt8) (k:Nat) (s:List UInt8):(cutK c k s).1.length<=k/\(cutK c k s).1.length+(cutK c k s).2.length<=s.length/\∀ x∈(cutK c k s).1,x.length<=s.length:=by
 induction k generalizing s with
 | zero=>rw[ysh];simp
 | succ k ih=>
  rcases ymj c s with h|⟨l,t,rfl,h⟩
  ·rw[yqe c _ s h];simp
  ·rw[y4c c k l t h]
   obtain⟨h1,h2,h3⟩:=ih t;simp only[List.length_cons,List.length_append,List.mem_cons];refine⟨by omega,by omega,fun x hx => ?_⟩;rcases hx with rfl|hx
   ·omega
   ·have:=h3 x hx;omega
theorem cut3 {c:UInt8} {s:List UInt8} (h:(cutK c 3 s).1.length=3):∃ a b d r,cutK c 3 s=([a,b,d],r)/\s=a++c::(b++c::(d++c::r))/\c∉a/\c∉b/\c∉d:=by
 rcases ymj c s with h1|⟨a,t,rfl,h1⟩
 ·rw[yqe c _ s h1]at h;cases h
 rw[y4c c 2 a t h1]at h ⊢;rcases ymj c t with h2|⟨b,t,rfl,h2⟩
 ·rw[yqe c _ t h2]at h;cases h
 rw[y4c c 1 b t h2]at h ⊢;rcases ymj c t with h3|⟨d,t,rfl,h3⟩
 ·rw[yqe c _ t h3]at h;cases h
 rw[y4c c 0 d t h3,ysh]at h ⊢;exact⟨a,b,d,t,rfl,rfl,h1,h2,h3⟩
end Go.Ab
namespace Go.Ab
open Go Go.Proofs
theorem ywh {ρ σ:Type} {b:σ->Except ρ σ} {s t:σ} {k:Nat} (h:b s=.ok t):yeb b (k+1) s=yeb b k t:=by
 simp only[yeb,h]
theorem yj2 {ρ σ:Type} {b:σ->Except ρ σ} {s:σ} {e:ρ} {k:Nat} (h:b s=.error e):yeb b (k+1) s=.error e:=by
 simp only[yeb,h]
end Go.Ab
namespace Go.Proofs
open Go.Shelf
def Tryz.lays156_ren:Go.Shelf.Ren:=⟨fun|156=>32|165=>72|166=>73|169=>74|240=>143|241=>144|276=>205|277=>206|n=>n,fun|31=>63|9=>9|3=>3|4=>4|0=>0|20=>20|72=>117|76=>119|70=>115|37=>22|75=>93|127=>164|164=>205|5=>5|80=>121|n=>n,fun|n=>n⟩
theorem Tryz.lays156 : Go.Proofs.Lays.n156 Tryz.prog Tryz.lays156_ren := {
 mixed:=by kernel_rfl
 f156:=Tryz.func32.trans (congrArg some (by kernel_rfl))
 f165:=Tryz.func72.trans (congrArg some (by kernel_rfl))
 f166:=Tryz.func73.trans (congrArg some (by kernel_rfl))
 f169:=Tryz.func74.trans (congrArg some (by kernel_rfl))
 f240:=Tryz.func143.trans (congrArg some (by kernel_rfl))
 f241:=Tryz.func144.trans (congrArg some (by kernel_rfl))
 f276:=Tryz.func205.trans (congrArg some (by kernel_rfl))
 f277:=Tryz.func206.trans (congrArg some (by kernel_rfl))
 t0:=Tryz.underlying0
 a0:=Tryz.isAgg0
 z0:=Tryz.sizeOf0
 v0:=Tryz.zeroValue0
 t3:=Tryz.underlying3
 a3:=Tryz.isAgg3
 z3:=Tryz.sizeOf3
 v3:=Tryz.zeroValue3
 t4:=Tryz.underlying4
 a4:=Tryz.isAgg4
 z4:=Tryz.sizeOf4
 v4:=Tryz.zeroValue4
 t9:=Tryz.underlying9
 a9:=Tryz.isAgg9
 z9:=Tryz.sizeOf9
 v9:=Tryz.zeroValue9
 t20:=Tryz.underlying20
 a20:=Tryz.isAgg20
 z20:=Tryz.sizeOf20
 v20:=Tryz.zeroValue20
 t31:=Tryz.underlying63
 a31:=Tryz.isAgg63
 z31:=Tryz.sizeOf63
 v31:=Tryz.zeroValue63
 t37:=Tryz.underlying22
 a37:=Tryz.isAgg22
 z37:=Tryz.sizeOf22
 v37:=Tryz.zeroValue22
 t70:=Tryz.underlying115
 a70:=Tryz.isAgg115
 z70:=Tryz.sizeOf115
 v70:=Tryz.zeroValue115
 t72:=Tryz.underlying117
 a72:=Tryz.isAgg117
 z72:=Tryz.sizeOf117
 v72:=Tryz.zeroValue117
 t75:=Tryz.underlying93
 a75:=Tryz.isAgg93
 z75:=Tryz.sizeOf93
 v75:=Tryz.zeroValue93
 t76:=Tryz.underlying119
 a76:=Tryz.isAgg119
 z76:=Tryz.sizeOf119
 v76:=Tryz.zeroValue119
 t127:=Tryz.underlying164
 a127:=Tryz.isAgg164
 z127:=Tryz.sizeOf164
 v127:=Tryz.zeroValue164
 t164:=Tryz.underlying205
 a164:=Tryz.isAgg205
 z164:=Tryz.sizeOf205
 v164:=Tryz.zeroValue205 }
theorem Tryz.Builder_Extra_156 : Builder.Extra Tryz.prog Tryz.lays156_ren := {
 sizeBuilder:=by kernel_rfl
 liesBuilder:=by kernel_rfl
 t5:=Tryz.underlying5
 a5:=Tryz.isAgg5
 z5:=Tryz.sizeOf5
 v5:=Tryz.zeroValue5
 infoByte:=by kernel_rfl
 cellsByte:=by kernel_rfl
 sizeByte:=by kernel_rfl
 neB5:=by decide }
def Tryz.lays137_ren:Go.Shelf.Ren:=⟨fun|137=>236|217=>223|266=>260|n=>n,fun|9=>9|5=>5|3=>3|n=>n,fun|n=>n⟩
theorem Tryz.lays137 : Go.Proofs.Lays.n137 Tryz.prog Tryz.lays137_ren := {
 mixed:=by kernel_rfl
 f137:=Tryz.func236.trans (congrArg some (by kernel_rfl))
 f217:=Tryz.func223.trans (congrArg some (by kernel_rfl))
 f266:=Tryz.func260.trans (congrArg some (by kernel_rfl))
 t3:=Tryz.underlying3
 a3:=Tryz.isAgg3
 z3:=Tryz.sizeOf3
 v3:=Tryz.zeroValue3
 t5:=Tryz.underlying5
 a5:=Tryz.isAgg5
 z5:=Tryz.sizeOf5
 v5:=Tryz.zeroValue5
 t9:=Tryz.underlying9
 a9:=Tryz.isAgg9
 z9:=Tryz.sizeOf9
 v9:=Tryz.zeroValue9 }
def Tryz.lays104_ren:Go.Shelf.Ren:=⟨fun|104=>188|211=>234|207=>235|n=>n,fun|9=>9|4=>4|24=>196|3=>3|n=>n,fun|n=>n⟩
theorem Tryz.lays104 : Go.Proofs.Lays.n104 Tryz.prog Tryz.lays104_ren := {
 mixed:=by kernel_rfl
 f104:=Tryz.func188.trans (congrArg some (by kernel_rfl))
 f207:=Tryz.func235.trans (congrArg some (by kernel_rfl))
 f211:=Tryz.func234.trans (congrArg some (by kernel_rfl))
 t3:=Tryz.underlying3
 a3:=Tryz.isAgg3
 z3:=Tryz.sizeOf3
 v3:=Tryz.zeroValue3
 t4:=Tryz.underlying4
 a4:=Tryz.isAgg4
 z4:=Tryz.sizeOf4
 v4:=Tryz.zeroValue4
 t9:=Tryz.underlying9
 a9:=Tryz.isAgg9
 z9:=Tryz.sizeOf9
 v9:=Tryz.zeroValue9
 t24:=Tryz.underlying196
 a24:=Tryz.isAgg196
 z24:=Tryz.sizeOf196
 v24:=Tryz.zeroValue196 }
def Tryz.laysM173_ren:Go.Shelf.Ren:=⟨fun|173=>66|246=>138|283=>200|284=>201|285=>202|286=>203|129=>248|317=>247|318=>249|319=>250|320=>251|337=>265|338=>266|n=>n,fun|2=>2|3=>3|9=>9|4=>4|171=>200|0=>0|53=>82|37=>22|5=>5|173=>203|212=>225|51=>226|20=>20|213=>227|46=>170|232=>254|233=>255|n=>n,fun|17=>3|18=>8|19=>9|n=>n⟩
theorem Tryz.laysM173 : Go.Proofs.LaysM.n173 Tryz.prog Tryz.laysM173_ren := {
 mixed:=by kernel_rfl
 f129:=Tryz.func248.trans (congrArg some (by kernel_rfl))
 f173:=Tryz.func66.trans (congrArg some (by kernel_rfl))
 f246:=Tryz.func138.trans (congrArg some (by kernel_rfl))
 f283:=Tryz.func200.trans (congrArg some (by kernel_rfl))
 f284:=Tryz.func201.trans (congrArg some (by kernel_rfl))
 f285:=Tryz.func202.trans (congrArg some (by kernel_rfl))
 f286:=Tryz.func203.trans (congrArg some (by kernel_rfl))
 f317:=Tryz.func247.trans (congrArg some (by kernel_rfl))
 f318:=Tryz.func249.trans (congrArg some (by kernel_rfl))
 f319:=Tryz.func250.trans (congrArg some (by kernel_rfl))
 f320:=Tryz.func251.trans (congrArg some (by kernel_rfl))
 f337:=Tryz.func265.trans (congrArg some (by kernel_rfl))
 f338:=Tryz.func266.trans (congrArg some (by kernel_rfl))
 t0:=Tryz.underlying0
 a0:=Tryz.isAgg0
 z0:=Tryz.sizeOf0
 v0:=Tryz.zeroValue0
 t2:=Tryz.underlying2
 a2:=Tryz.isAgg2
 z2:=Tryz.sizeOf2
 v2:=Tryz.zeroValue2
 t3:=Tryz.underlying3
 a3:=Tryz.isAgg3
 z3:=Tryz.sizeOf3
 v3:=Tryz.zeroValue3
 t4:=Tryz.underlying4
 a4:=Tryz.isAgg4
 z4:=Tryz.sizeOf4
 v4:=Tryz.zeroValue4
 t5:=Tryz.underlying5
 a5:=Tryz.isAgg5
 z5:=Tryz.sizeOf5
 v5:=Tryz.zeroValue5
 t9:=Tryz.underlying9
 a9:=Tryz.isAgg9
 z9:=Tryz.sizeOf9
 v9:=Tryz.zeroValue9
 t20:=Tryz.underlying20
 a20:=Tryz.isAgg20
 z20:=Tryz.sizeOf20
 v20:=Tryz.zeroValue20
 t37:=Tryz.underlying22
 a37:=Tryz.isAgg22
 z37:=Tryz.sizeOf22
 v37:=Tryz.zeroValue22
 t46:=Tryz.underlying170
 a46:=Tryz.isAgg170
 z46:=Tryz.sizeOf170
 v46:=Tryz.zeroValue170
 t51:=Tryz.underlying226
 a51:=Tryz.isAgg226
 z51:=Tryz.sizeOf226
 v51:=Tryz.zeroValue226
 t53:=Tryz.underlying82
 a53:=Tryz.isAgg82
 z53:=Tryz.sizeOf82
 v53:=Tryz.zeroValue82
 t171:=Tryz.underlying200
 a171:=Tryz.isAgg200
 z171:=Tryz.sizeOf200
 v171:=Tryz.zeroValue200
 t173:=Tryz.underlying203
 a173:=Tryz.isAgg203
 z173:=Tryz.sizeOf203
 v173:=Tryz.zeroValue203
 t212:=Tryz.underlying225
 a212:=Tryz.isAgg225
 z212:=Tryz.sizeOf225
 v212:=Tryz.zeroValue225
 t213:=Tryz.underlying227
 a213:=Tryz.isAgg227
 z213:=Tryz.sizeOf227
 t232:=Tryz.underlying254
 a232:=Tryz.isAgg254
 z232:=Tryz.sizeOf254
 v232:=Tryz.zeroValue254
 t233:=Tryz.underlying255
 a233:=Tryz.isAgg255
 z233:=Tryz.sizeOf255
 v233:=Tryz.zeroValue255
 g17:=by kernel_rfl
 g18:=by kernel_rfl
 g19:=by kernel_rfl
 i0:=by kernel_rfl
 i2:=by kernel_rfl
 i3:=by kernel_rfl
 i4:=by kernel_rfl
 i5:=by kernel_rfl
 i9:=by kernel_rfl
 i20:=by kernel_rfl
 i37:=by kernel_rfl
 i46:=by kernel_rfl
 i51:=by kernel_rfl
 i53:=by kernel_rfl
 i171:=by kernel_rfl
 i173:=by kernel_rfl
 i212:=by kernel_rfl
 i232:=by kernel_rfl
 i233:=by kernel_rfl
 m17:=by kernel_rfl
 m18:=by kernel_rfl
 m19:=by kernel_rfl }
def Tryz.laysC174_ren:Go.Shelf.Ren:=⟨fun|174=>54|247=>115|245=>116|287=>175|279=>176|280=>177|281=>178|282=>179|321=>227|322=>228|316=>229|171=>231|205=>230|243=>262|246=>138|283=>200|284=>201|285=>202|286=>203|129=>248|317=>247|318=>249|319=>250|320=>251|337=>265|338=>266|n=>n,fun|9=>9|3=>3|2=>2|75=>93|85=>94|4=>4|167=>188|5=>5|53=>82|175=>189|46=>170|168=>191|37=>22|0=>0|210=>220|21=>21|127=>164|145=>244|143=>242|171=>200|173=>203|212=>225|51=>226|20=>20|213=>227|232=>254|233=>255|80=>121|n=>n,fun|15=>1|16=>2|17=>3|18=>8|19=>9|n=>n⟩
theorem Tryz.laysC174 : Go.Proofs.LaysC.n174 Tryz.prog Tryz.laysC174_ren := {
 mixed:=by kernel_rfl
 f129:=Tryz.func248.trans (congrArg some (by kernel_rfl))
 f171:=Tryz.func231.trans (congrArg some (by kernel_rfl))
 f174:=Tryz.func54.trans (congrArg some (by kernel_rfl))
 f205:=Tryz.func230.trans (congrArg some (by kernel_rfl))
 f243:=Tryz.func262.trans (congrArg some (by kernel_rfl))
 f245:=Tryz.func116.trans (congrArg some (by kernel_rfl))
 f246:=Tryz.func138.trans (congrArg some (by kernel_rfl))
 f247:=Tryz.func115.trans (congrArg some (by kernel_rfl))
 f279:=Tryz.func176.trans (congrArg some (by kernel_rfl))
 f280:=Tryz.func177.trans (congrArg some (by kernel_rfl))
 f281:=Tryz.func178.trans (congrArg some (by kernel_rfl))
 f282:=Tryz.func179.trans (congrArg some (by kernel_rfl))
 f283:=Tryz.func200.trans (congrArg some (by kernel_rfl))
 f284:=Tryz.func201.trans (congrArg some (by kernel_rfl))
 f285:=Tryz.func202.trans (congrArg some (by kernel_rfl))
 f286:=Tryz.func203.trans (congrArg some (by kernel_rfl))
 f287:=Tryz.func175.trans (congrArg some (by kernel_rfl))
 f316:=Tryz.func229.trans (congrArg some (by kernel_rfl))
 f317:=Tryz.func247.trans (congrArg some (by kernel_rfl))
 f318:=Tryz.func249.trans (congrArg some (by kernel_rfl))
 f319:=Tryz.func250.trans (congrArg some (by kernel_rfl))
 f320:=Tryz.func251.trans (congrArg some (by kernel_rfl))
 f321:=Tryz.func227.trans (congrArg some (by kernel_rfl))
 f322:=Tryz.func228.trans (congrArg some (by kernel_rfl))
 f337:=Tryz.func265.trans (congrArg some (by kernel_rfl))
 f338:=Tryz.func266.trans (congrArg some (by kernel_rfl))
 t0:=Tryz.underlying0
 a0:=Tryz.isAgg0
 z0:=Tryz.sizeOf0
 v0:=Tryz.zeroValue0
 t2:=Tryz.underlying2
 a2:=Tryz.isAgg2
 z2:=Tryz.sizeOf2
 v2:=Tryz.zeroValue2
 t3:=Tryz.underlying3
 a3:=Tryz.isAgg3
 z3:=Tryz.sizeOf3
 v3:=Tryz.zeroValue3
 t4:=Tryz.underlying4
 a4:=Tryz.isAgg4
 z4:=Tryz.sizeOf4
 v4:=Tryz.zeroValue4
 t5:=Tryz.underlying5
 a5:=Tryz.isAgg5
 z5:=Tryz.sizeOf5
 v5:=Tryz.zeroValue5
 t9:=Tryz.underlying9
 a9:=Tryz.isAgg9
 z9:=Tryz.sizeOf9
 v9:=Tryz.zeroValue9
 t20:=Tryz.underlying20
 a20:=Tryz.isAgg20
 z20:=Tryz.sizeOf20
 v20:=Tryz.zeroValue20
 t21:=Tryz.underlying21
 a21:=Tryz.isAgg21
 z21:=Tryz.sizeOf21
 v21:=Tryz.zeroValue21
 t37:=Tryz.underlying22
 a37:=Tryz.isAgg22
 z37:=Tryz.sizeOf22
 v37:=Tryz.zeroValue22
 t46:=Tryz.underlying170
 a46:=Tryz.isAgg170
 z46:=Tryz.sizeOf170
 v46:=Tryz.zeroValue170
 t51:=Tryz.underlying226
 a51:=Tryz.isAgg226
 z51:=Tryz.sizeOf226
 v51:=Tryz.zeroValue226
 t53:=Tryz.underlying82
 a53:=Tryz.isAgg82
 z53:=Tryz.sizeOf82
 v53:=Tryz.zeroValue82
 t75:=Tryz.underlying93
 a75:=Tryz.isAgg93
 z75:=Tryz.sizeOf93
 v75:=Tryz.zeroValue93
 t85:=Tryz.underlying94
 a85:=Tryz.isAgg94
 z85:=Tryz.sizeOf94
 v85:=Tryz.zeroValue94
 t127:=Tryz.underlying164
 a127:=Tryz.isAgg164
 z127:=Tryz.sizeOf164
 v127:=Tryz.zeroValue164
 t143:=Tryz.underlying242
 a143:=Tryz.isAgg242
 z143:=Tryz.sizeOf242
 v143:=Tryz.zeroValue242
 t145:=Tryz.underlying244
 a145:=Tryz.isAgg244
 z145:=Tryz.sizeOf244
 v145:=Tryz.zeroValue244
 t167:=Tryz.underlying188
 a167:=Tryz.isAgg188
 z167:=Tryz.sizeOf188
 v167:=Tryz.zeroValue188
 t168:=Tryz.underlying191
 a168:=Tryz.isAgg191
 z168:=Tryz.sizeOf191
 v168:=Tryz.zeroValue191
 t171:=Tryz.underlying200
 a171:=Tryz.isAgg200
 z171:=Tryz.sizeOf200
 v171:=Tryz.zeroValue200
 t173:=Tryz.underlying203
 a173:=Tryz.isAgg203
 z173:=Tryz.sizeOf203
 v173:=Tryz.zeroValue203
 t175:=Tryz.underlying189
 a175:=Tryz.isAgg189
 z175:=Tryz.sizeOf189
 v175:=Tryz.zeroValue189
 t210:=Tryz.underlying220
 a210:=Tryz.isAgg220
 z210:=Tryz.sizeOf220
 v210:=Tryz.zeroValue220
 t212:=Tryz.underlying225
 a212:=Tryz.isAgg225
 z212:=Tryz.sizeOf225
 v212:=Tryz.zeroValue225
 t213:=Tryz.underlying227
 a213:=Tryz.isAgg227
 z213:=Tryz.sizeOf227
 t232:=Tryz.underlying254
 a232:=Tryz.isAgg254
 z232:=Tryz.sizeOf254
 v232:=Tryz.zeroValue254
 t233:=Tryz.underlying255
 a233:=Tryz.isAgg255
 z233:=Tryz.sizeOf255
 v233:=Tryz.zeroValue255
 g15:=by kernel_rfl
 g16:=by kernel_rfl
 g17:=by kernel_rfl
 g18:=by kernel_rfl
 g19:=by kernel_rfl
 t80:=Tryz.underlying121
 a80:=Tryz.isAgg121
 z80:=Tryz.sizeOf121
 v80:=Tryz.zeroValue121
 i0:=by kernel_rfl
 i2:=by kernel_rfl
 i3:=by kernel_rfl
 i4:=by kernel_rfl
 i5:=by kernel_rfl
 i9:=by kernel_rfl
 i20:=by kernel_rfl
 i21:=by kernel_rfl
 i37:=by kernel_rfl
 i46:=by kernel_rfl
 i51:=by kernel_rfl
 i53:=by kernel_rfl
 i75:=by kernel_rfl
 i80:=by kernel_rfl
 i85:=by kernel_rfl
 i127:=by kernel_rfl
 i143:=by kernel_rfl
 i145:=by kernel_rfl
 i167:=by kernel_rfl
 i168:=by kernel_rfl
 i171:=by kernel_rfl
 i173:=by kernel_rfl
 i175:=by kernel_rfl
 i210:=by kernel_rfl
 i212:=by kernel_rfl
 i232:=by kernel_rfl
 i233:=by kernel_rfl
 m15:=by kernel_rfl
 m16:=by kernel_rfl
 m17:=by kernel_rfl
 m18:=by kernel_rfl
 m19:=by kernel_rfl
 c0:=by kernel_rfl
 c2:=by kernel_rfl
 c3:=by kernel_rfl
 c4:=by kernel_rfl
 c5:=by kernel_rfl
 c9:=by kernel_rfl
 c20:=by kernel_rfl
 c21:=by kernel_rfl
 c37:=by kernel_rfl
 c46:=by kernel_rfl
 c51:=by kernel_rfl
 c53:=by kernel_rfl
 c75:=by kernel_rfl
 c80:=by kernel_rfl
 c85:=by kernel_rfl
 c127:=by kernel_rfl
 c143:=by kernel_rfl
 c145:=by kernel_rfl
 c167:=by kernel_rfl
 c168:=by kernel_rfl
 c171:=by kernel_rfl
 c173:=by kernel_rfl
 c175:=by kernel_rfl
 c210:=by kernel_rfl
 c212:=by kernel_rfl
 c213:=by kernel_rfl
 c232:=by kernel_rfl
 c233:=by kernel_rfl }
def Tryz.lays144_ren:Go.Shelf.Ren:=⟨fun|144=>204|143=>113|219=>173|217=>223|225=>224|224=>225|267=>226|266=>260|314=>261|n=>n,fun|9=>9|4=>4|3=>3|5=>5|46=>170|146=>230|51=>226|n=>n,fun|1=>0|n=>n⟩
theorem Tryz.lays144 : Go.Proofs.Lays.n144 Tryz.prog Tryz.lays144_ren := {
 mixed:=by kernel_rfl
 f143:=Tryz.func113.trans (congrArg some (by kernel_rfl))
 f144:=Tryz.func204.trans (congrArg some (by kernel_rfl))
 f217:=Tryz.func223.trans (congrArg some (by kernel_rfl))
 f219:=Tryz.func173.trans (congrArg some (by kernel_rfl))
 f224:=Tryz.func225.trans (congrArg some (by kernel_rfl))
 f225:=Tryz.func224.trans (congrArg some (by kernel_rfl))
 f266:=Tryz.func260.trans (congrArg some (by kernel_rfl))
 f267:=Tryz.func226.trans (congrArg some (by kernel_rfl))
 f314:=Tryz.func261.trans (congrArg some (by kernel_rfl))
 t3:=Tryz.underlying3
 a3:=Tryz.isAgg3
 z3:=Tryz.sizeOf3
 v3:=Tryz.zeroValue3
 t4:=Tryz.underlying4
 a4:=Tryz.isAgg4
 z4:=Tryz.sizeOf4
 v4:=Tryz.zeroValue4
 t5:=Tryz.underlying5
 a5:=Tryz.isAgg5
 z5:=Tryz.sizeOf5
 v5:=Tryz.zeroValue5
 t9:=Tryz.underlying9
 a9:=Tryz.isAgg9
 z9:=Tryz.sizeOf9
 v9:=Tryz.zeroValue9
 t46:=Tryz.underlying170
 a46:=Tryz.isAgg170
 z46:=Tryz.sizeOf170
 v46:=Tryz.zeroValue170
 t51:=Tryz.underlying226
 a51:=Tryz.isAgg226
 z51:=Tryz.sizeOf226
 v51:=Tryz.zeroValue226
 t146:=Tryz.underlying230
 a146:=Tryz.isAgg230
 z146:=Tryz.sizeOf230
 v146:=Tryz.zeroValue230
 g1:=by kernel_rfl }
def Tryz.lays145_ren:Go.Shelf.Ren:=⟨fun|145=>122|220=>182|219=>173|217=>223|225=>224|224=>225|267=>226|266=>260|314=>261|n=>n,fun|9=>9|4=>4|59=>159|3=>3|5=>5|46=>170|146=>230|51=>226|n=>n,fun|1=>0|n=>n⟩
theorem Tryz.lays145 : Go.Proofs.Lays.n145 Tryz.prog Tryz.lays145_ren := {
 mixed:=by kernel_rfl
 f145:=Tryz.func122.trans (congrArg some (by kernel_rfl))
 f217:=Tryz.func223.trans (congrArg some (by kernel_rfl))
 f219:=Tryz.func173.trans (congrArg some (by kernel_rfl))
 f220:=Tryz.func182.trans (congrArg some (by kernel_rfl))
 f224:=Tryz.func225.trans (congrArg some (by kernel_rfl))
 f225:=Tryz.func224.trans (congrArg some (by kernel_rfl))
 f266:=Tryz.func260.trans (congrArg some (by kernel_rfl))
 f267:=Tryz.func226.trans (congrArg some (by kernel_rfl))
 f314:=Tryz.func261.trans (congrArg some (by kernel_rfl))
 t3:=Tryz.underlying3
 a3:=Tryz.isAgg3
 z3:=Tryz.sizeOf3
 v3:=Tryz.zeroValue3
 t4:=Tryz.underlying4
 a4:=Tryz.isAgg4
 z4:=Tryz.sizeOf4
 v4:=Tryz.zeroValue4
 t5:=Tryz.underlying5
 a5:=Tryz.isAgg5
 z5:=Tryz.sizeOf5
 v5:=Tryz.zeroValue5
 t9:=Tryz.underlying9
 a9:=Tryz.isAgg9
 z9:=Tryz.sizeOf9
 v9:=Tryz.zeroValue9
 t46:=Tryz.underlying170
 a46:=Tryz.isAgg170
 z46:=Tryz.sizeOf170
 v46:=Tryz.zeroValue170
 t51:=Tryz.underlying226
 a51:=Tryz.isAgg226
 z51:=Tryz.sizeOf226
 v51:=Tryz.zeroValue226
 t59:=Tryz.underlying159
 a59:=Tryz.isAgg159
 z59:=Tryz.sizeOf159
 v59:=Tryz.zeroValue159
 t146:=Tryz.underlying230
 a146:=Tryz.isAgg230
 z146:=Tryz.sizeOf230
 v146:=Tryz.zeroValue230
 g1:=by kernel_rfl }
def Tryz.lays101_ren:Go.Shelf.Ren:=⟨fun|101=>53|208=>114|206=>174|n=>n,fun|9=>9|4=>4|3=>3|n=>n,fun|n=>n⟩
theorem Tryz.lays101 : Go.Proofs.Lays.n101 Tryz.prog Tryz.lays101_ren := {
 mixed:=by kernel_rfl
 f101:=Tryz.func53.trans (congrArg some (by kernel_rfl))
 f206:=Tryz.func174.trans (congrArg some (by kernel_rfl))
 f208:=Tryz.func114.trans (congrArg some (by kernel_rfl))
 t3:=Tryz.underlying3
 a3:=Tryz.isAgg3
 z3:=Tryz.sizeOf3
 v3:=Tryz.zeroValue3
 t4:=Tryz.underlying4
 a4:=Tryz.isAgg4
 z4:=Tryz.sizeOf4
 v4:=Tryz.zeroValue4
 t9:=Tryz.underlying9
 a9:=Tryz.isAgg9
 z9:=Tryz.sizeOf9
 v9:=Tryz.zeroValue9 }
def Tryz.lays102_ren:Go.Shelf.Ren:=⟨fun|102=>130|209=>190|207=>235|n=>n,fun|9=>9|4=>4|3=>3|n=>n,fun|n=>n⟩
theorem Tryz.lays102 : Go.Proofs.Lays.n102 Tryz.prog Tryz.lays102_ren := {
 mixed:=by kernel_rfl
 f102:=Tryz.func130.trans (congrArg some (by kernel_rfl))
 f207:=Tryz.func235.trans (congrArg some (by kernel_rfl))
 f209:=Tryz.func190.trans (congrArg some (by kernel_rfl))
 t3:=Tryz.underlying3
 a3:=Tryz.isAgg3
 z3:=Tryz.sizeOf3
 v3:=Tryz.zeroValue3
 t4:=Tryz.underlying4
 a4:=Tryz.isAgg4
 z4:=Tryz.sizeOf4
 v4:=Tryz.zeroValue4
 t9:=Tryz.underlying9
 a9:=Tryz.isAgg9
 z9:=Tryz.sizeOf9
 v9:=Tryz.zeroValue9 }
def Tryz.lays146_ren:Go.Shelf.Ren:=⟨fun|146=>55|221=>52|268=>111|138=>112|143=>113|195=>170|197=>171|218=>172|219=>173|260=>222|217=>223|225=>224|224=>225|267=>226|266=>260|314=>261|n=>n,fun|9=>9|31=>63|3=>3|4=>4|0=>0|105=>184|21=>21|5=>5|46=>170|119=>237|139=>240|138=>239|146=>230|51=>226|n=>n,fun|1=>0|3=>4|4=>5|n=>n⟩
theorem Tryz.lays146 : Go.Proofs.Lays.n146 Tryz.prog Tryz.lays146_ren := {
 mixed:=by kernel_rfl
 f138:=Tryz.func112.trans (congrArg some (by kernel_rfl))
 f143:=Tryz.func113.trans (congrArg some (by kernel_rfl))
 f146:=Tryz.func55.trans (congrArg some (by kernel_rfl))
 f195:=Tryz.func170.trans (congrArg some (by kernel_rfl))
 f197:=Tryz.func171.trans (congrArg some (by kernel_rfl))
 f217:=Tryz.func223.trans (congrArg some (by kernel_rfl))
 f218:=Tryz.func172.trans (congrArg some (by kernel_rfl))
 f219:=Tryz.func173.trans (congrArg some (by kernel_rfl))
 f221:=Tryz.func52.trans (congrArg some (by kernel_rfl))
 f224:=Tryz.func225.trans (congrArg some (by kernel_rfl))
 f225:=Tryz.func224.trans (congrArg some (by kernel_rfl))
 f260:=Tryz.func222.trans (congrArg some (by kernel_rfl))
 f266:=Tryz.func260.trans (congrArg some (by kernel_rfl))
 f267:=Tryz.func226.trans (congrArg some (by kernel_rfl))
 f268:=Tryz.func111.trans (congrArg some (by kernel_rfl))
 f314:=Tryz.func261.trans (congrArg some (by kernel_rfl))
 t0:=Tryz.underlying0
 a0:=Tryz.isAgg0
 z0:=Tryz.sizeOf0
 v0:=Tryz.zeroValue0
 t3:=Tryz.underlying3
 a3:=Tryz.isAgg3
 z3:=Tryz.sizeOf3
 v3:=Tryz.zeroValue3
 t4:=Tryz.underlying4
 a4:=Tryz.isAgg4
 z4:=Tryz.sizeOf4
 v4:=Tryz.zeroValue4
 t5:=Tryz.underlying5
 a5:=Tryz.isAgg5
 z5:=Tryz.sizeOf5
 v5:=Tryz.zeroValue5
 t9:=Tryz.underlying9
 a9:=Tryz.isAgg9
 z9:=Tryz.sizeOf9
 v9:=Tryz.zeroValue9
 t21:=Tryz.underlying21
 a21:=Tryz.isAgg21
 z21:=Tryz.sizeOf21
 v21:=Tryz.zeroValue21
 t31:=Tryz.underlying63
 a31:=Tryz.isAgg63
 z31:=Tryz.sizeOf63
 v31:=Tryz.zeroValue63
 t46:=Tryz.underlying170
 a46:=Tryz.isAgg170
 z46:=Tryz.sizeOf170
 v46:=Tryz.zeroValue170
 t51:=Tryz.underlying226
 a51:=Tryz.isAgg226
 z51:=Tryz.sizeOf226
 v51:=Tryz.zeroValue226
 t105:=Tryz.underlying184
 a105:=Tryz.isAgg184
 z105:=Tryz.sizeOf184
 v105:=Tryz.zeroValue184
 t119:=Tryz.underlying237
 a119:=Tryz.isAgg237
 z119:=Tryz.sizeOf237
 t138:=Tryz.underlying239
 a138:=Tryz.isAgg239
 z138:=Tryz.sizeOf239
 v138:=Tryz.zeroValue239
 t139:=Tryz.underlying240
 a139:=Tryz.isAgg240
 z139:=Tryz.sizeOf240
 v139:=Tryz.zeroValue240
 t146:=Tryz.underlying230
 a146:=Tryz.isAgg230
 z146:=Tryz.sizeOf230
 v146:=Tryz.zeroValue230
 g1:=by kernel_rfl
 g3:=by kernel_rfl
 g4:=by kernel_rfl }
def Tryz.lays147_ren:Go.Shelf.Ren:=⟨fun|147=>23|221=>52|268=>111|138=>112|143=>113|195=>170|197=>171|218=>172|219=>173|260=>222|217=>223|225=>224|224=>225|267=>226|266=>260|314=>261|n=>n,fun|9=>9|3=>3|31=>63|4=>4|0=>0|105=>184|21=>21|5=>5|46=>170|119=>237|139=>240|138=>239|146=>230|51=>226|n=>n,fun|1=>0|3=>4|4=>5|n=>n⟩
theorem Tryz.lays147 : Go.Proofs.Lays.n147 Tryz.prog Tryz.lays147_ren := {
 mixed:=by kernel_rfl
 f138:=Tryz.func112.trans (congrArg some (by kernel_rfl))
 f143:=Tryz.func113.trans (congrArg some (by kernel_rfl))
 f147:=Tryz.func23.trans (congrArg some (by kernel_rfl))
 f195:=Tryz.func170.trans (congrArg some (by kernel_rfl))
 f197:=Tryz.func171.trans (congrArg some (by kernel_rfl))
 f217:=Tryz.func223.trans (congrArg some (by kernel_rfl))
 f218:=Tryz.func172.trans (congrArg some (by kernel_rfl))
 f219:=Tryz.func173.trans (congrArg some (by kernel_rfl))
 f221:=Tryz.func52.trans (congrArg some (by kernel_rfl))
 f224:=Tryz.func225.trans (congrArg some (by kernel_rfl))
 f225:=Tryz.func224.trans (congrArg some (by kernel_rfl))
 f260:=Tryz.func222.trans (congrArg some (by kernel_rfl))
 f266:=Tryz.func260.trans (congrArg some (by kernel_rfl))
 f267:=Tryz.func226.trans (congrArg some (by kernel_rfl))
 f268:=Tryz.func111.trans (congrArg some (by kernel_rfl))
 f314:=Tryz.func261.trans (congrArg some (by kernel_rfl))
 t0:=Tryz.underlying0
 a0:=Tryz.isAgg0
 z0:=Tryz.sizeOf0
 v0:=Tryz.zeroValue0
 t3:=Tryz.underlying3
 a3:=Tryz.isAgg3
 z3:=Tryz.sizeOf3
 v3:=Tryz.zeroValue3
 t4:=Tryz.underlying4
 a4:=Tryz.isAgg4
 z4:=Tryz.sizeOf4
 v4:=Tryz.zeroValue4
 t5:=Tryz.underlying5
 a5:=Tryz.isAgg5
 z5:=Tryz.sizeOf5
 v5:=Tryz.zeroValue5
 t9:=Tryz.underlying9
 a9:=Tryz.isAgg9
 z9:=Tryz.sizeOf9
 v9:=Tryz.zeroValue9
 t21:=Tryz.underlying21
 a21:=Tryz.isAgg21
 z21:=Tryz.sizeOf21
 v21:=Tryz.zeroValue21
 t31:=Tryz.underlying63
 a31:=Tryz.isAgg63
 z31:=Tryz.sizeOf63
 v31:=Tryz.zeroValue63
 t46:=Tryz.underlying170
 a46:=Tryz.isAgg170
 z46:=Tryz.sizeOf170
 v46:=Tryz.zeroValue170
 t51:=Tryz.underlying226
 a51:=Tryz.isAgg226
 z51:=Tryz.sizeOf226
 v51:=Tryz.zeroValue226
 t105:=Tryz.underlying184
 a105:=Tryz.isAgg184
 z105:=Tryz.sizeOf184
 v105:=Tryz.zeroValue184
 t119:=Tryz.underlying237
 a119:=Tryz.isAgg237
 z119:=Tryz.sizeOf237
 t138:=Tryz.underlying239
 a138:=Tryz.isAgg239
 z138:=Tryz.sizeOf239
 v138:=Tryz.zeroValue239
 t139:=Tryz.underlying240
 a139:=Tryz.isAgg240
 z139:=Tryz.sizeOf240
 v139:=Tryz.zeroValue240
 t146:=Tryz.underlying230
 a146:=Tryz.isAgg230
 z146:=Tryz.sizeOf230
 v146:=Tryz.zeroValue230
 g1:=by kernel_rfl
 g3:=by kernel_rfl
 g4:=by kernel_rfl }
def Tryz.lays157_ren:Go.Shelf.Ren:=⟨fun|157=>233|229=>263|199=>264|261=>268|311=>270|312=>271|n=>n,fun|9=>9|31=>63|3=>3|5=>5|4=>4|119=>237|0=>0|40=>246|152=>249|21=>21|154=>251|51=>226|141=>253|196=>260|193=>257|198=>263|49=>261|194=>258|201=>266|226=>268|46=>170|227=>269|n=>n,fun|0=>6|6=>7|n=>n⟩
theorem Tryz.lays157 : Go.Proofs.Lays.n157 Tryz.prog Tryz.lays157_ren := {
 mixed:=by kernel_rfl
 f157:=Tryz.func233.trans (congrArg some (by kernel_rfl))
 f199:=Tryz.func264.trans (congrArg some (by kernel_rfl))
 f229:=Tryz.func263.trans (congrArg some (by kernel_rfl))
 f261:=Tryz.func268.trans (congrArg some (by kernel_rfl))
 f311:=Tryz.func270.trans (congrArg some (by kernel_rfl))
 f312:=Tryz.func271.trans (congrArg some (by kernel_rfl))
 t0:=Tryz.underlying0
 a0:=Tryz.isAgg0
 z0:=Tryz.sizeOf0
 v0:=Tryz.zeroValue0
 t3:=Tryz.underlying3
 a3:=Tryz.isAgg3
 z3:=Tryz.sizeOf3
 v3:=Tryz.zeroValue3
 t4:=Tryz.underlying4
 a4:=Tryz.isAgg4
 z4:=Tryz.sizeOf4
 v4:=Tryz.zeroValue4
 t5:=Tryz.underlying5
 a5:=Tryz.isAgg5
 z5:=Tryz.sizeOf5
 v5:=Tryz.zeroValue5
 t9:=Tryz.underlying9
 a9:=Tryz.isAgg9
 z9:=Tryz.sizeOf9
 v9:=Tryz.zeroValue9
 t21:=Tryz.underlying21
 a21:=Tryz.isAgg21
 z21:=Tryz.sizeOf21
 v21:=Tryz.zeroValue21
 t31:=Tryz.underlying63
 a31:=Tryz.isAgg63
 z31:=Tryz.sizeOf63
 v31:=Tryz.zeroValue63
 t40:=Tryz.underlying246
 a40:=Tryz.isAgg246
 z40:=Tryz.sizeOf246
 v40:=Tryz.zeroValue246
 t46:=Tryz.underlying170
 a46:=Tryz.isAgg170
 z46:=Tryz.sizeOf170
 v46:=Tryz.zeroValue170
 t49:=Tryz.underlying261
 a49:=Tryz.isAgg261
 z49:=Tryz.sizeOf261
 v49:=Tryz.zeroValue261
 t51:=Tryz.underlying226
 a51:=Tryz.isAgg226
 z51:=Tryz.sizeOf226
 v51:=Tryz.zeroValue226
 t119:=Tryz.underlying237
 a119:=Tryz.isAgg237
 z119:=Tryz.sizeOf237
 t141:=Tryz.underlying253
 a141:=Tryz.isAgg253
 z141:=Tryz.sizeOf253
 v141:=Tryz.zeroValue253
 t152:=Tryz.underlying249
 a152:=Tryz.isAgg249
 z152:=Tryz.sizeOf249
 v152:=Tryz.zeroValue249
 t154:=Tryz.underlying251
 a154:=Tryz.isAgg251
 z154:=Tryz.sizeOf251
 v154:=Tryz.zeroValue251
 t193:=Tryz.underlying257
 a193:=Tryz.isAgg257
 z193:=Tryz.sizeOf257
 v193:=Tryz.zeroValue257
 t194:=Tryz.underlying258
 a194:=Tryz.isAgg258
 z194:=Tryz.sizeOf258
 v194:=Tryz.zeroValue258
 t196:=Tryz.underlying260
 a196:=Tryz.isAgg260
 z196:=Tryz.sizeOf260
 v196:=Tryz.zeroValue260
 t198:=Tryz.underlying263
 a198:=Tryz.isAgg263
 z198:=Tryz.sizeOf263
 v198:=Tryz.zeroValue263
 t201:=Tryz.underlying266
 a201:=Tryz.isAgg266
 z201:=Tryz.sizeOf266
 v201:=Tryz.zeroValue266
 t226:=Tryz.underlying268
 a226:=Tryz.isAgg268
 z226:=Tryz.sizeOf268
 v226:=Tryz.zeroValue268
 t227:=Tryz.underlying269
 a227:=Tryz.isAgg269
 z227:=Tryz.sizeOf269
 v227:=Tryz.zeroValue269
 g0:=by kernel_rfl
 g6:=by kernel_rfl }
def Tryz.lays105_ren:Go.Shelf.Ren:=⟨fun|105=>146|212=>207|99=>208|165=>72|166=>73|170=>209|169=>74|263=>252|264=>253|206=>174|240=>143|241=>144|276=>205|277=>206|n=>n,fun|9=>9|3=>3|4=>4|20=>20|0=>0|46=>170|109=>208|5=>5|72=>117|76=>119|51=>226|146=>230|53=>82|148=>232|70=>115|37=>22|75=>93|127=>164|164=>205|80=>121|n=>n,fun|n=>n⟩
theorem Tryz.lays105 : Go.Proofs.Lays.n105 Tryz.prog Tryz.lays105_ren := {
 mixed:=by kernel_rfl
 f99:=Tryz.func208.trans (congrArg some (by kernel_rfl))
 f105:=Tryz.func146.trans (congrArg some (by kernel_rfl))
 f165:=Tryz.func72.trans (congrArg some (by kernel_rfl))
 f166:=Tryz.func73.trans (congrArg some (by kernel_rfl))
 f169:=Tryz.func74.trans (congrArg some (by kernel_rfl))
 f170:=Tryz.func209.trans (congrArg some (by kernel_rfl))
 f206:=Tryz.func174.trans (congrArg some (by kernel_rfl))
 f212:=Tryz.func207.trans (congrArg some (by kernel_rfl))
 f240:=Tryz.func143.trans (congrArg some (by kernel_rfl))
 f241:=Tryz.func144.trans (congrArg some (by kernel_rfl))
 f263:=Tryz.func252.trans (congrArg some (by kernel_rfl))
 f264:=Tryz.func253.trans (congrArg some (by kernel_rfl))
 f276:=Tryz.func205.trans (congrArg some (by kernel_rfl))
 f277:=Tryz.func206.trans (congrArg some (by kernel_rfl))
 t0:=Tryz.underlying0
 a0:=Tryz.isAgg0
 z0:=Tryz.sizeOf0
 v0:=Tryz.zeroValue0
 t3:=Tryz.underlying3
 a3:=Tryz.isAgg3
 z3:=Tryz.sizeOf3
 v3:=Tryz.zeroValue3
 t4:=Tryz.underlying4
 a4:=Tryz.isAgg4
 z4:=Tryz.sizeOf4
 v4:=Tryz.zeroValue4
 t5:=Tryz.underlying5
 a5:=Tryz.isAgg5
 z5:=Tryz.sizeOf5
 v5:=Tryz.zeroValue5
 t9:=Tryz.underlying9
 a9:=Tryz.isAgg9
 z9:=Tryz.sizeOf9
 v9:=Tryz.zeroValue9
 t20:=Tryz.underlying20
 a20:=Tryz.isAgg20
 z20:=Tryz.sizeOf20
 v20:=Tryz.zeroValue20
 t37:=Tryz.underlying22
 a37:=Tryz.isAgg22
 z37:=Tryz.sizeOf22
 v37:=Tryz.zeroValue22
 t46:=Tryz.underlying170
 a46:=Tryz.isAgg170
 z46:=Tryz.sizeOf170
 v46:=Tryz.zeroValue170
 t51:=Tryz.underlying226
 a51:=Tryz.isAgg226
 z51:=Tryz.sizeOf226
 v51:=Tryz.zeroValue226
 t53:=Tryz.underlying82
 a53:=Tryz.isAgg82
 z53:=Tryz.sizeOf82
 v53:=Tryz.zeroValue82
 t70:=Tryz.underlying115
 a70:=Tryz.isAgg115
 z70:=Tryz.sizeOf115
 v70:=Tryz.zeroValue115
 t72:=Tryz.underlying117
 a72:=Tryz.isAgg117
 z72:=Tryz.sizeOf117
 v72:=Tryz.zeroValue117
 t75:=Tryz.underlying93
 a75:=Tryz.isAgg93
 z75:=Tryz.sizeOf93
 v75:=Tryz.zeroValue93
 t76:=Tryz.underlying119
 a76:=Tryz.isAgg119
 z76:=Tryz.sizeOf119
 v76:=Tryz.zeroValue119
 t109:=Tryz.underlying208
 a109:=Tryz.isAgg208
 z109:=Tryz.sizeOf208
 v109:=Tryz.zeroValue208
 t127:=Tryz.underlying164
 a127:=Tryz.isAgg164
 z127:=Tryz.sizeOf164
 v127:=Tryz.zeroValue164
 t146:=Tryz.underlying230
 a146:=Tryz.isAgg230
 z146:=Tryz.sizeOf230
 v146:=Tryz.zeroValue230
 t148:=Tryz.underlying232
 a148:=Tryz.isAgg232
 z148:=Tryz.sizeOf232
 v148:=Tryz.zeroValue232
 t164:=Tryz.underlying205
 a164:=Tryz.isAgg205
 z164:=Tryz.sizeOf205
 v164:=Tryz.zeroValue205 }
theorem Tryz.Builder_Extra_105 : Builder.Extra Tryz.prog Tryz.lays105_ren := {
 sizeBuilder:=by kernel_rfl
 liesBuilder:=by kernel_rfl
 t5:=Tryz.underlying5
 a5:=Tryz.isAgg5
 z5:=Tryz.sizeOf5
 v5:=Tryz.zeroValue5
 infoByte:=by kernel_rfl
 cellsByte:=by kernel_rfl
 sizeByte:=by kernel_rfl
 neB5:=by decide }
end Go.Proofs
namespace Go.Ab
open Go Go.Proofs
theorem y1n (w:World) (k:Nat) (os:Array Obj):Grow w (Go.Sort.grow (w.drewN k) os):=by
 refine⟨rfl,rfl,rfl,?_,fun i hi => ?_⟩
 ·show w.heap.size<=(w.heap++os).size
  simp
 ·show(w.heap++os)[i]? = w.heap[i]?
  rw[Array.getElem?_append_left hi]
open Go.RowKit in
theorem yug {w w':World} (h:Below w.heap.size w w'):Grow w w':=⟨h.os,h.tape,h.output,h.size,fun k hk=>h.block k hk⟩
theorem ypd (u:Nat):(Go.Lib.decDigits u).length<=u / 2+1:=by
 induction u using Nat.strongRecOn with
 | ind u ih=>
  rw[Go.Lib.decDigits];split
  ·simp
  ·have:=ih (u / 10) (by omega)
   simp only[List.length_append,List.length_cons,List.length_nil];omega
theorem yx4 {n:Int} (h1 : -9223372036854775808<=n) (h2:n<=9223372036854775807):(Go.Lib.itoa n).length<=maxLen:=by
 unfold Go.Lib.itoa maxLen;split
 ·have:=ypd n.natAbs
  simp only[List.length_cons];omega
 ·have:=ypd n.toNat
  omega
theorem yom (l:List UInt8) (c:Nat):(Go.Lib.repeatL l c).length=l.length * c:=by
 rw[Go.Lib.repeatL_length,Nat.mul_comm]
end Go.Ab
namespace Go.Ab
open Go Go.Proofs
theorem yzq (w:World) (T:TypeId) (l ex:List Value) (hm:(l++ex).length<=maxLen) :
  AppOut w (w.alloc (.cells (l++ex).toArray T)) T 1 l.length 0 none ((List.range l.length).flatMap fun i=>[l.getD i default]) [] w.heap.size (l.length+ex.length) (l++ex).toArray:=by
 have hflat:(List.range l.length).flatMap (fun i=>[l.getD i default])=l:=by
  have : ∀ (k : List Nat), k.flatMap (fun i => [l.getD i default]) = k.map (fun i => l.getD i default) := fun k => by induction k with
   | nil=>rfl
   | cons a k ih=>rw[List.flatMap_cons,ih];rfl
  rw[this];exact yyb l
 rw[List.length_append]at hm;refine⟨rfl,rfl,rfl,by simp,?_,heap_alloc_new w _,by simp,by omega,hm,?_,fun j hj=>by omega,.inr rfl⟩
 ·intro k hk _
  show(w.heap.push _)[k]? = _;rw[Array.getElem?_push,if_neg (by omega)]
 ·intro j hj
  rw[hflat];simp only[List.getElem?_toArray];rw[List.getElem?_append_left (by omega)]
theorem y5m (c : UInt8) : ∀ (k : Nat) (s : List UInt8), (Lib.splitK [c] 0 k s).length <= k + 1 /\ ∀ x ∈ Lib.splitK [c] 0 k s, x.length <= s.length
 | 0,s=>by simp[Lib.splitK]
 | k+1,s=>by
  unfold Lib.splitK;split
  ·simp
  ·have h:=y5m c k (s.drop ((Lib.index s [c]).toNat+[c].length))
   refine⟨by rw[List.length_cons];omega,fun x hx => ?_⟩;rcases List.mem_cons.1 hx with rfl|hx
   ·rw[List.length_take];omega
   ·have:=h.2 x hx
    rw[List.length_drop]at this;omega
theorem yyy {f : FuncId} {T : TypeId} (hok : FnOk Tryz.prog f) (a0 a1 : List UInt8) (a2 : Int) (hp0 : a0.length <= 1048576) (hp1 : a1.length = 1) (hp2 : a2 = 4)
  (hS:∀ (s sep:ByteArray) (m:Int) (w:World),s.size<4294967281->w.cell? ⟨0,0,none⟩=some (.int .i64 m)->1<=sep.size->Calls Tryz.prog f #[.string s,.string sep,.int .i64 ((4:Nat):Int)] w fun e w'=>
   e=.returned (.slice (some ⟨w.heap.size,0,none⟩) (Lib.splitB sep 0 (min 4 (s.size+1)-1) s).length (min 4 (s.size+1)))/\w'=w.alloc (.cells (Lib.cellsOf (Lib.splitB sep 0 (min 4 (s.size+1)-1) s) (min 4 (s.size+1))) T)) :
  Den Tryz.prog f [.str a0,.str a1,.int .i64 a2] (ownL T 1 (fun s:List UInt8=>[.str s]) (Lib.splitK [a1.getD 0 0] 0 (min 4 (a0.length+1)-1) a0)):=by
 subst hp2;obtain⟨c,rfl⟩:∃ c,a1=[c]:=List.length_eq_one_iff.1 hp1;show Den Tryz.prog f [.str a0,.str [c],.int .i64 4] (ownL T 1 (fun s:List UInt8=>[.str s]) (Lib.splitK [c] 0 (min 4 (a0.length+1)-1) a0));generalize hq:Lib.splitK [c] 0 (min 4 (a0.length+1)-1) a0=q;obtain⟨l1,l2⟩:=y5m c (min 4 (a0.length+1)-1) a0;rw[hq]at l1 l2
 have hl:Lib.splitB ⟨#[c]⟩ 0 (min 4 (a0.length+1)-1) ⟨a0.toArray⟩=q.map fun x=>(⟨x.toArray⟩:ByteArray):=by
  have h1:=Lib.splitB_data ⟨#[c]⟩ 0 (min 4 (a0.length+1)-1) ⟨a0.toArray⟩;rw[show Lib.splitK (⟨#[c]⟩:ByteArray).data.toList 0 (min 4 (a0.length+1)-1) (⟨a0.toArray⟩:ByteArray).data.toList=q from hq]at h1;rw[<- h1,List.map_map];refine(List.map_id'' (fun x => ?_) _).symm;rfl
 have hnth:∀ i,i<q.length->(q.getD i default).length<=maxLen:=by
  intro i hi
  have:q.getD i default∈q:=by
   rw[List.getD_eq_getElem?_getD,List.getElem?_eq_getElem hi];simp
  have:=l2 _ this;unfold maxLen;omega
 refine Den.fresh (T:=T) (e:=1) (enc:=fun s:List UInt8=>[.str s]) (l:=q) hok (by simp[yob,yxb]) (fun i=>[Value.string ⟨(q.getD i default).toArray⟩]) (fun w M i hi=>⟨?_,rfl,by simp[Value.oneCell']⟩) ?_
 ·simp only[RepL]
  exact⟨_,[],[],[],rfl,rfl,y1b _ (hnth i hi),rfl,rfl⟩
 ·intro w M vs hI hr
  simp only[RepL]at hr;obtain⟨u0,us0,f0,g0,rfl,h0e,h0,u1,us1,f1,g1,rfl,h1e,h1,u2,us2,f2,g2,rfl,h2e,h2,rfl,_⟩:=hr;have e0:=h0.val_str;have e1:=h1.val_str;have e2:=h2.val_int;subst e0 e1 e2;obtain⟨m,hm⟩:=hI.1.2;refine(hS ⟨a0.toArray⟩ ⟨#[c]⟩ m w (by show a0.length<_;omega) hm (by show 1<=1;omega)).mono ?_;have hsz:(⟨a0.toArray⟩:ByteArray).size=a0.length:=by simp[ByteArray.size]
  rw[hsz,hl];rintro e w' ⟨rfl,rfl⟩
  have hlq:(q.map fun x=>(⟨x.toArray⟩:ByteArray)).length=q.length:=by rw[List.length_map]
  have hcells:Lib.cellsOf (q.map fun x=>(⟨x.toArray⟩:ByteArray)) (min 4 (a0.length+1))=((q.map fun x=>Value.string ⟨x.toArray⟩)++List.replicate (min 4 (a0.length+1)-q.length) (Value.string ByteArray.empty)).toArray:=by
   unfold Lib.cellsOf;rw[List.map_map,hlq];rfl
  rw[hlq,hcells];have hfl:=yzq w T (q.map fun x=>Value.string ⟨x.toArray⟩) (List.replicate (min 4 (a0.length+1)-q.length) (Value.string ByteArray.empty)) (by rw[List.length_append,List.length_map,List.length_replicate];unfold maxLen;omega);rw[List.length_map,List.length_replicate]at hfl
  have hus:((List.range q.length).flatMap fun i=>[(q.map fun x=>Value.string ⟨x.toArray⟩).getD i default])=(List.range q.length).flatMap fun i=>[Value.string ⟨(q.getD i default).toArray⟩]:=by
   rw[List.flatMap_def,List.flatMap_def];congr 1
   apply List.map_congr_left;intro i hi;have hi:=List.mem_range.1 hi;simp[List.getD_eq_getElem?_getD,List.getElem?_map,List.getElem?_eq_getElem hi]
  rw[hus]at hfl;have hcap:q.length+(min 4 (a0.length+1)-q.length)=min 4 (a0.length+1):=by omega
  rw[hcap]at hfl;exact⟨w.heap.size,_,_,rfl,hfl⟩
def zx (a0:(List UInt8)) (a1:(List UInt8)) (a2:Int):(List (List UInt8)):=Go.Lib.splitK [a1.getD 0 0] 0 (min 4 (a0.length+1)-1) a0
theorem y9bb (a0:(List UInt8)) (a1:(List UInt8)) (a2:Int) (hp0:a0.length<=1048576) (hp1:a1.length=1) (hp2:a2=4):Den Tryz.prog 23 [.str a0,.str a1,.int .i64 a2] (ownL 9 1 eS (zx a0 a1 a2)):=by
 exact yyy ⟨_,Tryz.func23,rfl,rfl⟩ a0 a1 a2 hp0 hp1 hp2 (fun s sep m w h1 h2 h3=>Any.strings_SplitN Tryz.lays147 (by kernel_rfl) s sep 4 m w h1 h2 h3 (by decide) (by decide))
def D_zx : DF
 | [x0,x1,x2]=>some (ownL 9 1 eS (zx (rdS x0) (rdS x1) (rdI x2)),false,[wS x0,wS x1,wI .i64 x2,(rdS x0).length<=1048576,(rdS x1).length=1,(rdI x2)=4])
 | _=>none
theorem y1ab:OkD Tryz.prog 23 D_zx:=by
 intro xs r z ob h ho;unfold D_zx at h;split at h
 ·simp only[Option.some.injEq,Prod.mk.injEq]at h
  obtain⟨rfl,rfl,rfl⟩:=h;obtain⟨h0,h1,h2,hp0,hp1,hp2,_⟩:=ho;exact Den.sim (y9bb _ _ _ hp0 hp1 hp2) (yp (yfb h0).1 <| yp (yfb h1).1 <| yp (yod h2).1 <| trivial) (yt (yfb h0).2 <| yt (yfb h1).2 <| yt (yod h2).2 <| rfl) rfl
 ·cases h
theorem y4r (s:List UInt8):zx s [32] 4=(cutK 32 (min 4 (s.length+1)-1) s).1++[(cutK 32 (min 4 (s.length+1)-1) s).2]:=ynm 32 _ s
theorem yoy (s:List UInt8) (hs:s.length<=1048576):(∀ i:Nat,((zx s [32] 4).getD i default).length<=1048576)/\(zx s [32] 4).length<=4:=by
 rw[y4r];obtain⟨h1,h2,h3⟩:=ykp 32 (min 4 (s.length+1)-1) s;refine⟨fun i => ?_,by rw[List.length_append,List.length_singleton];omega⟩;rw[List.getD_eq_getElem?_getD]
 cases hg:((cutK 32 (min 4 (s.length+1)-1) s).1++[(cutK 32 (min 4 (s.length+1)-1) s).2])[i]? with
 | none=>exact Nat.zero_le _
 | some x=>
  show x.length<=_;rcases List.mem_append.1 (List.mem_of_getElem? hg)with h|h
  ·have:=h3 x h;omega
  ·rw[List.mem_singleton]at h;subst h;omega
theorem ya3 (s:List UInt8):(∃ a b d r,cutK 32 3 s=([a,b,d],r)/\zx s [32] 4=[a,b,d,r]/\s=a++32::(b++32::(d++32::r)))\/((cutK 32 3 s).1.length≠3/\(zx s [32] 4).length≠4):=by
 rw[y4r];by_cases h3:(cutK 32 3 s).1.length=3
 ·have hl:=(ykp 32 3 s).2.1
  obtain⟨a,b,d,r,h1,h2,_⟩:=cut3 h3;rw[show min 4 (s.length+1)-1=3 by omega];exact .inl ⟨a,b,d,r,h1,by rw[h1];rfl,h2⟩
 ·refine .inr ⟨h3,?_⟩
  rw[List.length_append,List.length_singleton];have hl:=(ykp 32 (min 4 (s.length+1)-1) s).1;by_cases hs:3<=s.length
  ·rw[show min 4 (s.length+1)-1=3 by omega];omega
  ·omega
end Go.Ab
namespace Go.Ab
open Go
structure RdOk {α:Type} (V:α->Prop) (T:α->List UInt8) (z:α) (f:List UInt8->α×Bool) (N:Nat):Prop where
 r1:∀ p,V p->(T p).length<=N->f (T p)=(p,true)
 r2:∀ a:List UInt8,a.length<=N->(f a).2=true->V (f a).1/\a=T (f a).1
 r3:∀ a:List UInt8,a.length<=N->(f a).2=false->(f a).1=z
theorem RdOk.of {α:Type} {V:α->Prop} {T:α->List UInt8} {z:α} {f:List UInt8->α×Bool} {N:Nat} (r1:∀ p,V p->(T p).length<=N->f (T p)=(p,true)) (inv:∀ a:List UInt8,a.length<=N->f a=(z,false)\/∃ p,f a=(p,true)/\V p/\a=T p):RdOk V T z f N:=
 ⟨r1,fun a h e=>by
  rcases inv a h with h1|⟨p,h1,h2,h3⟩
  ·rw[h1]at e;cases e
  ·rw[h1];exact⟨h2,h3⟩,fun a h e=>by
  rcases inv a h with h1|⟨p,h1,h2,h3⟩
  ·rw[h1]
  ·rw[h1]at e;cases e⟩
theorem yrm {α:Type} [Inhabited α] (l:List α) (j:Nat) (hj:j<l.length):l.take j++[l.getD j default]=l.take (j+1):=by
 rw[List.take_succ_eq_append_getElem hj,List.getD_eq_getElem?_getD,List.getElem?_eq_getElem hj];rfl
def y8d (l:List UInt8):Prop:=∀ b∈l,48<=b.toNat/\b.toNat<=57
instance (l:List UInt8):Decidable (y8d l):=by unfold y8d;infer_instance
def digV (n:Nat) (l:List UInt8):Nat:=l.foldl (fun k b=>10 * k+(b.toNat-48)) n
theorem y9e (n:Nat):digV n []=n:=List.foldl_nil
theorem y8b (n:Nat) (c:UInt8) (l:List UInt8):digV n (c::l)=digV (10 * n+(c.toNat-48)) l:=List.foldl_cons ..
theorem y20 (b:UInt8) (l:List UInt8) (n:Nat):digV n (l++[b])=10 * digV n l+(b.toNat-48):=by
 unfold digV;rw[List.foldl_append,List.foldl_cons,List.foldl_nil]
theorem yp9 (l:List UInt8):∀ (n:Nat),y8d l->digV n l<(n+1) * 10 ^ l.length:=by
 induction l with
 | nil=>intro n _;rw[y9e,List.length_nil,Nat.pow_zero];omega
 | cons c l ih=>
  intro n h;have hc:=h c (by simp);have h1:=ih (10 * n+(c.toNat-48)) (fun b hb=>h b (by simp[hb]));rw[y8b,List.length_cons,Nat.pow_succ];have h2:(10 * n+(c.toNat-48)+1) * 10 ^ l.length<=((n+1) * 10) * 10 ^ l.length:=Nat.mul_le_mul_right _ (by omega);have h3:((n+1) * 10) * 10 ^ l.length=(n+1) * (10 ^ l.length * 10):=by rw[Nat.mul_assoc,Nat.mul_comm 10]
  omega
theorem ypz (l:List UInt8):∀ (n:Nat),n * 10 ^ l.length<=digV n l:=by
 induction l with
 | nil=>intro n;rw[y9e,List.length_nil,Nat.pow_zero];omega
 | cons c l ih=>
  intro n;have h1:=ih (10 * n+(c.toNat-48));rw[y8b,List.length_cons,Nat.pow_succ];have h2:(n * 10) * 10 ^ l.length<=(10 * n+(c.toNat-48)) * 10 ^ l.length:=Nat.mul_le_mul_right _ (by omega);have h3:(n * 10) * 10 ^ l.length=n * (10 ^ l.length * 10):=by rw[Nat.mul_assoc,Nat.mul_comm 10]
  omega
theorem ywb (m:Nat) (h:¬ m<10):Lib.decDigits m=Lib.decDigits (m / 10)++[UInt8.ofNat (48+m % 10)]:=by
 rw[Lib.decDigits,dif_neg h]
theorem yun (d:Nat) (h:d<10):(UInt8.ofNat (48+d)).toNat=48+d:=by
 rw[UInt8.toNat_ofNat'];omega
theorem yub (m:Nat):y8d (Lib.decDigits m)/\digV 0 (Lib.decDigits m)=m/\Lib.decDigits m≠[]/\(1<=m->(Lib.decDigits m).getD 0 0≠48):=by
 induction m using Nat.strongRecOn with
 | ind m ih=>
  by_cases h:m<10
  ·rw[Lib.decDigits_one h]
   refine⟨fun b hb => ?_,?_,by simp,fun h1 => ?_⟩
   ·simp only[List.mem_singleton]at hb
    subst hb;rw[yun m h];omega
   ·rw[y8b,y9e,yun m h];omega
   ·intro e
    have e2:(UInt8.ofNat (48+m)).toNat=48:=by
     have:(UInt8.ofNat (48+m))=48:=by simpa using e
     rw[this];rfl
    rw[yun m h]at e2;omega
  ·obtain⟨i1,i2,i3,i4⟩:=ih (m / 10) (by omega)
   rw[ywb m h];refine⟨fun b hb => ?_,?_,by simp,fun _ => ?_⟩
   ·rcases List.mem_append.1 hb with hb|hb
    ·exact i1 b hb
    ·simp only[List.mem_singleton]at hb
     subst hb;rw[yun _ (by omega)];omega
   ·rw[y20,i2,yun _ (by omega)];omega
   ·obtain⟨c,t,e⟩:=List.exists_cons_of_ne_nil i3
    have:=i4 (by omega);rw[e]at this ⊢;simpa using this
theorem y5c (m:Nat):(Lib.decDigits m).length<=18↔m<1000000000000000000:=by
 obtain⟨h1,h2,h3,h4⟩:=yub m;constructor
 ·intro h
  have:=yp9 (Lib.decDigits m) 0 h1;rw[h2]at this;have h5:10 ^ (Lib.decDigits m).length<=10 ^ 18:=Nat.pow_le_pow_right (by decide) h;have h6:(10:Nat) ^ 18=1000000000000000000:=by decide
  omega
 ·intro h
  by_cases hl:(Lib.decDigits m).length<=18
  ·exact hl
  ·exfalso
   obtain⟨c,t,e⟩:=List.exists_cons_of_ne_nil h3
   have hm:1<=m:=by
    by_cases h0:m=0
    ·subst h0;rw[Lib.decDigits_one (by decide)]at hl;simp at hl
    ·omega
   have h48:=h4 hm;rw[e]at h48 h1 h2 hl;have hc:=h1 c (by simp)
   have hc1:49<=c.toNat:=by
    have:c.toNat≠48:=fun e2=>h48 (by
     have:c=48:=UInt8.toNat_inj.1 (by rw[e2];rfl)
     simp[this])
    omega
   have h5:=ypz t (10 * 0+(c.toNat-48));have h6:digV 0 (c::t)=digV (10 * 0+(c.toNat-48)) t:=y8b ..;have h7:10 ^ 18<=10 ^ t.length:=Nat.pow_le_pow_right (by decide) (by simp at hl;omega);have h8:(10:Nat) ^ 18=1000000000000000000:=by decide
   have h9:1 * 10 ^ t.length<=(10 * 0+(c.toNat-48)) * 10 ^ t.length:=Nat.mul_le_mul_right _ (by omega);omega
theorem yvm (M:Nat) (l:List UInt8):∀ (n:Nat),y8d l->digV n l<=M->M<18446744073709551616->Lib.parseUintM M n l=.ok (digV n l):=by
 induction l with
 | nil=>intro n _ _ _;rw[y9e,Lib.parseUintM]
 | cons c l ih=>
  intro n h hM h64;have hc:=h c (by simp);have h1:=ypz l (10 * n+(c.toNat-48));have h2:1<=10 ^ l.length:=Nat.one_le_pow _ _ (by decide);have h3:(10 * n+(c.toNat-48)) * 1<=(10 * n+(c.toNat-48)) * 10 ^ l.length:=Nat.mul_le_mul_left _ h2;rw[y8b]at hM ⊢;rw[Lib.parseUintM,if_pos hc,if_neg (by omega),if_neg (by omega),Nat.mul_comm n 10];exact ih _ (fun b hb=>h b (by simp[hb])) hM h64
end Go.Ab
