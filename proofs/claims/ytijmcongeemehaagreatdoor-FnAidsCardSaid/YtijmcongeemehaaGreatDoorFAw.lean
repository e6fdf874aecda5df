/- A part of a proof: walks of functions and lemmas of our own. No conditions. -/
import Derived.Test.YtijmcongeemehaaGreatDoorFAl
import Derived.Test.YtijmcongeemehaaGreatDoorFAu
import Derived.Test.YtijmcongeemehaaGreatDoorFAv
import Derived.Test.YtijmcongeemehaaGreatDoorFAt
import Derived.Test.YtijmcongeemehaaGreatDoorFAo
import Derived.Test.YtijmcongeemehaaGreatDoorFAk
import Derived.Test.YtijmcongeemehaaGreatDoorFAp
set_option linter.unusedSectionVars false
set_option linter.unusedVariables false
set_option linter.unusedSimpArgs false
set_option maxHeartbeats 1000000
namespace Go.Ab
open Go Go.Proofs
def zme (a0:(List UInt8)):(Point×Bool):=
 (bif (((ze a0 44).length:Int) != 2)then({ X:=0,Y:=0:Point },false)else(bif (((!((zq ((ze a0 44).getD 0 default)).2)) || (!((zq ((ze a0 44).getD 1 default)).2))) || (!(zdc ({ X:=(zq ((ze a0 44).getD 0 default)).1,Y:=(zq ((ze a0 44).getD 1 default)).1:Point }))))then({ X:=0,Y:=0:Point },false)else({ X:=(zq ((ze a0 44).getD 0 default)).1,Y:=(zq ((ze a0 44).getD 1 default)).1:Point },true)))
def yok (a0:(List UInt8)) (i1:Nat) (s1:List Sector):Except (((List Sector)×Bool)) (List Sector):=
 (bif ((((ze ((ze a0 44).getD i1 default) 45).length:Int) != 2) || decide ((((ze ((ze a0 44).getD i1 default) 45).getD 1 default).length:Int)<2))then .error ([],false)else(bif ((!((zq ((ze ((ze a0 44).getD i1 default) 45).getD 0 default)).2)) || (!((zq (((ze ((ze a0 44).getD i1 default) 45).getD 1 default).take ((IntKind.wrap .i64 ((((ze ((ze a0 44).getD i1 default) 45).getD 1 default).length:Int)-1)).toNat))).2)))then .error ([],false)else .ok (s1++[{ From:=(zq ((ze ((ze a0 44).getD i1 default) 45).getD 0 default)).1,To:=(zq (((ze ((ze a0 44).getD i1 default) 45).getD 1 default).take ((IntKind.wrap .i64 ((((ze ((ze a0 44).getD i1 default) 45).getD 1 default).length:Int)-1)).toNat))).1,Color:=(((ze ((ze a0 44).getD i1 default) 45).getD 1 default).take (((ze ((ze a0 44).getD i1 default) 45).getD 1 default).length)).drop ((IntKind.wrap .i64 ((((ze ((ze a0 44).getD i1 default) 45).getD 1 default).length:Int)-1)).toNat):Sector }])))
def zwc (a0:(List UInt8)):((List Sector)×Bool):=
 (bif (a0 == [45])then(([]:List Sector),true)else(bif decide (12<((ze a0 44).length:Int))then([],false)else(match yf (yok a0) (((ze a0 44).length)-0) 0 ([]:List Sector)with|.error e=>e|.ok s1=>(bif (!(zy s1))then([],false)else(s1,true)))))
def yx8 (a0:(List UInt8)) (s1:List UInt8×List UInt8×Int):Except (Sum ((Character×Bool)) (List UInt8×List UInt8×Int)) (List UInt8×List UInt8×Int):=
 (bif decide (s1.2.2<(s1.1.length:Int))then(bif ((((s1.1.getD ((s1.2.2).toNat) 0).toNat:Int) == 40) && (((s1.1.getD ((IntKind.wrap .i64 ((s1.1.length:Int)-1)).toNat) 0).toNat:Int) == 41))then .error (.inr (s1.1.take ((s1.2.2).toNat),(s1.1.take ((IntKind.wrap .i64 ((s1.1.length:Int)-1)).toNat)).drop ((IntKind.wrap .i64 (s1.2.2+1)).toNat),s1.2.2))else .ok (s1.1,s1.2.1,IntKind.wrap .i64 (s1.2.2+1)))else .error (.inr (s1.1,s1.2.1,s1.2.2)))
def yf8 (a0:(List UInt8)) (s1:List UInt8×List UInt8×Int) (i2:Nat) (s2:Int):Except ((Character×Bool)) (Int):=
 (bif (((zxf ).getD i2 default) == s1.1)then .ok (i2:Int)else .ok s2)
def yb6 (a0:(List UInt8)) (s1:List UInt8×List UInt8×Int) (s2:Int) (i3:Nat) (s3:List Int):Except ((Character×Bool)) (List Int):=
 (bif (!((zq ((ze s1.2.1 43).getD i3 default)).2))then .error ({ Kind:=s2,Group:=s3,Letter:=[76],Colors:=[],Period:=0:Character },false)else .ok (s3++([(zq ((ze s1.2.1 43).getD i3 default)).1]:List Int)))
def ys7 (a0:(List UInt8)) (s4:List UInt8×List UInt8×Int):Except (Sum ((Character×Bool)) (List UInt8×List UInt8×Int)) (List UInt8×List UInt8×Int):=
 (bif decide (s4.2.2<(s4.1.length:Int))then(bif ((((s4.1.getD ((s4.2.2).toNat) 0).toNat:Int) == 40) && (((s4.1.getD ((IntKind.wrap .i64 ((s4.1.length:Int)-1)).toNat) 0).toNat:Int) == 41))then .error (.inr (s4.1.take ((s4.2.2).toNat),(s4.1.take ((IntKind.wrap .i64 ((s4.1.length:Int)-1)).toNat)).drop ((IntKind.wrap .i64 (s4.2.2+1)).toNat),s4.2.2))else .ok (s4.1,s4.2.1,IntKind.wrap .i64 (s4.2.2+1)))else .error (.inr (s4.1,s4.2.1,s4.2.2)))
def yv3 (a0:(List UInt8)) (s4:List UInt8×List UInt8×Int) (i5:Nat) (s5:Int):Except ((Character×Bool)) (Int):=
 (bif (((zxf ).getD i5 default) == s4.1)then .ok (i5:Int)else .ok s5)
def yo5 (a0:(List UInt8)) (s4:List UInt8×List UInt8×Int) (s5:Int) (i6:Nat) (s6:List Int):Except ((Character×Bool)) (List Int):=
 (bif (!((zq ((ze s4.2.1 43).getD i6 default)).2))then .error ({ Kind:=s5,Group:=s6,Letter:=[],Colors:=[],Period:=0:Character },false)else .ok (s6++([(zq ((ze s4.2.1 43).getD i6 default)).1]:List Int)))
def zz (a0:(List UInt8)):(Character×Bool):=
 (bif (decide (4<(a0.length:Int)) && (((a0.take a0.length).drop ((IntKind.wrap .i64 ((a0.length:Int)-4)).toNat)) == [43,76,70,108]))then(match y0 (yx8 a0) (((a0.length-(0:Int)).toNat)+1) (a0.take ((IntKind.wrap .i64 ((a0.length:Int)-4)).toNat),[],0)with|.error (.inl e)=>e|.error (.inr s1)=>(match yf (yf8 a0 s1) (((zxf ).length)-1) 1 0 with|.error e=>e|.ok s2=>(bif (s2 == 8)then({ Kind:=s2,Group:=[],Letter:=[76]++s1.2.1,Colors:=[],Period:=0:Character },true)else(bif (s1.2.1 == [])then({ Kind:=s2,Group:=[],Letter:=[76],Colors:=[],Period:=0:Character },decide (0<s2))else(match yf (yb6 a0 s1 s2) (((ze s1.2.1 43).length)-0) 0 ([]:List Int)with|.error e=>e|.ok s3=>({ Kind:=s2,Group:=s3,Letter:=[76],Colors:=[],Period:=0:Character },decide (0<s2))))))|.ok _=>default)else(match y0 (ys7 a0) (((a0.length-(0:Int)).toNat)+1) (a0,[],0)with|.error (.inl e)=>e|.error (.inr s4)=>(match yf (yv3 a0 s4) (((zxf ).length)-1) 1 0 with|.error e=>e|.ok s5=>(bif (s5 == 8)then({ Kind:=s5,Group:=[],Letter:=[]++s4.2.1,Colors:=[],Period:=0:Character },true)else(bif (s4.2.1 == [])then({ Kind:=s5,Group:=[],Letter:=[],Colors:=[],Period:=0:Character },decide (0<s5))else(match yf (yo5 a0 s4 s5) (((ze s4.2.1 43).length)-0) 0 ([]:List Int)with|.error e=>e|.ok s6=>({ Kind:=s5,Group:=s6,Letter:=[],Colors:=[],Period:=0:Character },decide (0<s5))))))|.ok _=>default))
end Go.Ab
